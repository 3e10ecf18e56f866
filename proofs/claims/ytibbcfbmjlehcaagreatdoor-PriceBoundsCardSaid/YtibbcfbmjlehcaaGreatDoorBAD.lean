/-
  Calls.
-/
import Derived.Test.YtibbcfbmjlehcaaGreatDoorBAC
set_option linter.defProp false
set_option linter.unusedSimpArgs false
set_option linter.unusedVariables false
noncomputable section
namespace Cx
open Go Go.RowKit
open Classical in
def Im.noM (V:Im):Im:=⟨V.c,λk=>if V.m k=some cC then none else V.m k⟩
def Rep.noM {cap:Nat->Option CSig}{V:Im}{t:Ty}{v:Value}{d:D}(h:Rep cap V t v d):Rep cap V.noM t v d:=by
 induction h with
 |int k n h1 h2=>exact .int k n h1 h2
 |bool b=>exact .bool b
 |str s h=>exact .str s h
 |agg ts vs ds h1 h2 _ ho ih=>exact .agg ts vs ds h1 h2 ih ho
 |tup ts vs ds h1 h2 _ ih=>exact .tup ts vs ds h1 h2 ih
 |nil e=>exact .nil e
 |emp e a=>exact .emp e a
 |nils e=>exact .nils e
 |nsl0 e=>exact .nsl0 e
 |nsl e k o n c xs _ hx ih=>exact .nsl e k o n c xs ih hx
 |slice e k o n c xs vs hn hc hm _ hv hz ih=>
  refine .slice e k o n c xs vs hn hc hm ih hv λe=>?_;have:=hz e;have au:V.m k≠some cC:=λe'=>by rw[this] at e';exact wQ (tX e')
  simp only[Im.noM,if_neg au,this]
 |mapnil kt et=>exact .mapnil kt et
 |map kt et r ia es hm hl hx hk _ kU Gj=>
  refine .map kt et r ia es ?_ hl hx kU Gj;have au:V.m r≠some cC:=λe=>by rw[hm] at e;cases e;exact GA hl hk rfl
  simp only[Im.noM,if_neg au,hm]
 |ref t k o v d _ hv ih=>exact .ref t k o v d ih hv
 |fn f cs vs ds hc h1 h2 _ ih=>exact .fn f cs vs ds hc h1 h2 ih
 |fnnil aa r=>exact .fnnil aa r
def Im.plus (V τ:Im):Im:=⟨λk o=>(V.c k o).or (τ.c k o),λk=>(V.m k).or (τ.m k)⟩
def Im.plus_le1 (V τ:Im):V.le (V.plus τ):=⟨λk o v h=>by simp[Im.plus,h],λk v h=>by simp[Im.plus,h]⟩
def pU.det {w:World}{k:Nat}{x y:List (Value×Value)}(h:pU w k x)(g:pU w k y):x=y:=by
 rcases h with⟨_,a,c,h1,h2⟩|⟨h1,h2⟩|⟨h1,_,_,_,h2⟩<;>rcases g with⟨_,a',c',g1,g2⟩|⟨g1,g2⟩|⟨g1,_,_,_,g2⟩
 .rw[h1] at g1;cases g1;rw[<-h2,<-g2]
 .rw[h1] at g2;cases g2
 .rw[h1] at g2;cases g2
 .rw[h2] at g1;cases g1
 .rw[h1,g1]
 .rw[h2] at g2;cases g2
 .rw[h2] at g1;cases g1
 .rw[h2] at g2;cases g2
 .rw[h1,g1]
def Im.plus_le2 {V τ:Im}{w:World}(h:V.ok w)(g:τ.ok w):τ.le (V.plus τ):=by
 refine⟨λk o v e=>?_,λk v e=>?_⟩
 .show(V.c k o).or (τ.c k o)=some v;cases hc:V.c k o with
  |none=>simpa using e
  |some u=>have:=(h.c k o u hc).symm.trans (g.c k o v e);simpa using this
 .show(V.m k).or (τ.m k)=some v;cases hc:V.m k with
  |none=>simpa using e
  |some u=>simpa using(h.m k u hc).det (g.m k v e)
def Im.plus_ok {V τ:Im}{w:World}(h:V.ok w)(g:τ.ok w):(V.plus τ).ok w:=by
 refine⟨λk o v e=>?_,λk v e=>?_,λk o v e=>?_⟩
 .change (V.c k o).or (τ.c k o)=some v at e;cases hc:V.c k o with
  |none=>rw[hc] at e;exact g.c k o v (by simpa using e)
  |some u=>rw[hc] at e;simp at e;subst e;exact h.c k o u hc
 .change (V.m k).or (τ.m k)=some v at e;cases hc:V.m k with
  |none=>rw[hc] at e;exact g.m k v (by simpa using e)
  |some u=>rw[hc] at e;simp at e;subst e;exact h.m k u hc
 .change (V.c k o).or (τ.c k o)=some _ at e;cases hc:V.c k o with
  |none=>rw[hc] at e;exact g.f k o v (by simpa using e)
  |some u=>rw[hc] at e;simp at e;subst e;exact h.f k o v hc
def Im.plus_c {V τ:Im}{k o:Nat}{v:Value}(h:(V.plus τ).c k o=some v):V.c k o=some v\/τ.c k o=some v:=by
 change (V.c k o).or (τ.c k o)=some v at h;cases hc:V.c k o with
 |none=>rw[hc] at h;exact .inr (by simpa using h)
 |some u=>rw[hc] at h;exact .inl (by simpa using h)
def Im.plus_m {V τ:Im}{k:Nat}{v:List (Value×Value)}(h:(V.plus τ).m k=some v):V.m k=some v\/τ.m k=some v:=by
 change (V.m k).or (τ.m k)=some v at h;cases hc:V.m k with
 |none=>rw[hc] at h;exact .inr (by simpa using h)
 |some u=>rw[hc] at h;exact .inl (by simpa using h)
def Ty.pureT:Ty->Bool
 |.int _|.bool|.str|.nils _=>true
 |_=>false
def Ty.pure:Ty->Bool
 |.tup ts=>ts.all Ty.pureT
 |.agg ts=>ts.all Ty.pureT
 |t=>Ty.pureT t
def Rep.pureT {cap:Nat->Option CSig}{V τ:Im}{t:Ty}{v:Value}{d:D}(h:Rep cap V t v d)(hp:t.pureT=true):Rep cap τ t v d:=by
 cases h<;>simp[Ty.pureT] at hp<;>constructor<;>assumption
def Rep.pure {cap:Nat->Option CSig}{V τ:Im}{t:Ty}{v:Value}{d:D}(h:Rep cap V t v d)(hp:t.pure=true):Rep cap τ t v d:=by
 cases h with
 |agg ts vs ds h1 h2 h ho=>exact .agg ts vs ds h1 h2 (λi t hi=>(h i t hi).pureT (cN.1 hp t (j6 hi))) ho
 |tup ts vs ds h1 h2 h=>exact .tup ts vs ds h1 h2 (λi t hi=>(h i t hi).pureT (cN.1 hp t (j6 hi)))
 |int k n h1 h2=>exact .int k n h1 h2
 |bool b=>exact .bool b
 |str s h=>exact .str s h
 |nils e=>exact .nils e
 |_=>simp[Ty.pure,Ty.pureT] at hp
def aaE (C:Ctx)(V':Im)(B:Nat)(w':World)(ow:Nat->Option Nat)(i:Nat):RC->Value->D->Prop
 |.dat t,v,d=>t.one=true/\Rep C.cap V' t v d
 |.row T e,v,d=>∃cells xs,d=.list xs/\w'.ownsRow B T e.size v xs.length cells/\dy C.cap V' e cells xs/\∀k,v.ownBlock=some k->ow k=some i
def lU (C:Ctx)(s:Sig)(V':Im)(w w':World)(v:Value)(d:D):Prop:=
 match s.mode with
 |.dat=>Rep C.cap V' s.res v d
 |.it _=>True
 |.ob ..=>True
 |.rows l=>∃(vs:List Value) (ds:List D) (ow:Nat->Option Nat),v=.agg vs.toArray/\d=.agg ds/\vs.length=l.length/\ds.length=l.length/\(∀(i:Nat) (c:RC),l[i]?=some c->aaE C V' w.heap.size w' ow i c (vs.getD i undef) (ds.getD i .none))/\
   ∀k i,ow k=some i->w.heap.size<=k/\k<w'.heap.size/\(∀o,V'.c k o=none)/\V'.m k=none
 |.row T e=>∃cells xs,d=.list xs/\w'.ownsRow w.heap.size T e.size v xs.length cells/\dy C.cap V' e cells xs/\∀k,v.ownBlock=some k->(∀o,V'.c k o=none)/\V'.m k=none
def qv (C:Ctx)(V:Im)(ts:List Ty)(args:List Value)(ds:List D):Prop:=
 args.length=ts.length/\ds.length=ts.length/\∀(i:Nat) (t:Ty),ts[i]?=some t->Rep C.cap V t (args.getD i undef) (ds.getD i .none)
def iN (C:Ctx)(f:Nat)(s:Sig)(ds:List D)(d:D):Prop:=
 ∀(V:Im) (w:World) (args:Array Value),V.ok w->CtxOK C V->qv C V s.args args.toList ds->
  Calls C.P f args w λe w'=>∃v V',e=.returned v/\V.le V'/\V'.ok w'/\Below w.heap.size w w'/\
   (∀k o x,V'.c k o=some x->V.c k o=some x\/w.heap.size<=k)/\(∀k x,V'.m k=some x->V.m k=some x\/w.heap.size<=k)/\lU C s V' w w' v d
def eh:List (Nat×Ob)->Nat->Ob
 |[],_=>.dead
 |x::l,j=>bif Nat.beq x.1 j then x.2 else eh l j
def oK:List (Nat×Ob)->List D->Nat->D
 |x::l,d::ds,j=>bif Nat.beq x.1 j then d else oK l ds j
 |_,_,_=>.none
def fb (shs:List Sh)(obs:List (Nat×Ob)):St:=⟨λt=>shs.getD t .none,λj=>eh obs j,λ_=>0⟩
def lM (obs:List (Nat×Ob))(ds os:List D):Env:=⟨λt=>ds.getD t .none,λj=>oK obs os j⟩
def pR:Sh->Bool
 |.dat _=>true
 |_=>false
def rB:Mode->Bool
 |.ob ..=>true
 |_=>false
def uV:Sh->Bool
 |.none|.dat _|.obj ..|.ptr ..|.fclo ..=>true
 |_=>false
def MW:Ob->Bool
 |.row ..|.mp ..=>true
 |.box _ shs=>shs.all uV
 |_=>false
def zg (shs:List Sh)(obs:List (Nat×Ob)):Bool:=shs.all uV&&obs.all λx=>MW x.2
def Mm:List Sh->List (Nat×Ob)->Option (TypeId×Ty×List Ty)
 |.obj 0 0::l,[(0,.row T e),(1,.tr)]=>(abx l).map λts=>(T,e,ts)
 |_,_=>none
def xp (C:Ctx)(f:Nat)(T:TypeId)(e:Ty)(ts:List Ty)(ds:List D)(d:D):Prop:=
 ∀(N:Nat) (V:Im) (w:World) (v:Value) (args:List Value) (xs:List D) (cells:List Value) (ds':List D),ds=.list xs::ds'->V.ok w->CtxOK C V->N<=w.heap.size->w.ownsRow N T e.size v xs.length cells->dy C.cap V e cells xs->
  (∀k,v.ownBlock=some k->k<w.heap.size/\(∀o,V.c k o=none)/\V.m k=none)->qv C V ts args ds'->
  Calls C.P f (v::args).toArray w λx w'=>∃v' fl df,x=.returned v'/\d=.list fl/\Below N w w'/\(∀k,k<w.heap.size->v.ownBlock≠some k->w'.heap[k]?=w.heap[k]?)/\
   w'.ownsRow N T e.size v' fl.length df/\dy C.cap V e df fl/\∀k,v'.ownBlock=some k->(v.ownBlock=some k\/w.heap.size<=k)/\k<w'.heap.size
def tT (C:Ctx)(f:Nat)(shs:List Sh)(obs:List (Nat×Ob))(res:Ty)(ds:List D)(d:D):Prop:=
 ∀(N:Nat) (V:Im) (own:Nat->Option Nat) (hv:Nat->Value) (w:World) (args:Array Value) (cx:Nat->Prop),zg shs obs=true->V.ok w->CtxOK C V->(∀k,V.m k≠some cC)->N<=w.heap.size->args.size=shs.length->
  (∀k j,own k=some j->N<=k/\k<w.heap.size/\(∀o,V.c k o=none)/\V.m k=none)->
  (∀k,cx k->k<w.heap.size/\own k=none/\(∀o,V.c k o=none)/\V.m k=none)->
  (∀t,aG C (fb shs obs) (lM obs ds (ds.drop shs.length)) V hv (shs.getD t .none) (args.getD t undef) (ds.getD t .none))->
  (∀j,bZ C (fb shs obs) (lM obs ds (ds.drop shs.length)) V own hv w N j (eh obs j))->
  Calls C.P f args w λe w'=>∃v V' own' hv' dr os,e=.returned v/\d=.tup (dr::os)/\os.length=obs.length/\V.le V'/\V'.ok w'/\Below 0 w w'/\
   (∀k,k<w.heap.size->own k=none->w'.heap[k]?=w.heap[k]?)/\
   (∀k o x,V'.c k o=some x->(V.c k o=some x\/N<=k)/\¬cx k)/\(∀k x,V'.m k=some x->(V.m k=some x\/N<=k)/\¬cx k)/\(∀k,V'.m k=some cC->N<=k->k<w.heap.size->own k≠none)/\
   (∀k j,own' k=some j->N<=k/\k<w'.heap.size/\(∀o,V'.c k o=none)/\V'.m k=none/\(k<w.heap.size->own k≠none))/\
   (∀(t:Nat) (sh:Sh),shs[t]?=some sh->pR sh=false->aG C (fb shs obs) (lM obs ds os) V' hv' sh (args.getD t undef) (ds.getD t .none))/\
   (∀j,bZ C (fb shs obs) (lM obs ds os) V' own' hv' w' N j (eh obs j))/\Rep C.cap V' res v dr
def aG.ctx {C C':Ctx}(eP:C'.cap=C.cap){S:St}{O:Env}{V:Im}{hv:Nat->Value}{s:Sh}(hp:uV s=true){v:Value}{d:D}(h:aG C S O V hv s v d):aG C' S O V hv s v d:=by
 cases s with
 |dat t=>show Rep C'.cap V t v d;rw[eP];exact h
 |opt gs s=>cases hp
 |eptr j ver a b=>cases hp
 |yv=>cases hp
 |agg l=>cases hp
 |_=>exact h
def bZ.ctx {C C':Ctx}(eP:C'.cap=C.cap){S:St}{O:Env}{V:Im}{own:Nat->Option Nat}{hv:Nat->Value}{w:World}{N j:Nat}{ob:Ob}(hp:MW ob=true\/ob=.dead)(h:bZ C S O V own hv w N j ob):bZ C' S O V own hv w N j ob:=by
 rcases hp with hp|rfl
 .cases ob with
  |row T e=>obtain⟨cells,xs,h1,h2,h3,h4⟩:=h;exact⟨cells,xs,h1,h2,by rw[eP];exact h3,h4⟩
  |mp kt et=>obtain⟨k,arr,clock,es,h1,h2,h3,h4,h5,h6,h7⟩:=h;exact⟨k,arr,clock,es,h1,h2,h3,h4,h5,h6,by rw[eP];exact h7⟩
  |box ag shs=>
   obtain⟨k,cs,T,ds,h1,h2,h3,h4,h5,h6,h7⟩:=h;exact⟨k,cs,T,ds,h1,h2,h3,h4,h5,h6,λi s hs=>⟨(h7 i s hs).1,(h7 i s hs).2.ctx eP (cN.1 hp s (j6 hs))⟩⟩
  |_=>cases hp
 .trivial
def ae0 {obs:List (Nat×Ob)}(h:(obs.all λx=>MW x.2)=true)(j:Nat):MW (eh obs j)=true\/eh obs j=.dead:=by
 induction obs with
 |nil=>exact .inr rfl
 |cons x l ih=>
  simp only[sq,ao] at h;simp only[eh];cases hb:Nat.beq x.1 j
  .exact ih h.2
  .exact .inl h.1
def tT.ctx {C C':Ctx}{f:Nat}{shs:List Sh}{obs:List (Nat×Ob)}{res:Ty}{ds:List D}{d:D}(h:tT C f shs obs res ds d)(hP:C'.P=C.P)(eP:C'.cap=C.cap)(sR:C'.glob=C.glob):tT C' f shs obs res ds d:=by
 intro N V own hv w args cx hp ar hC bo hN aJ bu dP h1 h2;have aV:=hp;simp only[zg,ao] at aV;have sX:∀t s,shs[t]?=some s->uV s=true:=λt s hs=>cN.1 aV.1 s (j6 hs);have hC':CtxOK C V:=⟨λg x hx=>by have:=hC.glob g x (by rw[sR];exact hx);rwa [eP] at this,λg x hx=>hC.mg g x (by rw[sR];exact hx)⟩
 have:=h N V own hv w args cx hp ar hC' bo hN aJ bu dP (λt=>by
  cases hs:shs[t]? with
  |none=>rw[aE,hs];trivial
  |some s=>have:=h1 t;rw[aE,hs] at this ⊢;exact this.ctx eP.symm (sX t s hs)) (λj=>(h2 j).ctx eP.symm (ae0 aV.2 j))
 rw[hP];refine this.mono λe w' hh=>?_;obtain⟨v,V',own',hv',dr,os,g1,g2,g3,g4,g5,g6,g7,g8,g9,g10,g11,g12,g13,g14⟩:=hh;exact⟨v,V',own',hv',dr,os,g1,g2,g3,g4,g5,g6,g7,g8,g9,g10,g11,λt sh hs hd=>(g12 t sh hs hd).ctx eP (sX t sh hs),λj=>(g13 j).ctx eP (ae0 aV.2 j),by rw[eP];exact g14⟩
def dy.cap {c c':Nat->Option CSig}(hc:c'=c){V:Im}{e:Ty}{cells:List Value}{xs:List D}(h:dy c V e cells xs):dy c' V e cells xs:=hc▸h
def xp.ctx {C C':Ctx}{f:Nat}{T:TypeId}{e:Ty}{ts:List Ty}{ds:List D}{d:D}(h:xp C f T e ts ds d)(hP:C'.P=C.P)(eP:C'.cap=C.cap)(sR:C'.glob=C.glob):xp C' f T e ts ds d:=by
 intro N V w v args xs cells ds' h1 h2 h3 h4 h5 h6 h7 h8;rw[hP];refine(h N V w v args xs cells ds' h1 h2 ⟨λg x hx=>by have:=h3.glob g x (by rw[sR];exact hx);rwa [eP] at this,λg x hx=>h3.mg g x (by rw[sR];exact hx)⟩ h4 h5 (h6.cap eP.symm) h7 ⟨h8.1,h8.2.1,λi t hi=>by have:=h8.2.2 i t hi;rwa [eP] at this⟩).mono λx w' hh=>?_;obtain⟨v',fl,df,g1,g2,g3,g4,g5,g6,g7⟩:=hh;exact⟨v',fl,df,g1,g2,g3,g4,g5,g6.cap eP,g7⟩
def ej (C:Ctx)(f:Nat)(shs:List Sh)(obs:List (Nat×Ob))(res:Ty)(ds:List D)(d:D):Prop:=
 match Mm shs obs with
 |some m=>xp C f m.1 m.2.1 m.2.2 ds d
 |none=>tT C f shs obs res ds d
def ej.ctx {C C':Ctx}{f:Nat}{shs:List Sh}{obs:List (Nat×Ob)}{res:Ty}{ds:List D}{d:D}(h:ej C f shs obs res ds d)(hP:C'.P=C.P)(eP:C'.cap=C.cap)(sR:C'.glob=C.glob):ej C' f shs obs res ds d:=by
 unfold ej at h ⊢;split at h
 .exact xp.ctx h hP eP sR
 .exact tT.ctx h hP eP sR
def afu {shs:List Sh}{obs:List (Nat×Ob)}(h:∀x,x∈obs->x.2≠.tr):Mm shs obs=none:=by
 unfold Mm;split
 .exact absurd rfl (h (1,.tr) (by simp))
 .rfl
def ej.of {C:Ctx}{f:Nat}{shs:List Sh}{obs:List (Nat×Ob)}{res:Ty}{ds:List D}{d:D}(ht:∀x,x∈obs->x.2≠.tr)(h:tT C f shs obs res ds d):ej C f shs obs res ds d:=by
 unfold ej;rw[afu ht];exact h
def ej.plain {C:Ctx}{f:Nat}{shs:List Sh}{obs:List (Nat×Ob)}{res:Ty}{ds:List D}{d:D}(hp:zg shs obs=true)(h:ej C f shs obs res ds d):tT C f shs obs res ds d:=by
 unfold ej at h;rw[afu λx hx e=>?_] at h
 .exact h
 .simp only[zg,ao] at hp;have:=cN.1 hp.2 x hx;rw[e] at this;cases this
def dq (C:Ctx)(Z:aT):Prop:=∀f ds d,Z f ds=some d->∀s,C.sig f=some s->(rB s.mode=false->iN C f s ds d)/\∀shs obs,s.mode=.ob shs obs->ej C f shs obs s.res ds d
def oH:List Ty->Ty->Option (List Ty)
 |[.fn ys .bool],.tup []=>some ys
 |_,_=>none
def dK (C:Ctx):Prop:=(∀f cs,C.cap f=some cs->oH cs.args cs.res=none->C.sig f=some ⟨cs.args++cs.caps,cs.res,.dat⟩)/\∀f s,C.sig f=some s->∃fn,C.P.funcs[f]?=some fn/\fn.body.isSome=true/\(fn.name== "runtime.NumGoroutine")=false
def I4 (S:St):List AgC->List Nat
 |[]=>[]
 |.obj j ver::l=>bif Nat.beq ver (S.ver j)&&lH (S.o j) then j::I4 S l else I4 S l
 |_::l=>I4 S l
def dh (S:St)(gs:List (Nat×Bool)):List Operand->List Nat
 |[]=>[]
 |x::xs=>
  match gI S gs x with
  |.obj j ver=>bif Nat.beq ver (S.ver j)&&lH (S.o j) then j::dh S gs xs else dh S gs xs
  |.agg l=>I4 S l++dh S gs xs
  |_=>dh S gs xs
def ux (gs:List (Nat×Bool))(s:Sh):Sh:=
 match gs with
 |[]=>s
 |_=>.opt gs s
def St.fzs (S:St)(js:List Nat):St:=js.foldl St.fz S
def mw:List RC->List Ty
 |[]=>[]
 |.dat t::l=>t::mw l
 |.row _ e::l=>.slice e.rol::mw l
def QN (fr:List Nat)(dst:Nat)(s:Sig):Option Sig:=
 match s.mode with
 |.rows l=>bif !(fr.any (Nat.beq (2000000+dst)))&&Ty.beq s.res (.agg (mw l)) then some {s with mode:=.dat} else some s
 |_=>some s
def NA:∀{l:List RC} {i:Nat} {t:Ty},(mw l)[i]?=some t->(l[i]?=some (.dat t))\/∃T e,l[i]?=some (.row T e)/\t=.slice e.rol
 |[],i,t,h=>by simp[mw] at h
 |.dat u::l,0,t,h=>by simp[mw] at h;subst h;exact .inl rfl
 |.row T e::l,0,t,h=>by simp[mw] at h;exact .inr ⟨T,e,rfl,h.symm⟩
 |.dat u::l,i+1,t,h=>by simpa using NA (l:=l) (i:=i) (by simpa [mw] using h)
 |.row T e::l,i+1,t,h=>by simpa using NA (l:=l) (i:=i) (by simpa [mw] using h)
def VB:∀(l:List RC),(mw l).length=l.length
 |[]=>rfl
 |.dat _::l=>by simp[mw,VB l]
 |.row ..::l=>by simp[mw,VB l]
def iN.asDat {C:Ctx}{f:Nat}{s:Sig}{ds:List D}{d:D}{l:List RC}(hm:s.mode=.rows l)(hr:s.res=.agg (mw l))(h:iN C f s ds d):iN C f {s with mode:=.dat} ds d:=by
 intro V w args h1 h2 h3;refine(h V w args h1 h2 h3).mono λe w' hh=>?_;obtain⟨v,V',rfl,hle,ar,hb,dg,cR,fX⟩:=hh;simp only[lU,hm] at fX;obtain⟨vs,ds,ow,rfl,rfl,l1,l2,B9,ry⟩:=fX
 have hex:∀i,∃cs:List Value,∀T e,l[i]?=some (.row T e)->∃xs,ds.getD i .none=.list xs/\w'.ownsRow w.heap.size T e.size (vs.getD i undef) xs.length cs/\dy C.cap V' e cs xs/\∀k,(vs.getD i undef).ownBlock=some k->ow k=some i:=λi=>by
  cases hl:l[i]? with
  |none=>exact⟨[],λ_ _ h=>by cases h⟩
  |some c=>
   cases c with
   |dat t=>exact⟨[],λ_ _ h=>by cases h⟩
   |row T e=>
    obtain⟨cs,xs,g1,g2,g3,g4⟩:=B9 i _ hl;exact⟨cs,λT' e' h=>by cases h;exact⟨xs,g1,g2,g3,g4⟩⟩
 let cs:Nat->List Value:=λi=>Classical.choose (hex i)
 have cH:∀i T e,l[i]?=some (.row T e)->∃xs,ds.getD i .none=.list xs/\w'.ownsRow w.heap.size T e.size (vs.getD i undef) xs.length (cs i)/\dy C.cap V' e (cs i) xs/\∀k,(vs.getD i undef).ownBlock=some k->ow k=some i:=λi=>aad (hex i)
 let rC:Nat->Nat->Bool:=λi k=>decide ((vs.getD i undef).ownBlock=some k)&&(match l[i]? with|some (.row ..)=>true|_=>false)
 let τ:Im:={c:=λk o=>match ow k with|some i=>(bif rC i k then(cs i)[o]? else none)|none=>V'.c k o,m:=λk=>match ow k with|some i=>(bif rC i k then some my else none)|none=>V'.m k}
 have iw:V'.le τ:=by
  refine⟨λk o x hx=>?_,λk x hx=>?_⟩
  .cases hk:ow k with
   |none=>simp only[τ,hk];exact hx
   |some i=>have:=(ry k i hk).2.2.1 o;rw[this] at hx;cases hx
  .cases hk:ow k with
   |none=>simp only[τ,hk];exact hx
   |some i=>have:=(ry k i hk).2.2.2;rw[this] at hx;cases hx
 have cW:∀i k,rC i k=true->∃T e,l[i]?=some (.row T e)/\(vs.getD i undef).ownBlock=some k:=λi k hk=>by
  simp only[rC,ao,decide_eq_true_eq] at hk;obtain⟨bC,cE⟩:=hk;split at cE
  .rename_i T e hl;exact⟨T,e,hl,bC⟩
  .cases cE
 refine⟨_,τ,rfl,hle.trans iw,⟨λk o x hx=>?_,λk x hx=>?_,λk o x hx=>?_⟩,hb,λk o x hx=>?_,λk x hx=>?_,?_⟩
 .simp only[τ] at hx;split at hx
  .rename_i i hi;cases hr:rC i k with
   |false=>rw[hr] at hx;cases hx
   |true=>
    rw[hr,zyy] at hx;obtain⟨T,e,hl,iW⟩:=cW i k hr;obtain⟨xs,g1,g2,g3,g4⟩:=cH i T e hl;have:=g2.cells iW o x hx;rw[ud] at this;simpa using this
  .exact ar.c k o x hx
 .simp only[τ] at hx;split at hx
  .rename_i i hi;cases hr:rC i k with
   |false=>rw[hr] at hx;cases hx
   |true=>
    rw[hr,zyy] at hx;cases hx;obtain⟨T,e,hl,iW⟩:=cW i k hr;obtain⟨xs,g1,g2,g3,g4⟩:=cH i T e hl;obtain⟨QK,T',fz,e'⟩:=aho g2 iW;exact .inr (.inr ⟨rfl,QK,T',fz,e'⟩)
  .exact ar.m k x hx
 .simp only[τ] at hx;split at hx
  .rename_i i hi;cases hr:rC i k with
   |false=>rw[hr] at hx;cases hx
   |true=>
    obtain⟨T,e,hl,iW⟩:=cW i k hr;obtain⟨xs,g1,g2,g3,g4⟩:=cH i T e hl;exact .inr (ahp g2 iW o)
  .exact ar.f k o x hx
 .simp only[τ] at hx;split at hx
  .rename_i i hi;exact .inr (ry k i hi).1
  .exact dg k o x hx
 .simp only[τ] at hx;split at hx
  .rename_i i hi;exact .inr (ry k i hi).1
  .exact cR k x hx
 .simp only[lU,hr];have hlen:=VB l;refine .agg (mw l) vs ds (by omega) (by omega) (λi t hi=>?_) (λi t hi=>?_)
  .rcases NA hi with hl|⟨T,e,hl,rfl⟩
   .exact(B9 i _ hl).2.mono iw
   .obtain⟨xs,g1,g2,⟨us,g3,g4⟩,g5⟩:=cH i T e hl;rw[g1];rcases g2.2 with⟨e1,e2⟩|⟨g,cap,cur,e1,e2,e3,e4,e5,e6,e7⟩
    .rw[e1];have:xs=[]:=O6 e2;subst this;exact .nil _
    .rw[e1];have iW:(vs.getD i undef).ownBlock=some g:=by rw[e1];rfl
     refine .slice e.rol g 0 xs.length cap xs us rfl e4 e5 (λi x hx=>((g3 i x hx).mono iw).unf_rol) (λj m u hj hu=>?_) (λ_=>by
      have hR:rC i g=true:=by simp only[rC,iW,hl];simp
      simp only[τ,g5 g iW,hR,zyy])
     rw[Ty.rol_size];have hR:rC i g=true:=by simp only[rC,iW,hl];simp
     simp only[τ,g5 g iW,hR,zyy,fQ];exact g4 j m u hj hu
  .rcases NA hi with hl|⟨T,e,hl,rfl⟩
   .exact(B9 i _ hl).1
   .rfl
def amc {C:Ctx}{fr:List Nat}{dst f:Nat}{s s':Sig}{ds:List D}{d:D}(hs:QN fr dst s=some s')(hm:s'.mode=.dat)(h:rB s.mode=false->iN C f s ds d):iN C f s' ds d:=by
 unfold QN at hs;split at hs
 .rename_i l hl;cases hb:(!(fr.any (Nat.beq (2000000+dst)))&&Ty.beq s.res (.agg (mw l)))<;>simp only[hb,zyy,zyx] at hs
  .cases hs;rw[hl] at hm;cases hm
  .cases hs;simp only[ao] at hb;exact iN.asDat hl (Ty.beq_eq _ _ hb.2) (h (by rw[hl];rfl))
 .cases hs;exact h (by rw[hm];rfl)
def By (C:Ctx)(S:St)(gs:List (Nat×Bool))(dst:Nat)(f:Nat)(args:List Operand):Option (St×Sh×List PI):=
 ((C.sig f).bind (QN C.fr dst)).bind λs=>
   match s.mode with
   |.dat=>
    (qt C (S.fzs (dh S gs args)) gs args).bind λu=>
      bif Ty.subs u.1 s.args then some (bif s.res.pure then S else S.fzs (dh S gs args),.dat s.res,[.call gs dst f u.2]) else Option.none
   |_=>Option.none
def EM (C:Ctx)(S:St)(dst:Nat)(f:Nat)(args:List Operand):lj:=
 (C.sig f).bind λs=>
    match s.mode with
    |.row T e=>
     (qt C (S.fzs (dh S [] args)) [] args).bind λu=>
       bif Ty.subs u.1 s.args then some (mkObj (bif e.pure then S else S.fzs (dh S [] args)) dst (.row T e),[.call [] dst f u.2,.setO dst (.r dst),.setR dst (.con .none)]) else Option.none
    |_=>Option.none
def jE (dst:Nat)(l:List RC)(j:Nat):Option (Nat×TypeId×Ty):=
 bif Nat.beq (j%4096) dst&&Nat.ble 4096 j then(match l[j/4096-1]? with|some (.row T e)=>some (j/4096-1,T,e)|_=>Option.none) else Option.none
def ain {dst i:Nat}{l:List RC}{T:TypeId}{e:Ty}(hd:dst<4096)(h:l[i]?=some (.row T e)):jE dst l (gU dst i)=some (i,T,e):=by
 unfold jE gU;have e1:(4096*(i+1)+dst)%4096=dst:=by omega
 have e2:(4096*(i+1)+dst)/4096-1=i:=by omega
 have e3:Nat.ble 4096 (4096*(i+1)+dst)=true:=Nat.ble_eq_true_of_le (by omega);rw[e1,e2,e3,h,j9];rfl
def awj {dst i j:Nat}{l:List RC}{T:TypeId}{e:Ty}(h:jE dst l j=some (i,T,e)):j=gU dst i/\l[i]?=some (.row T e):=by
 unfold jE at h;cases hb:(Nat.beq (j%4096) dst&&Nat.ble 4096 j)<;>simp only[hb,zyy,zyx] at h
 .cases h
 simp only[ao] at hb;have h1:=ay hb.1;have h2:=jH hb.2;split at h
 .rename_i hl;cases h;exact⟨by unfold gU;omega,hl⟩
 .cases h
def St.newRows (S:St)(dst:Nat)(l:List RC):St:=⟨S.r,λj=>match jE dst l j with|some x=>.row x.2.1 x.2.2|Option.none=>S.o j,λj=>match jE dst l j with|some _=>S.ver j+1|Option.none=>S.ver j⟩
def oQ (S:St)(dst:Nat):List RC->Nat->List AgC
 |[],_=>[]
 |.dat t::l,i=>.dat t::oQ S dst l (i+1)
 |.row ..::l,i=>.obj (gU dst i) (S.ver (gU dst i)+1)::oQ S dst l (i+1)
def C5 (dst:Nat):List RC->Nat->List PI
 |[],_=>[]
 |.dat _::l,i=>C5 dst l (i+1)
 |.row ..::l,i=>.setO (gU dst i) (.cell (.r dst) i)::C5 dst l (i+1)
def EN (C:Ctx)(S:St)(dst:Nat)(f:Nat)(args:List Operand):lj:=
 (C.sig f).bind λs=>
    match s.mode with
    |.rows l=>
     (qt C (S.fzs (dh S [] args)) [] args).bind λu=>
       bif Ty.subs u.1 s.args&&Nat.blt dst 4096 then
         some (((S.fzs (dh S [] args)).newRows dst l).setR dst (.agg (oQ (S.fzs (dh S [] args)) dst l 0)),.call [] dst f u.2::C5 dst l 0) else Option.none
    |_=>Option.none
def aio (S:St)(dst:Nat):∀(l:List RC) (i:Nat),(oQ S dst l i).length=l.length/\∀(n:Nat) (c:AgC),(oQ S dst l i)[n]?=some c->(∃t,l[n]?=some (.dat t)/\c=.dat t)\/∃T e,l[n]?=some (.row T e)/\c=.obj (gU dst (i+n)) (S.ver (gU dst (i+n))+1)
 |[],i=>⟨rfl,λn c h=>by simp[oQ] at h⟩
 |x::l,i=>by
  obtain⟨h1,h2⟩:=aio S dst l (i+1);have e:∀n,i+1+n=i+(n+1):=λn=>by omega
  cases x with
  |dat t=>
   refine⟨by simp[oQ,h1],λn c h=>?_⟩;cases n with
   |zero=>simp[oQ] at h;exact .inl ⟨t,rfl,h.symm⟩
   |succ n=>simp only[oQ,IP] at h ⊢;have:=h2 n c h;rwa [e] at this
  |row T y=>
   refine⟨by simp[oQ,h1],λn c h=>?_⟩;cases n with
   |zero=>simp[oQ] at h;exact .inr ⟨T,y,rfl,by rw[iQ];exact h.symm⟩
   |succ n=>simp only[oQ,IP] at h ⊢;have:=h2 n c h;rwa [e] at this
def VA (Z:aT)(dst:Nat):∀(l:List RC) (i:Nat) (O O':Env),PI.runs Z (C5 dst l i) O=some O'->O'.r=O.r/\(∀j,(∀(n:Nat) (T:TypeId) (e:Ty),l[n]?=some (.row T e)->j≠gU dst (i+n))->O'.o j=O.o j)/\
 ∀(n:Nat) (T:TypeId) (e:Ty),l[n]?=some (.row T e)->O'.o (gU dst (i+n))=(O.r dst).c (i+n)
 |[],i,O,O',h=>by
  simp only[C5,PI.runs,ba] at h;subst h;exact⟨rfl,λ_ _=>rfl,λn T e h=>by simp at h⟩
 |x::l,i,O,O',h=>by
  have e:∀n,i+1+n=i+(n+1):=λn=>by omega
  cases x with
  |dat t=>
   obtain⟨h1,h2,h3⟩:=VA Z dst l (i+1) O O' h;refine⟨h1,λj hj=>h2 j λn T y hn=>by rw[e];exact hj (n+1) T y (by simpa using hn),λn T y hn=>?_⟩;cases n with
   |zero=>simp at hn
   |succ n=>have:=h3 n T y (by simpa using hn);rwa [e] at this
  |row T0 y0=>
   simp only[C5,PI.runs,PI.run,pj] at h;obtain⟨h1,h2,h3⟩:=VA Z dst l (i+1) _ O' h;refine⟨h1,λj hj=>?_,λn T y hn=>?_⟩
   .rw[h2 j λn T y hn=>by rw[e];exact hj (n+1) T y (by simpa using hn)];exact bA _ _ (by have:=hj 0 T0 y0 rfl;rwa [iQ] at this)
   .cases n with
    |zero=>
     rw[iQ,h2 _ λn T y hn=>by unfold gU;omega];exact aN _ _ _
    |succ n=>have:=h3 n T y (by simpa using hn);rwa [e] at this
def EL (C:Ctx)(S:St)(dst:Nat)(f:Nat)(args:List Operand):lj:=
 (C.sig f).bind λs=>
    match s.mode,args with
    |.ob shs obs,x::xs=>
     match Mm shs obs,gI S [] x with
     |some m,.obj j ver=>
      match S.o j with
      |.row T e=>
       bif Nat.beq ver (S.ver j)&&(Nat.beq T m.1&&Ty.beq e m.2.1) then
            (qt C S [] xs).bind λu=>
             bif Ty.subs u.1 m.2.2 then some ((S.newO j (.row T e)).setR dst (.obj j (S.ver j+1)),[.call [] dst f (.o j::u.2),.setO j (.r dst),.setR dst (.con .none)]) else Option.none
       else Option.none
      |_=>Option.none
     |_,_=>Option.none
    |_,_=>Option.none
def yb (C:Ctx)(S:St)(gs:List (Nat×Bool))(dst:Nat)(x:Operand)(args:List Operand):Option (St×Sh×List PI):=
 match use C S gs x with
 |some (.fn aa r,e)=>
  match oH aa r with
  |some _=>Option.none
  |Option.none=>
  (qt C (S.fzs (dh S gs args)) gs args).bind λu=>
    bif Ty.subs u.1 aa then some (bif r.pure then S else S.fzs (dh S gs args),.dat r,[.callc gs dst e u.2]) else Option.none
 |_=>Option.none
def re:∀(js:List Nat) (S:St),(S.fzs js).ver=S.ver/\(S.fzs js).r=S.r
 |[],S=>⟨rfl,rfl⟩
 |j::js,S=>by
  obtain⟨h1,h2⟩:=re js (S.fz j);obtain⟨k1,k2⟩:=KU S j;exact⟨h1.trans k1,h2.trans k2⟩
section
variable {C:Ctx} {S:St} {O:Env} {V:Im} {own:Nat->Option Nat} {hv:Nat->Value} {w0:World} {σ0:Base} {A:Nat->Prop} {a:Act} {w:World} {gs:List (Nat×Bool)} {Z:aT} {dst:Nat}
def Inv.fzs:∀(js:List Nat) {S:St} {V:Im} {own:Nat->Option Nat},Inv C S O V own hv w0 σ0 A a w->∃V' own',V.le V'/\Inv C (S.fzs js) O V' own' hv w0 σ0 A a w
 |[],S,V,own,h=>⟨V,own,.refl V,h⟩
 |j::js,S,V,own,h=>by
  obtain⟨σ1,dj,hle,h1⟩:=h.fz j;obtain⟨σ2,jB,iw,h2⟩:=Inv.fzs js h1;exact⟨σ2,jB,hle.trans iw,h2⟩
def Inv.world (h:Inv C S O V own hv w0 σ0 A a w){V':Im}{w':World}(hle:V.le V')(ar:V'.ok w')(hb:Below w.heap.size w w')(dg:∀k o x,V'.c k o=some x->V.c k o=some x\/w.heap.size<=k)
 (cR:∀k x,V'.m k=some x->V.m k=some x\/w.heap.size<=k):Inv C S O V' own hv w0 σ0 A a w':=by
 have aJ:=h.below.size;refine h.step (λ_=>False) rfl hle ar (λk o x hx=>(dg k o x hx).imp id (λe=>⟨by omega,.inr e⟩)) (λk x hx=>(cR k x hx).imp id (λe=>⟨by omega,.inr e⟩)) (hb.mono aJ) (.refl S hv) (λj _=>⟨rfl,rfl,rfl,λk hk=>⟨hk,hb.block k (h.owns k j hk).2.1⟩⟩) (λ_ hf=>hf.elim) (λk j hk=>?_) (λ_=>id) (λt=>.inl ⟨rfl,rfl,rfl⟩) (λ_ _=>rfl) (λk hk _=>hb.block k hk) (λk i hk=>.inl ⟨i,hk⟩) (λ_ hf=>hf.elim);obtain⟨g1,g2,g3,g4⟩:=h.owns k j hk;refine⟨g1,by have:=hb.size;omega,λo=>?_,?_⟩
 .cases hc:V'.c k o with
  |none=>rfl
  |some x=>rcases dg k o x hc with e|e
           .rw[g3 o] at e;cases e
           .omega
 .cases hc:V'.m k with
  |none=>rfl
  |some x=>rcases cR k x hc with e|e
           .rw[g4] at e;cases e
           .omega
def CtxOK.mono {C:Ctx}{V V':Im}(h:CtxOK C V)(hle:V.le V'):CtxOK C V':=⟨λg x hx=>(h.glob g x hx).mono hle,λg x hx=>hle.m _ _ (h.mg g x hx)⟩
def Dx (h:Inv C S O V own hv w0 σ0 A a w)(hC:CtxOK C σ0)(hg:holds gs O=true){xs:List Operand}{u:List Ty×List PE}{ts:List Ty}(hu:qt C S gs xs=some u)(hs:Ty.subs u.1 ts=true):qv C V ts (xs.map a.eval) (PE.evs O u.2):=by
 obtain⟨l1,l2,aK⟩:=ajH h hC hg _ _ hu;have hl:=Ty.subs_len _ _ hs;refine⟨by rw[dY];omega,by rw[PE.evs_eq,dY];omega,λi t hi=>?_⟩;obtain⟨s,ef,cI⟩:=Ty.subs_get _ _ hs i t hi;exact(aK i s ef).sub cI
def If {o:Oper}{f:Nat}{args:Array Operand}{ts:Array TypeId}(aY:dK C){s:Sig}(hs:C.sig f=some s)(ho:o.op=.call {callee:=.value (.func f),args:=args,argTypes:=ts}):
 (execOp a.eval o).run C.P w=.ok (.enter f (args.map a.eval)) w:=by
 obtain⟨fn,h1,h2,h3⟩:=aY.2 f s hs;obtain⟨bd,fa⟩:=aaB.1 h2;have h4:¬fn.name= "runtime.NumGoroutine" :=by simpa using h3
 simp[execOp,ho,resolve,Act.eval,Deferred.ofValue,invoke,callFunc,h1,fa,h4]
def ai3 {o:Oper}{x:Operand}{f:Nat}{vs:List Value}{args:Array Operand}{ts:Array TypeId}(aY:dK C){s:Sig}(hs:C.sig f=some s)(hx:a.eval x=.func (.func f) #[] vs.toArray)(ho:o.op=.call {callee:=.value x,args:=args,argTypes:=ts}):
 (execOp a.eval o).run C.P w=.ok (.enter f (args.map a.eval++vs.toArray)) w:=by
 obtain⟨fn,h1,h2,h3⟩:=aY.2 f s hs;obtain⟨bd,fa⟩:=aaB.1 h2;have h4:¬fn.name= "runtime.NumGoroutine" :=by simpa using h3
 simp[execOp,ho,resolve,hx,Deferred.ofValue,invoke,callFunc,h1,fa,h4]
def aba (h:Inv C S O V own hv w0 σ0 A a w)(hC:CtxOK C σ0)(ht:¬A dst)(af:dst<a.tmps.size)(ew:∀g,g∈gs->A g.1)(hg:holds gs O=true){f:Nat}{s:Sig}{js:List Nat}{vals:List Value}{ds:List D}{d:D}(lC:s.mode=.dat)(hfn:iN C f s ds d)
 (jq:∀σ1 dj,V.le σ1->Inv C (S.fzs js) O σ1 dj hv w0 σ0 A a w->qv C σ1 s.args vals ds) {K:Act->World->Prop} {Q:Exit->Act->World->Prop}
 (hK:∀a' w',Good C w0 σ0 ((bif s.res.pure then S else S.fzs js).setR dst (ux gs (.dat s.res))) (O.setR dst d) (λu=>A u\/u=dst) a' w'->a'.tmps.size=a.tmps.size->K a' w'):
 Calls C.P f vals.toArray w (λe lg=>match e with|.returned v=>K (a.put (some dst) v) lg|.panicked chain=>Q (.panic chain) a lg|.outgrown=>LetsOut Q):=by
 obtain⟨σ1,dj,lZ,h1⟩:=Inv.fzs js h;have cY:=hfn σ1 w vals.toArray h1.ok (hC.mono h1.le) (by simpa using jq σ1 dj lZ h1);refine cY.mono λe w' hh=>?_;obtain⟨v,V',rfl,hle,ar,hb,dg,cR,fX⟩:=hh;simp only[lU,lC] at fX;refine hK _ _ ?_ (size_put _ _ _);have hh:holds gs (O.setR dst d)=true:=by rw[FT (t:=dst) (d:=d) λg hm e=>ht (by rw[<-e];exact ew g hm)];exact hg
 have put:∀{S2:St} {σ2:Im} {jB:Nat->Option Nat},Inv C S2 O σ2 jB hv w0 σ0 A a w'->Rep C.cap σ2 s.res v d->Good C w0 σ0 (S2.setR dst (ux gs (.dat s.res))) (O.setR dst d) (λu=>A u\/u=dst) (a.put (some dst) v) w':=by
  intro S2 σ2 jB h2 hr;cases gs with
  |nil=>exact⟨_,_,_,h2.setReg ht (s:=.dat s.res) hr af (λ_ _ e=>by cases e)⟩
  |cons g bM=>
   refine⟨_,_,_,h2.setReg ht (s:=.opt (g::bM) (.dat s.res)) ⟨λ_=>hr,λe=>absurd (hh.symm.trans e) (by decide)⟩ af (λgs s e=>?_)⟩;cases e;exact⟨ew,λ_ _ e=>by cases e⟩
 cases hp:s.res.pure with
 |true=>
  simp only[zyy];exact put (h.world (.refl V) (h.ok.below hb) hb (λ_ _ _ hx=>.inl hx) (λ_ _ hx=>.inl hx)) (fX.pure hp)
 |false=>
  simp only[zyx];exact put (h1.world hle ar hb dg cR) fX
def En {o:Oper}{f:Nat}{args:Array Value}{K:Act->World->Prop}{Q:Exit->Act->World->Prop}(hd:o.dst=some dst)(hx:(execOp a.eval o).run C.P w=.ok (.enter f args) w)
 (h:Calls C.P f args w (λe lg=>match e with|.returned v=>K (a.put (some dst) v) lg|.panicked chain=>Q (.panic chain) a lg|.outgrown=>LetsOut Q)):o.wp C.P a w K Q:=by
 simp only[Oper.wp,hx,Oper.upon,hd];refine h.mono λe lg hh=>?_;cases e<;>exact hh
def amT (h:Inv C S O V own hv w0 σ0 A a w)(hC:CtxOK C σ0)(aY:dK C)(hΦ:dq C Z)(ht:¬A dst)(af:dst<a.tmps.size)(ew:∀g,g∈gs->A g.1)(hg:holds gs O=true){f:Nat}{args:Array Operand}{ts:Array TypeId}{r:St×Sh×List PI}
 (hr:By C S gs dst f args.toList=some r) {o:Oper} (hd:o.dst=some dst) (ho:o.op=.call {callee:=.value (.func f),args:=args,argTypes:=ts}):bU C w0 σ0 Z S O A a w o (r.1.setR dst (ux gs r.2.1),r.2.2):=by
 simp only[By,az] at hr;obtain⟨s,⟨s0,hs,LO⟩,hr⟩:=hr;split at hr
 case h_2=>cases hr
 rename_i lC;simp only[az] at hr;obtain⟨u,hu,hr⟩:=hr;cases cg:Ty.subs u.1 s.args<;>simp only[cg,zyy,zyx] at hr
 .cases hr
 cases hr;intro O' ak K Q hK;simp only[PI.runs,PI.run,hg,zyy,az,aB] at ak;obtain⟨ρ1,⟨d,bt,rfl⟩,ak⟩:=ak;cases ak;have hfn:=amc LO lC (hΦ f _ d bt s0 hs).1;refine En hd (If aY hs ho) ?_;have kr:args.map a.eval=(args.toList.map a.eval).toArray:=by apply tQ;rw[vg]
 rw[kr];have kj:(λu=>A u\/o.dst=some u)=(λu=>A u\/u=dst):=by funext u;rw[hd];simp[eq_comm]
 rw[kj] at hK;exact aba h hC ht af ew hg (js:=dh S gs args.toList) lC hfn (λσ1 dj _ h1=>Dx h1 hC hg hu cg) hK
def amL (h:Inv C S O V own hv w0 σ0 A a w)(hC:CtxOK C σ0)(aY:dK C)(hΦ:dq C Z)(ht:¬A dst)(af:dst<a.tmps.size)(ew:∀g,g∈gs->A g.1)(hg:holds gs O=true){x:Operand}{args:Array Operand}{ts:Array TypeId}{r:St×Sh×List PI}
 (hr:yb C S gs dst x args.toList=some r) {o:Oper} (hd:o.dst=some dst) (ho:o.op=.call {callee:=.value x,args:=args,argTypes:=ts}):bU C w0 σ0 Z S O A a w o (r.1.setR dst (ux gs r.2.1),r.2.2):=by
 unfold yb at hr;split at hr
 case h_2=>cases hr
 rename_i aa r0 e hu0;split at hr
 case h_1=>cases hr
 rename_i R0;simp only[az] at hr;obtain⟨u,hu,hr⟩:=hr;cases cg:Ty.subs u.1 aa<;>simp only[cg,zyy,zyx] at hr
 .cases hr
 cases hr;have hx:=cw h hC hg hu0;intro O' ak K Q hK;simp only[PI.runs,PI.run,hg,zyy,az] at ak;obtain⟨ρ1,pO,ak⟩:=ak;cases ak;split at pO
 case h_2=>cases pO
 rename_i f caps bL;simp only[aB] at pO;obtain⟨d,bt,rfl⟩:=pO;rw[bL] at hx;generalize fV:a.eval x=xv at hx;generalize bq:Ty.fn aa r0=ty at hx;cases hx with
 |fn f cs vs ds hc h1 h2 aK=>
  cases bq;have hs:=aY.1 f cs hc R0;have hfn:=(hΦ f _ d bt _ hs).1 rfl;refine En hd (ai3 aY hs fV ho) ?_;have kr:args.map a.eval++vs.toArray=(args.toList.map a.eval++vs).toArray:=by apply tQ;simp
  rw[kr];have kj:(λu=>A u\/o.dst=some u)=(λu=>A u\/u=dst):=by funext u;rw[hd];simp[eq_comm]
  rw[kj] at hK;refine aba h hC ht af ew hg (js:=dh S gs args.toList) (s:=⟨cs.args++cs.caps,cs.res,.dat⟩) rfl hfn (λσ1 dj lZ i1=>?_) hK;obtain⟨g1,g2,g3⟩:=Dx i1 hC hg hu cg;refine⟨by simp only[mE,g1,h1],by simp only[mE,g2,h2],λi t hi=>?_⟩;rw[mD] at hi;split at hi
  .rename_i af;have:=g3 i t hi;rw[aE,aE,nD (by omega),nD (by omega)];simpa [aE] using this
  .rename_i gR;have:=(aK _ t hi).mono lZ;rw[aE,aE,nE (by omega),nE (by omega),g1,g2];simpa [aE] using this
def amP (h:Inv C S O V own hv w0 σ0 A a w)(hC:CtxOK C σ0)(aY:dK C)(hΦ:dq C Z)(ht:¬A dst)(af:dst<a.tmps.size){f:Nat}{args:Array Operand}{ts:Array TypeId}{r:St×List PI}
 (hr:EM C S dst f args.toList=some r) {o:Oper} (hd:o.dst=some dst) (ho:o.op=.call {callee:=.value (.func f),args:=args,argTypes:=ts}):bU C w0 σ0 Z S O A a w o r:=by
 simp only[EM,az] at hr;obtain⟨s,hs,hr⟩:=hr;split at hr
 case h_2=>cases hr
 rename_i T e lC;simp only[az] at hr;obtain⟨u,hu,hr⟩:=hr;cases cg:Ty.subs u.1 s.args<;>simp only[cg,zyy,zyx] at hr
 .cases hr
 cases hr;intro O' ak K Q hK;have FB:holds ([]:List (Nat×Bool)) O=true:=rfl;simp only[PI.runs,PI.run,FB,zyy,az,aB] at ak;obtain⟨ρ1,⟨d,bt,rfl⟩,ρ2,g2,ρ3,g3,g4⟩:=ak;cases g2;cases g3;cases g4;have hfn:=(hΦ f _ d bt s hs).1 (by rw[lC];rfl);obtain⟨σ1,dj,lZ,h1⟩:=Inv.fzs (dh S [] args.toList) h;have kr:args.map a.eval=(args.toList.map a.eval).toArray:=by apply tQ;rw[vg]
 refine En hd (If aY hs ho) ?_;rw[kr];have cY:=hfn σ1 w (args.toList.map a.eval).toArray h1.ok (hC.mono h1.le) (by simpa using Dx h1 hC rfl hu cg);refine cY.mono λe' w' hh=>?_;obtain⟨v,V',rfl,hle,ar,hb,dg,cR,fX⟩:=hh;simp only[lU,lC] at fX;obtain⟨cells,xs,rfl,bu,dt,ot⟩:=fX;refine hK _ _ ?_ (size_put _ _ _);have kj:(λu=>A u\/o.dst=some u)=(λu=>A u\/u=dst):=by funext u;rw[hd];simp[eq_comm]
 rw[kj];have main:∀{S2:St} {σ1 σ2:Im} {jB:Nat->Option Nat},Inv C S2 O σ1 jB hv w0 σ0 A a w->σ1.le σ2->σ2.ok w'->(∀k o x,σ2.c k o=some x->σ1.c k o=some x\/w.heap.size<=k)->(∀k x,σ2.m k=some x->σ1.m k=some x\/w.heap.size<=k)->dy C.cap σ2 e cells xs->(∀k,v.ownBlock=some k->(∀o,σ2.c k o=none)/\σ2.m k=none)->
  Good C w0 σ0 (mkObj S2 dst (.row T e)) ((O.setO dst (.list xs)).setR dst .none) (λu=>A u\/u=dst) (a.put (some dst) v) w':=by
  intro S2 σ1 σ2 jB h2 iw Sv aqR aqV ap6 aqb;have aJ:=h1.below.size
  have l5:=h2.newOσ dst (.row T e) (.list xs) v (λk=>decide (v.ownBlock=some k)) iw Sv aqR aqV hb (λk hk=>bu.lt k (by simpa using hk)) (λk hk=>aqb k (by simpa using hk)) ⟨cells,xs,by simp[Env.setO,aN],by
        rw[aN];refine⟨bu.1,?_⟩;rcases bu.2 with e1|⟨g,cap,cur,e1,e2,e3⟩
        .exact .inl e1
        .exact .inr ⟨g,cap,cur,e1,by omega,e3⟩,ap6,λk hk=>by rw[aN] at hk;simp[fJ,hk]⟩
  have adO:=l5.setObj ht (j:=dst) (v:=v) (aN _ _ _) af;have e:(S2.newO dst (.row T e)).ver dst=S2.ver dst+1:=aN _ _ _;rw[e] at adO;exact⟨_,_,_,adO⟩
 have eρ:((O.setR dst (.list xs)).setO dst ((PE.r dst).ev (O.setR dst (.list xs)))).setR dst ((PE.con D.none).ev ((O.setR dst (.list xs)).setO dst ((PE.r dst).ev (O.setR dst (.list xs)))))=(O.setO dst (.list xs)).setR dst .none:=by
  have:∀d1 d2:D,bY (bY O.r dst d1) dst d2=bY O.r dst d2:=by
   intro d1 d2;funext i;simp only[fj];split<;>rfl
  simp[Env.setR,Env.setO,PE.ev,aN,this]
 show Good C w0 σ0 _ _ _ _ _;rw[eρ];cases hp:e.pure with
 |true=>
  simp only[zyy];refine main h (.refl V) (h.ok.below hb) (λ_ _ _ hx=>.inl hx) (λ_ _ hx=>.inl hx) ?_ (λk hk=>?_)
  .obtain⟨vs,k1,k2⟩:=dt;exact⟨vs,λi x hx=>(k1 i x hx).pure hp,k2⟩
  .obtain⟨f1,f2⟩:=ot k hk;refine⟨λo=>?_,?_⟩
   .cases hc:V.c k o with
    |none=>rfl
    |some x=>have:=hle.c _ _ _ (lZ.c _ _ _ hc);rw[f1 o] at this;cases this
   .cases hc:V.m k with
    |none=>rfl
    |some x=>have:=hle.m _ _ (lZ.m _ _ hc);rw[f2] at this;cases this
 |false=>
  simp only[zyx];exact main h1 hle ar dg cR dt ot
def amR (h:Inv C S O V own hv w0 σ0 A a w)(hC:CtxOK C σ0)(aY:dK C)(hΦ:dq C Z)(ht:¬A dst)(af:dst<a.tmps.size){f:Nat}{args:Array Operand}{ts:Array TypeId}{r:St×List PI}
 (hr:EN C S dst f args.toList=some r) {o:Oper} (hd:o.dst=some dst) (ho:o.op=.call {callee:=.value (.func f),args:=args,argTypes:=ts}):bU C w0 σ0 Z S O A a w o r:=by
 simp only[EN,az] at hr;obtain⟨s,hs,hr⟩:=hr;split at hr
 case h_2=>cases hr
 rename_i l lC;simp only[az] at hr;obtain⟨u,hu,hr⟩:=hr;cases cg:(Ty.subs u.1 s.args&&Nat.blt dst 4096)<;>simp only[cg,zyy,zyx] at hr
 .cases hr
 cases hr;simp only[ao,ph] at cg;obtain⟨cg,BW⟩:=cg;intro O' ak K Q hK;have FB:holds ([]:List (Nat×Bool)) O=true:=rfl;simp only[PI.runs,PI.run,FB,zyy,az,aB] at ak;obtain⟨ρ1,⟨d,bt,rfl⟩,ak⟩:=ak;have hfn:=(hΦ f _ d bt s hs).1 (by rw[lC];rfl);obtain⟨σ1,dj,lZ,h1⟩:=Inv.fzs (dh S [] args.toList) h;generalize S.fzs (dh S [] args.toList)=S1 at hu h1 hK ⊢;have kr:args.map a.eval=(args.toList.map a.eval).toArray:=by apply tQ;rw[vg]
 refine En hd (If aY hs ho) ?_;rw[kr];have cY:=hfn σ1 w (args.toList.map a.eval).toArray h1.ok (hC.mono h1.le) (by simpa using Dx h1 hC rfl hu cg);refine cY.mono λe' w' hh=>?_;obtain⟨v,V',rfl,hle,ar,hb,dg,cR,fX⟩:=hh;simp only[lU,lC] at fX;obtain⟨vs,ds,ow,rfl,rfl,l1,l2,B9,ry⟩:=fX;refine hK _ _ ?_ (size_put _ _ _);have kj:(λu=>A u\/o.dst=some u)=(λu=>A u\/u=dst):=by funext u;rw[hd];simp[eq_comm]
 rw[kj];obtain⟨r1,r2,r3⟩:=VA Z dst l 0 _ O' ak;simp only[fQ] at r2 r3;have aiK:(O.setR dst (.agg ds)).r dst=.agg ds:=aN _ _ _;rw[aiK] at r3;have aJ:=h1.below.size
 let W:Nat->Prop:=λj=>∃x,jE dst l j=some x
 let own':Nat->Option Nat:=λk=>match ow k with
  |some i=>some (gU dst i)
  |none=>match dj k with
   |some j=>match jE dst l j with|some _=>none|none=>some j
   |none=>none
 let hv':Nat->Value:=λj=>match jE dst l j with|some x=>vs.getD x.1 undef|none=>hv j
 have Si:∀j,¬W j->jE dst l j=none:=λj hj=>by
  cases e:jE dst l j with
  |none=>rfl
  |some x=>exact absurd ⟨x,e⟩ hj
 have fW:∀j,¬W j->O'.o j=O.o j:=λj hj=>r2 j λn T e hn e1=>hj ⟨(n,T,e),by rw[e1];exact ain BW hn⟩
 have rp:∀k j,dj k=some j->ow k=none:=λk j hk=>by
  cases e:ow k with
  |none=>rfl
  |some i=>have:=ry k i e;have:=h1.owns k j hk;omega
 have sQ:Compat S1 hv ((S1.newRows dst l).setR dst (.agg (oQ S1 dst l 0))) hv':=⟨λj=>by
  show S1.ver j<=(match jE dst l j with|some _=>S1.ver j+1|none=>S1.ver j);split
  .exact Nat.le_succ _
  .exact aX _,λj e=>by
  have e:(match jE dst l j with|some _=>S1.ver j+1|none=>S1.ver j)=S1.ver j:=e;show(match jE dst l j with|some x=>vs.getD x.1 undef|none=>hv j)=hv j;cases hj:jE dst l j with
  |none=>rfl
  |some x=>rw[hj] at e;simp only at e;omega⟩
 refine⟨V',own',hv',?_⟩
 refine h1.step (w':=w') W rfl hle ar (λk o x hx=>(dg k o x hx).imp id λe=>⟨by omega,.inr e⟩) (λk x hx=>(cR k x hx).imp id λe=>⟨by omega,.inr e⟩) (hb.mono aJ) sQ
  (λj hj=>⟨?_,fW j hj,?_,λk hk=>⟨?_,hb.block k (h1.owns k j hk).2.1⟩⟩) (λj hj=>?_) (λk i hk=>?_) (λ_=>.inl) (λt=>?_) (λt hA=>?_) (λk hk _=>hb.block k hk) (λk i hk=>?_) (λj hj=>?_)
 .show(match jE dst l j with|some x=>Ob.row x.2.1 x.2.2|none=>S1.o j)=S1.o j;rw[Si j hj]
 .show(match jE dst l j with|some x=>vs.getD x.1 undef|none=>hv j)=hv j;rw[Si j hj]
 .show own' k=some j;simp only[own',rp k j hk,hk,Si j hj]
 .obtain⟨⟨i,T,e⟩,hx⟩:=hj;obtain⟨rfl,hi⟩:=awj hx;show bZ C _ O' V' own' hv' w' w0.heap.size (gU dst i) (match jE dst l (gU dst i) with|some x=>Ob.row x.2.1 x.2.2|none=>S1.o (gU dst i));rw[hx];obtain⟨cells,xs,g1,g2,g3,g4⟩:=B9 i _ hi;have e2:hv' (gU dst i)=vs.getD i undef:=by simp only[hv',hx]
  refine⟨cells,xs,?_,?_,g3,λk hk=>?_⟩
  .rw[r3 i T e hi];simpa [D.c,D.cells] using g1
  .rw[e2];refine⟨g2.1,?_⟩;rcases g2.2 with e1|⟨g,cap,cur,e1,e3,e4⟩
   .exact .inl e1
   .exact .inr ⟨g,cap,cur,e1,by omega,e4⟩
  .rw[e2] at hk;simp only[own',g4 k hk]
 .simp only[own'] at hk;split at hk
  .rename_i i' dc;have:=ry k i' dc;exact⟨by omega,this.2.1,this.2.2.1,this.2.2.2⟩
  .split at hk
   .rename_i j hj;obtain⟨g1,g2,g3,g4⟩:=h1.owns k j hj;refine⟨g1,by have:=hb.size;omega,λo=>?_,?_⟩
    .cases hc:V'.c k o with
     |none=>rfl
     |some x=>rcases dg k o x hc with e|e
              .rw[g3 o] at e;cases e
              .omega
    .cases hc:V'.m k with
     |none=>rfl
     |some x=>rcases cR k x hc with e|e
              .rw[g4] at e;cases e
              .omega
   .cases hk
 .by_cases hu:t=dst
  .subst hu;refine .inr ⟨?_,λgs s e=>?_⟩
   .rw[zR];have e3:O'.r t=.agg ds:=by rw[r1];exact aiK
    simp only[St.setR,aN,af,and_self,if_true,e3];obtain⟨q1,q2⟩:=aio S1 t l 0;refine⟨vs,ds,rfl,rfl,by omega,by omega,λi c hc=>?_⟩;rcases q2 i c hc with⟨ty,hl,rfl⟩|⟨T,e,hl,rfl⟩
    .exact B9 i _ hl
    .rw[fQ];have hx:=ain BW hl;refine⟨?_,λ_=>?_⟩
     .show S1.ver (gU t i)+1<=(match jE t l (gU t i) with|some _=>S1.ver (gU t i)+1|none=>S1.ver (gU t i));rw[hx];exact aX _
     .simp only[hv',hx]
   .simp only[St.setR,aN] at e;cases e
  .refine .inl ⟨bA _ _ hu,?_,?_⟩
   .rw[zR];simp[hu]
   .rw[r1];exact bA _ _ hu
 .rw[r1];exact bA _ _ (λe=>ht (e▸hA))
 .simp only[own'] at hk;split at hk
  .rename_i i' dc;exact .inr (ry k i' dc).1
  .split at hk
   .rename_i j hj;exact .inl ⟨j,hj⟩
   .cases hk
 .obtain⟨x,hx⟩:=hj;show(match jE dst l j with|some x=>Ob.row x.2.1 x.2.2|none=>S1.o j)≠.tr;rw[hx];intro e;cases e
def amN (h:Inv C S O V own hv w0 σ0 A a w)(hC:CtxOK C σ0)(aY:dK C)(hΦ:dq C Z)(ht:¬A dst)(af:dst<a.tmps.size){f:Nat}{args:Array Operand}{ts:Array TypeId}{r:St×List PI}
 (hr:EL C S dst f args.toList=some r) {o:Oper} (hd:o.dst=some dst) (ho:o.op=.call {callee:=.value (.func f),args:=args,argTypes:=ts}):bU C w0 σ0 Z S O A a w o r:=by
 simp only[EL,az] at hr;obtain⟨s,hs,hr⟩:=hr;split at hr
 case h_2=>cases hr
 rename_i shs obs x xs lC jq;split at hr
 case h_2=>cases hr
 rename_i m j ver l0 jO;split at hr
 case h_2=>cases hr
 rename_i T e eo;cases hb:(Nat.beq ver (S.ver j)&&(Nat.beq T m.1&&Ty.beq e m.2.1))<;>simp only[hb,zyy,zyx] at hr
 .cases hr
 simp only[ao] at hb;have dA:=ay hb.1;have hT:=ay hb.2.1;have he:=Ty.beq_eq _ _ hb.2.2;simp only[az] at hr;obtain⟨u,hu,hr⟩:=hr;cases cg:Ty.subs u.1 m.2.2<;>simp only[cg,zyy,zyx] at hr
 .cases hr
 cases hr;intro O' ak K Q hK;have FB:holds ([]:List (Nat×Bool)) O=true:=rfl;simp only[PI.runs,PI.run,FB,zyy,az,aB] at ak;obtain⟨ρ1,⟨d,bt,rfl⟩,ρ2,g2,ρ3,g3,g4⟩:=ak;cases g2;cases g3;cases g4;have hfn:=(hΦ f _ d bt s hs).2 shs obs lC;unfold ej at hfn;rw[l0] at hfn;simp only at hfn;rw[<-hT,<-he] at hfn;have cv:=(tJ h (gs:=[]) rfl x).1;rw[jO] at cv;have cv:=cv.2 dA;have bj:=h.objs j;rw[eo] at bj;obtain⟨cells,ys,h1,h2,h3,h4⟩:=bj;have kr:args.map a.eval=(a.eval x::xs.map a.eval).toArray:=by apply tQ;rw[vg,jq];rfl
 refine En hd (If aY hs ho) ?_;rw[kr,cv];have aJ:=h.below.size
 have cY:=hfn w0.heap.size V w (hv j) (xs.map a.eval) ys cells (PE.evs O u.2) (by simp[PE.evs,PE.ev,h1]) h.ok (hC.mono h.le) aJ h2 h3 (λk hk=>by
  have:=h.owns k j (h4 k hk);exact this.2) (Dx h hC rfl hu cg)
 refine cY.mono λe' w' hh=>?_;obtain⟨v',fl,df,rfl,rfl,uB,rp,aq8,ap5,hblk⟩:=hh;refine hK _ _ ?_ (size_put _ _ _);have kj:(λu=>A u\/o.dst=some u)=(λu=>A u\/u=dst):=by funext u;rw[hd];simp[eq_comm]
 rw[kj]
 have SY:=h.updO j (.row T e) (.list fl) v' (λk=>decide (v'.ownBlock=some k)) uB (λk hk au=>rp k hk (λe=>au (h4 k e))) (λk hk=>by
  have bf:v'.ownBlock=some k:=by simpa using hk
  exact⟨(hblk k bf).1.imp (h4 k) id,(hblk k bf).2⟩)
  ⟨df,fl,by simp[Env.setO,aN],by rw[aN];exact aq8,ap5,λk hk=>by rw[aN] at hk;simp[fJ,hk]⟩
 have h9:=SY.setObj ht (j:=j) (v:=v') (aN _ _ _) af;have e1:(S.newO j (.row T e)).ver j=S.ver j+1:=aN _ _ _;rw[e1] at h9;have eρ:((O.setR dst (.list fl)).setO j ((PE.r dst).ev (O.setR dst (.list fl)))).setR dst ((PE.con D.none).ev ((O.setR dst (.list fl)).setO j ((PE.r dst).ev (O.setR dst (.list fl)))))=(O.setO j (.list fl)).setR dst .none:=by
  have:∀d1 d2:D,bY (bY O.r dst d1) dst d2=bY O.r dst d2:=by
   intro d1 d2;funext i;simp only[fj];split<;>rfl
  simp[Env.setR,Env.setO,PE.ev,aN,this]
 show Good C w0 σ0 _ _ _ _ _;rw[eρ];exact⟨_,_,_,h9⟩
end
def jk:Nat:=1000000013
abbrev oX:=Sh×Option (Ty×PE)
def I1 (C:Ctx)(S:St)(x:Operand):oX:=(gI S [] x,use C S [] x)
def abc (c:Nat×Nat):oX:=(.ptr c.1 c.2 0,none)
def cM:List Nat->List Nat->Nat->Option Nat
 |i::is,j::js,k=>bif Nat.beq i k then some j else cM is js k
 |_,_,_=>none
def avc:Sh->Sh->List (Nat×Nat)
 |.obj i _,.obj j _=>[(i,j)]
 |.ptr i _ _,.ptr j _ _=>[(i,j)]
 |.fclo _ a,.fclo _ b=>(a.zip b).map λx=>(x.1.1,x.2.1)
 |_,_=>[]
def UW:List Sh->List Sh->List (Nat×Nat)
 |a::aa,b::bs=>avc a b++UW aa bs
 |_,_=>[]
def avb:Ob->Ob->List (Nat×Nat)
 |.box _ a,.box _ b=>UW a b
 |_,_=>[]
def ae1:List (Nat×Nat)->Nat->Nat
 |[],_=>jk
 |x::l,i=>bif Nat.beq x.1 i then x.2 else ae1 l i
def aul (S:St)(obs:List (Nat×Ob))(p:List (Nat×Nat)):List (Nat×Nat):=p++p.flatMap λx=>avb (eh obs x.1) (S.o x.2)
def ab5 (S:St)(shs:List Sh)(obs:List (Nat×Ob))(acts:List oX):List Nat:=obs.map λo=>ae1 (aul S obs (UW shs (acts.map (·.1)))) o.1
section
variable (ver:Nat->Nat) (is js:List Nat)
def Ib:List (Nat×Nat)->Option (List (Nat×Nat))
 |[]=>some []
 |x::l=>bif Nat.beq x.2 0 then(cM is js x.1).bind λj=>(Ib l).map λr=>(j,ver j)::r else none
def lb:Sh->Option Sh
 |.dat t=>some (.dat t)
 |.none=>some .none
 |.obj i v=>bif Nat.beq v 0 then(cM is js i).map λj=>.obj j (ver j) else none
 |.ptr i v off=>bif Nat.beq v 0 then(cM is js i).map λj=>.ptr j (ver j) off else none
 |.fclo f caps=>(Ib ver is js caps).map (.fclo f)
 |_=>none
def Ic:List Sh->Option (List Sh)
 |[]=>some []
 |s::l=>(lb ver is js s).bind λa=>(Ic l).map (a::·)
def rZ:Ob->Option Ob
 |.row T e=>some (.row T e)
 |.mp a b=>some (.mp a b)
 |.box ag shs=>(Ic ver is js shs).map (.box ag)
 |_=>none
end
def E4 (c:Sh):Sh->Bool
 |.none=>true
 |.dat b=>match c with|.dat a=>Ty.sub a b|_=>false
 |x=>Sh.beq c x
def BI:List Sh->List Sh->Bool
 |[],[]=>true
 |a::aa,b::bs=>E4 a b&&BI aa bs
 |_,_=>false
def BH:Ob->Ob->Bool
 |.box x a,.box y b=>(x==y)&&BI a b
 |.row T a,.row U b=>Nat.beq T U&&Ty.beq a b
 |.mp a b,.mp c d=>Ty.beq a c&&Ty.beq b d
 |_,_=>false
def sL (S:St)(is js:List Nat):List (Nat×Ob)->List Nat->Bool
 |[],[]=>true
 |o::obs,j::jl=>(match rZ S.ver is js o.2 with|some x=>BH (S.o j) x|none=>false)&&sL S is js obs jl
 |_,_=>false
def E3 (S:St)(is js:List Nat)(a:oX)(s:Sh):Option PE:=
 match s with
 |.dat t=>(match a.2 with|some x=>bif Ty.sub x.1 t then some x.2 else none|none=>none)
 |.none=>some (.con .none)
 |s=>(match lb S.ver is js s with|some x=>bif Sh.beq a.1 x then some (.con .none) else none|none=>none)
def vD (S:St)(is js:List Nat):List oX->List Sh->Option (List PE)
 |[],[]=>some []
 |a::aa,s::ss=>(E3 S is js a s).bind λe=>(vD S is js aa ss).map (e::·)
 |_,_=>none
def qT:List Sh->List Nat
 |[]=>[]
 |.obj i _::l=>i::qT l
 |.ptr i _ _::l=>i::qT l
 |.fclo _ c::l=>c.map (·.1)++qT l
 |_::l=>qT l
def aD (l:List Nat)(x:Nat):Bool:=l.any (Nat.beq x)
def xb (ver:Nat->Nat)(shs:List Sh)(is js:List Nat):Nat->Nat:=λj=>match cM js is j with|some i=>bif aD (qT shs) i then ver j else ver j+1|none=>ver j
def St.handed (S:St)(shs:List Sh)(obs:List (Nat×Ob))(is js:List Nat):St:=
 ⟨S.r,λj=>match cM js is j with|some i=>(match rZ (xb S.ver shs is js) is js (eh obs i) with|some o=>o|none=>.dead)|none=>S.o j,xb S.ver shs is js⟩
def BK (S:St):List Operand->List Sh->List Nat
 |x::xs,s::ss=>(bif pR s then dh S [] [x] else[])++BK S xs ss
 |_,_=>[]
def Ij:List Nat->Nat->List PI
 |[],_=>[]
 |j::js,k=>.setO j (.tget (.o jk) k)::Ij js (k+1)
def QS (S:St)(res:Ty)(f:Nat)(shs:List Sh)(obs:List (Nat×Ob))(acts:List oX)(is js:List Nat):Option (St×Ty×List PI):=
 (vD S is js acts shs).bind λes=>
    bif zg shs obs&&(gX is&&gX js&&sL S is js obs js&&pS (S.o jk)&& !aD js jk) then some (S.handed shs obs is js,res,.mcall jk f (es++js.map .o)::Ij js 1) else none
def QT (C:Ctx)(S:St)(res:Ty)(f:Nat)(shs:List Sh)(obs:List (Nat×Ob))(acts:List oX):Option (St×Ty×List PI):=
 QS S res f shs obs acts (obs.map (·.1)) (ab5 S shs obs acts)
def sG (C:Ctx)(S:St)(f:Nat)(args:List Operand)(caps:List (Nat×Nat)):Option (St×Ty×List PI):=
 (C.sig f).bind λs=>
    match s.mode with
    |.ob shs obs=>QT C (S.fzs (BK S args shs)) s.res f shs obs (args.map (I1 C (S.fzs (BK S args shs)))++caps.map abc)
    |_=>none
def aeg {l:List Nat}{x:Nat}:aD l x=true↔x∈l:=by
 unfold aD;rw[xu];exact⟨λ⟨y,hy,h⟩=>by rw[ay h];exact hy,λh=>⟨x,h,j9 x⟩⟩
def aeW:∀{is js:List Nat} {i j:Nat},cM is js i=some j->∃k:Nat,is[k]?=some i/\js[k]?=some j
 |[],_,i,j,h=>by cases h
 |_::_,[],i,j,h=>by cases h
 |x::is,y::js,i,j,h=>by
  simp only[cM] at h;cases hb:Nat.beq x i<;>simp only[hb,zyy,zyx] at h
  .obtain⟨k,h1,h2⟩:=aeW h;exact⟨k+1,h1,h2⟩
  .cases h;exact⟨0,by rw[ay hb];rfl,rfl⟩
def Md:∀{is js:List Nat} {i j k:Nat},is.Nodup->is[k]?=some i->js[k]?=some j->cM is js i=some j
 |[],_,i,j,k,_,h,_=>by simp at h
 |_::_,[],i,j,k,_,_,h=>by simp at h
 |x::is,y::js,i,j,k,hn,h1,h2=>by
  simp only[cM];cases k with
  |zero=>simp at h1 h2;subst h1 h2;rw[j9];rfl
  |succ k=>
   simp at h1 h2;have au:x≠i:=λe=>by subst e;exact(pg.1 hn).1 (j6 h1)
   rw[fp au];exact Md (pg.1 hn).2 h1 h2
def Me {is js:List Nat}(h2:js.Nodup){i j:Nat}(h:cM is js i=some j):cM js is j=some i:=by
 obtain⟨k,g1,g2⟩:=aeW h;exact Md h2 g2 g1
def asF (obs:List (Nat×Ob))(f:Nat->D):∀{is js:List Nat} {i j:Nat},is=obs.map (·.1)->cM is js i=some j->oK obs (js.map f) i=f j:=by
 induction obs with
 |nil=>intro is js i j h1 h2;subst h1;cases h2
 |cons x l ih=>
  intro is js i j h1 h2;subst h1;cases js with
  |nil=>cases h2
  |cons y js=>
   simp only[iO,cM] at h2;simp only[iO,oK];cases hb:Nat.beq x.1 i<;>simp only[hb,zyy,zyx] at h2 ⊢
   .exact ih rfl h2
   .cases h2;rfl
def aeS:∀{obs:List (Nat×Ob)} {js:List Nat} {os:List D} {i j:Nat},os.length=obs.length->cM (obs.map (·.1)) js i=some j->∃k:Nat,js[k]?=some j/\oK obs os i=os.getD k .none
 |[],_,_,i,j,_,h=>by cases h
 |_::_,[],_,i,j,_,h=>by cases h
 |_::_,_::_,[],i,j,hl,h=>by simp at hl
 |x::obs,y::js,o::os,i,j,hl,h=>by
  simp only[iO,cM] at h;simp only[oK];cases hb:Nat.beq x.1 i<;>simp only[hb,zyy,zyx] at h ⊢
  .obtain⟨k,h1,h2⟩:=aeS (obs:=obs) (js:=js) (os:=os) (by simpa using hl) h;exact⟨k+1,h1,by simpa using h2⟩
  .cases h;exact⟨0,rfl,rfl⟩
def aeZ:∀{obs:List (Nat×Ob)} {js:List Nat} {i:Nat},js.length=obs.length->cM (obs.map (·.1)) js i=none->eh obs i=.dead
 |[],_,i,_,_=>rfl
 |x::obs,[],i,hl,h=>by simp at hl
 |x::obs,y::js,i,hl,h=>by
  simp only[iO,cM] at h;simp only[eh];cases hb:Nat.beq x.1 i<;>simp only[hb,zyy,zyx] at h ⊢
  .exact aeZ (by simpa using hl) h
  .cases h
def acb {S:St}{is js:List Nat}:∀{obs:List (Nat×Ob)} {jl:List Nat},sL S is js obs jl=true->jl.length=obs.length
 |[],[],_=>rfl
 |[],_::_,h=>by simp[sL] at h
 |_::_,[],h=>by simp[sL] at h
 |o::obs,j::jl,h=>by simp only[sL,ao] at h;simp[acb h.2]
def aca {S:St}{is js:List Nat}:∀{obs:List (Nat×Ob)} {jl:List Nat},sL S is js obs jl=true->∀{i j:Nat},cM (obs.map (·.1)) jl i=some j->∃x,rZ S.ver is js (eh obs i)=some x/\BH (S.o j) x=true
 |[],_,_,i,j,h=>by cases h
 |_::_,[],_,i,j,h=>by cases h
 |o::obs,y::jl,hf,i,j,h=>by
  simp only[sL,ao] at hf;simp only[iO,cM] at h;simp only[eh];cases hb:Nat.beq o.1 i<;>simp only[hb,zyy,zyx] at h ⊢
  .exact aca hf.2 h
  .cases h;have h1:=hf.1;split at h1
   .rename_i x hx;exact⟨x,hx,h1⟩
   .cases h1
def acd:∀{a b:List Sh},BI a b=true->a.length=b.length/\∀(i:Nat) (y:Sh),b[i]?=some y->∃x,a[i]?=some x/\E4 x y=true
 |[],[],_=>⟨rfl,λi y h=>by simp at h⟩
 |[],_::_,h=>by simp[BI] at h
 |_::_,[],h=>by simp[BI] at h
 |a::aa,b::bs,h=>by
  simp only[BI,ao] at h;obtain⟨g1,g2⟩:=acd h.2;refine⟨by simp[g1],λi y hy=>?_⟩;cases i with
  |zero=>simp at hy;subst hy;exact⟨a,rfl,h.1⟩
  |succ i=>simp at hy;simpa using g2 i y hy
def Wy {ver:Nat->Nat}{is js:List Nat}:∀{a b:List Sh},Ic ver is js a=some b->b.length=a.length/\∀(i:Nat) (x:Sh),a[i]?=some x->∃y,b[i]?=some y/\lb ver is js x=some y
 |[],b,h=>by simp only[Ic,ba] at h;subst h;exact⟨rfl,λi x h=>by simp at h⟩
 |s::l,b,h=>by
  simp only[Ic,az,aB] at h;obtain⟨y,hy,r,hr,rfl⟩:=h;obtain⟨g1,g2⟩:=Wy hr;refine⟨by simp[g1],λi x hx=>?_⟩;cases i with
  |zero=>simp at hx;subst hx;exact⟨y,rfl,hy⟩
  |succ i=>simp at hx;simpa using g2 i x hx
def N6 {ver:Nat->Nat}{is js:List Nat}:∀{a b:List (Nat×Nat)},Ib ver is js a=some b->b.length=a.length/\∀(i x v:Nat),a[i]?=some (x,v)->∃j,b[i]?=some (j,ver j)/\cM is js x=some j/\v=0
 |[],b,h=>by simp only[Ib,ba] at h;subst h;exact⟨rfl,λi x v h=>by simp at h⟩
 |s::l,b,h=>by
  simp only[Ib] at h;cases hb:Nat.beq s.2 0<;>simp only[hb,zyy,zyx] at h
  .cases h
  simp only[az,aB] at h;obtain⟨y,hy,r,hr,rfl⟩:=h;obtain⟨g1,g2⟩:=N6 hr;refine⟨by simp[g1],λi x v hx=>?_⟩;cases i with
  |zero=>simp at hx;subst hx;exact⟨y,rfl,hy,ay hb⟩
  |succ i=>simp at hx;simpa using g2 i x v hx
def Wx {ver:Nat->Nat}{is js:List Nat}{s x:Sh}(h:lb ver is js s=some x):(∀gs s',s≠.opt gs s')/\∀gs s',x≠.opt gs s':=by
 cases s<;>simp only[lb] at h
 case none=>cases h;exact⟨(λ_ _ e=>by cases e),(λ_ _ e=>by cases e)⟩
 case dat=>cases h;exact⟨(λ_ _ e=>by cases e),(λ_ _ e=>by cases e)⟩
 case obj i v=>
  cases hb:Nat.beq v 0<;>simp only[hb,zyy,zyx] at h
  .cases h
  simp only[aB] at h;obtain⟨j,_,rfl⟩:=h;exact⟨(λ_ _ e=>by cases e),(λ_ _ e=>by cases e)⟩
 case ptr i v off=>
  cases hb:Nat.beq v 0<;>simp only[hb,zyy,zyx] at h
  .cases h
  simp only[aB] at h;obtain⟨j,_,rfl⟩:=h;exact⟨(λ_ _ e=>by cases e),(λ_ _ e=>by cases e)⟩
 case fclo f caps=>
  simp only[aB] at h;obtain⟨j,_,rfl⟩:=h;exact⟨(λ_ _ e=>by cases e),(λ_ _ e=>by cases e)⟩
 all_goals cases h
section
variable {C:Ctx} {S S1:St} {O ρ1:Env} {V σ1:Im} {own dj:Nat->Option Nat} {hv aP:Nat->Value} {w0:World} {σ0:Base} {A:Nat->Prop} {a:Act} {w w1:World} {Z:aT} {dst:Nat}
 {is js:List Nat} {shs:List Sh} {obs:List (Nat×Ob)} {ρf:Env}
def aiQ (hσ:Im.leR C.cap V σ1){eQ:Nat->Value}(fY:∀i j,cM is js i=some j->eQ i=hv j){s x:Sh}(hr:lb S.ver is js s=some x){v:Value}{d:D}(h:aG C S O V hv x v d):aG C (fb shs obs) ρf σ1 eQ s v d:=by
 cases s<;>simp only[lb] at hr
 case none=>trivial
 case dat=>cases hr;exact hσ.rep h
 case obj i ver=>
  cases hb:Nat.beq ver 0<;>simp only[hb,zyy,zyx] at hr
  .cases hr
  simp only[aB] at hr;obtain⟨j,hj,rfl⟩:=hr;exact⟨by rw[ay hb];exact jI _,λ_=>by rw[fY i j hj];exact h.2 rfl⟩
 case ptr i ver off=>
  cases hb:Nat.beq ver 0<;>simp only[hb,zyy,zyx] at hr
  .cases hr
  simp only[aB] at hr;obtain⟨j,hj,rfl⟩:=hr;exact⟨by rw[ay hb];exact jI _,λ_=>by rw[fY i j hj];exact h.2 rfl⟩
 case fclo f caps=>
  simp only[aB] at hr;obtain⟨c,hc,rfl⟩:=hr;obtain⟨g1,g2⟩:=N6 hc;obtain⟨vs,h1,h2,h3⟩:=h;refine⟨vs,h1,by omega,λi x ver hi=>?_⟩;obtain⟨j,e1,e2,e3⟩:=g2 i x ver hi;exact⟨by rw[e3];exact jI _,λ_=>by rw[fY x j e2];exact(h3 i j _ e1).2 rfl⟩
 all_goals cases hr
def awG (hσ:V.le σ1){eQ:Nat->Value}(fY:∀i j,cM is js i=some j->eQ i=aP j){s x:Sh}(hr:lb S1.ver is js s=some x){v:Value}{d:D}(h:aG C (fb shs obs) ρf V eQ s v d):aG C S1 ρ1 σ1 aP x v d:=by
 cases s<;>simp only[lb] at hr
 case none=>cases hr;trivial
 case dat=>cases hr;exact Rep.mono hσ h
 case obj i ver=>
  cases hb:Nat.beq ver 0<;>simp only[hb,zyy,zyx] at hr
  .cases hr
  simp only[aB] at hr;obtain⟨j,hj,rfl⟩:=hr;exact⟨aX _,λ_=>by rw[<-fY i j hj];exact h.2 (ay hb)⟩
 case ptr i ver off=>
  cases hb:Nat.beq ver 0<;>simp only[hb,zyy,zyx] at hr
  .cases hr
  simp only[aB] at hr;obtain⟨j,hj,rfl⟩:=hr;exact⟨aX _,λ_=>by rw[<-fY i j hj];exact h.2 (ay hb)⟩
 case fclo f caps=>
  simp only[aB] at hr;obtain⟨c,hc,rfl⟩:=hr;obtain⟨g1,g2⟩:=N6 hc;obtain⟨vs,h1,h2,h3⟩:=h;refine⟨vs,h1,by omega,λi j ver hi=>?_⟩;have af:i<caps.length:=by have:=(eG.1 hi).1;omega
  obtain⟨j',e1,e2,e3⟩:=g2 i _ _ (aW af);rw[hi] at e1;cases e1;exact⟨aX _,λ_=>by rw[<-fY _ j e2];exact(h3 i _ _ (aW af)).2 e3⟩
 all_goals cases hr
def anO {c x:Sh}(hf:E4 c x=true){v:Value}{d:D}(h:aG C S O V hv c v d):aG C S O V hv x v d:=by
 cases x with
 |none=>trivial
 |dat b=>
  simp only[E4] at hf;split at hf
  .exact Rep.sub h hf
  .cases hf
 |_=>simp only[E4] at hf;rw[Sh.beq_eq _ _ hf] at h;exact h
def auz (hσ:Im.leR C.cap V σ1){eQ:Nat->Value}{GI:Nat->Option Nat}(fY:∀i j,cM is js i=some j->eQ i=hv j)(bu:∀k j i,own k=some j->cM js is j=some i->GI k=some i)(bo:js.Nodup){i j N:Nat}(dG:cM is js i=some j)(hρ:ρf.o i=O.o j){ob x:Ob}
 (hr:rZ S.ver is js ob=some x) (hf:BH (S.o j) x=true) (h:bZ C S O V own hv w N j (S.o j)):bZ C (fb shs obs) ρf σ1 GI eQ w N i ob:=by
 have km:=Me bo dG;cases ob<;>simp only[rZ] at hr
 case row T e=>
  cases hr;cases ho:S.o j<;>rw[ho] at hf h<;>simp only[BH,ao] at hf<;>try (cases hf;done)
  obtain⟨cells,xs,h1,h2,h3,h4⟩:=h;rw[ay hf.1,Ty.beq_eq _ _ hf.2] at*;exact⟨cells,xs,by rw[hρ];exact h1,by rw[fY i j dG];exact h2,h3.monoR hσ,λk hk=>bu k j i (h4 k (by rw[<-fY i j dG];exact hk)) km⟩
 case mp kt et=>
  cases hr;cases ho:S.o j<;>rw[ho] at hf h<;>simp only[BH,ao] at hf<;>try (cases hf;done)
  obtain⟨k,arr,clock,es,h1,h2,h3,h4,h5,h6,h7⟩:=h;rw[Ty.beq_eq _ _ hf.1,Ty.beq_eq _ _ hf.2] at*;exact⟨k,arr,clock,es,by rw[fY i j dG];exact h1,bu k j i h2 km,h3,by rw[hρ];exact h4,h5,h6,λn e p he hp=>⟨hσ.rep (h7 n e p he hp).1,hσ.rep (h7 n e p he hp).2⟩⟩
 case box ag cs=>
  simp only[aB] at hr;obtain⟨QK,cH,rfl⟩:=hr;cases ho:S.o j<;>rw[ho] at hf h<;>simp only[BH,ao] at hf<;>try (cases hf;done)
  obtain⟨k,vs,T,ds,h1,h2,h3,h4,h5,h6,h7⟩:=h;obtain⟨l1,g1⟩:=acd hf.2;obtain⟨l2,g2⟩:=Wy cH;refine⟨k,vs,T,ds,by rw[fY i j dG];exact h1,bu k j i h2 km,h3,by omega,by rw[hρ];exact h5,by omega,λn s hs=>?_⟩;obtain⟨y,hy,F7⟩:=g2 n s hs;obtain⟨z,hz,BY⟩:=g1 n y hy;exact⟨(Wx F7).1,aiQ hσ fY F7 (anO BY (h7 n z hz).2)⟩
 all_goals cases hr
def auA (hσ:V.le σ1){eQ:Nat->Value}{GI:Nat->Option Nat}(fY:∀i j,cM is js i=some j->eQ i=aP j)(bu:∀k i j,GI k=some i->cM is js i=some j->dj k=some j){i j N:Nat}(dG:cM is js i=some j)(hρ:ρ1.o j=ρf.o i){ob x:Ob}
 (hr:rZ S1.ver is js ob=some x) (h:bZ C (fb shs obs) ρf V GI eQ w N i ob):bZ C S1 ρ1 σ1 dj aP w N j x:=by
 cases ob<;>simp only[rZ] at hr
 case row T e=>
  cases hr;obtain⟨cells,xs,h1,h2,h3,h4⟩:=h;exact⟨cells,xs,by rw[hρ];exact h1,by rw[<-fY i j dG];exact h2,h3.mono hσ,λk hk=>bu k i j (h4 k (by rw[fY i j dG];exact hk)) dG⟩
 case mp kt et=>
  cases hr;obtain⟨k,arr,clock,es,h1,h2,h3,h4,h5,h6,h7⟩:=h;exact⟨k,arr,clock,es,by rw[<-fY i j dG];exact h1,bu k i j h2 dG,h3,by rw[hρ];exact h4,h5,h6,λn e p he hp=>⟨(h7 n e p he hp).1.mono hσ,(h7 n e p he hp).2.mono hσ⟩⟩
 case box ag cs=>
  simp only[aB] at hr;obtain⟨QK,cH,rfl⟩:=hr;obtain⟨k,vs,T,ds,h1,h2,h3,h4,h5,h6,h7⟩:=h;obtain⟨l2,g2⟩:=Wy cH;refine⟨k,vs,T,ds,by rw[<-fY i j dG];exact h1,bu k i j h2 dG,h3,by omega,by rw[hρ];exact h5,by omega,λn s hs=>?_⟩;have af:n<cs.length:=by have:=(eG.1 hs).1;omega
  obtain⟨y,hy,F7⟩:=g2 n _ (aW af);rw[hs] at hy;cases hy;exact⟨(Wx F7).2,awG hσ fY F7 (h7 n _ (aW af)).2⟩
 all_goals cases hr
def awF {ver:Nat->Nat}{ob x:Ob}(hr:rZ ver is js ob=some x):x≠.tr:=by
 cases ob<;>simp only[rZ] at hr
 case row=>cases hr;intro e;cases e
 case mp=>cases hr;intro e;cases e
 case box=>
  simp only[aB] at hr;obtain⟨_,_,rfl⟩:=hr;intro e;cases e
 all_goals cases hr
def CtxOK.noM (h:CtxOK C V):CtxOK C V.noM:=⟨λg x hx=>(h.glob g x hx).noM,λg x hx=>by
 have:=h.mg g x hx;have au:V.m g≠some cC:=λe'=>by rw[this] at e';exact wQ (tX e')
 simp only[Im.noM,if_neg au,this]⟩
def IF (C:Ctx)(S:St)(O:Env)(V:Im)(hv:Nat->Value)(x:oX)(v:Value)(d:D):Prop:=aG C S O V hv x.1 v d/\∀y,x.2=some y->Rep C.cap V y.1 v (y.2.ev O)
def ab9:∀{acts:List oX} {shs:List Sh} {es:List PE},vD S is js acts shs=some es->acts.length=shs.length/\es.length=shs.length/\∀(t:Nat) (s:Sh),shs[t]?=some s->∃x e,acts[t]?=some x/\es[t]?=some e/\E3 S is js x s=some e
 |[],[],es,h=>by simp only[vD,ba] at h;subst h;exact⟨rfl,rfl,λt s h=>by simp at h⟩
 |[],_::_,es,h=>by simp[vD] at h
 |_::_,[],es,h=>by simp[vD] at h
 |x::acts,s::shs,es,h=>by
  simp only[vD,az,aB] at h;obtain⟨e,he,r,hr,rfl⟩:=h;obtain⟨g1,g2,g3⟩:=ab9 hr;refine⟨by simp[g1],by simp[g2],λt s' hs=>?_⟩;cases t with
  |zero=>simp at hs;subst hs;exact⟨x,e,rfl,rfl,he⟩
  |succ t=>simp at hs;simpa using g3 t s' hs
def anM (hσ:Im.leR C.cap V σ1){eQ:Nat->Value}(fY:∀i j,cM is js i=some j->eQ i=hv j){x:oX}{s:Sh}{e:PE}(hf:E3 S is js x s=some e){v:Value}{d:D}(h:IF C S O V hv x v d):aG C (fb shs obs) ρf σ1 eQ s v (e.ev O):=by
 have gen:∀s,(match lb S.ver is js s with|some y=>bif Sh.beq x.1 y then some (PE.con .none) else none|none=>none)=some e->pR s=false->aG C (fb shs obs) ρf σ1 eQ s v (e.ev O):=by
  intro s hm hd;split at hm
  .rename_i y hy;cases hb:Sh.beq x.1 y<;>simp only[hb,zyy,zyx] at hm
   .cases hm
   have h1:=h.1;rw[Sh.beq_eq _ _ hb] at h1;have:=aiQ (shs:=shs) (obs:=obs) (ρf:=ρf) hσ fY hy h1;cases s with
   |dat t=>cases hd
   |opt gs s'=>exact absurd rfl ((Wx hy).1 gs s')
   |eptr j ver size off=>simp[lb] at hy
   |agg l=>simp[lb] at hy
   |_=>exact this
  .cases hm
 unfold E3 at hf;split at hf
 .rename_i t;split at hf
  .rename_i y hy;cases hb:Ty.sub y.1 t<;>simp only[hb,zyy,zyx] at hf
   .cases hf
   cases hf;exact hσ.rep ((h.2 y hy).sub hb)
  .cases hf
 .trivial
 .rename_i kO ru;refine gen _ hf ?_;cases s<;>first|rfl|exact absurd rfl (kO _)
def amu {eQ S4:Nat->Value}{V V':Im}{ρf Of':Env}{args:Nat->Value}{ds ds':Nat->D}(h1:∀(t:Nat) (s:Sh),shs[t]?=some s->aG C (fb shs obs) ρf V eQ s (args t) (ds t))(h2:∀(t:Nat) (s:Sh),shs[t]?=some s->pR s=false->aG C (fb shs obs) Of' V' S4 s (args t) (ds' t))
 (hz:∀s,s∈shs->∃x,lb S.ver is js s=some x) {i:Nat} (hi:i∈qT shs):S4 i=eQ i:=by
 have key:∀(l:List Sh),(∀s,s∈l->∃t:Nat,shs[t]?=some s)->i∈qT l->S4 i=eQ i:=by
  intro l
  induction l with
  |nil=>intro _ h;cases h
  |cons s l ih=>
   intro hl hi;obtain⟨t,ht⟩:=hl s (fO ..);have sU:∀s,s∈l->∃t:Nat,shs[t]?=some s:=λs hs=>hl s (fo _ hs);obtain⟨x,hx⟩:=hz s (j6 ht);have a1:=h1 t s ht;have a2:=h2 t s ht;cases s<;>simp only[qT] at hi
   case obj j ver=>
        simp only[lb] at hx;cases hb:Nat.beq ver 0<;>simp only[hb,zyy,zyx] at hx
        .cases hx
        rcases cA.1 hi with e|e
        .subst e;rw[<-(a1.2 (ay hb)),<-((a2 rfl).2 (ay hb))]
        .exact ih sU e
   case ptr j ver off=>
        simp only[lb] at hx;cases hb:Nat.beq ver 0<;>simp only[hb,zyy,zyx] at hx
        .cases hx
        rcases cA.1 hi with e|e
        .subst e;obtain⟨k1,e1,e2⟩:=a1.2 (ay hb);obtain⟨k2,e3,e4⟩:=(a2 rfl).2 (ay hb);rw[e2] at e4;cases e4;rw[e1,e3]
        .exact ih sU e
   case fclo f caps=>
        simp only[lb,aB] at hx;obtain⟨c,hc,_⟩:=hx;obtain⟨_,g2⟩:=N6 hc;rcases dM.1 hi with e|e
        .obtain⟨y,hy,e1⟩:=cr.1 e;subst e1;obtain⟨m,hm⟩:=Ag hy;obtain⟨vs,b1,b2,b3⟩:=a1;obtain⟨zV,c1,c2,c3⟩:=a2 rfl;rw[b1] at c1;have ja:vs=zV:=by simpa using c1
         subst ja;obtain⟨_,_,_,Cj⟩:=g2 m y.1 y.2 hm;rw[<-(b3 m y.1 y.2 hm).2 Cj,<-(c3 m y.1 y.2 hm).2 Cj]
        .exact ih sU e
   all_goals exact ih sU hi
 exact key shs (λs hs=>Ag hs) hi
end
section
variable {C:Ctx} {S:St} {O:Env} {V:Im} {own:Nat->Option Nat} {hv:Nat->Value} {w0:World} {σ0:Base} {A:Nat->Prop} {a:Act} {w:World} {Z:aT} {dst:Nat}
 {is js:List Nat} {shs:List Sh} {obs:List (Nat×Ob)}
def Below.weak {B:Nat}{w w':World}(h:Below 0 w w')(hk:∀k,k<B->w'.heap[k]?=w.heap[k]?):Below B w w':=⟨h.os,h.tape,h.output,h.size,hk⟩
def p7 (js is:List Nat)(own:Nat->Option Nat):Nat->Option Nat:=λk=>(own k).bind (cM js is)
def GH (js is:List Nat)(own own':Nat->Option Nat):Nat->Option Nat:=λk=>
 match own' k with
 |some i=>cM is js i
 |none=>match own k with|some j=>(match cM js is j with|some _=>none|none=>some j)|none=>none
def handed (h:Inv C S O V own hv w0 σ0 A a w)(hC:CtxOK C σ0)(FZ:zg shs obs=true)(FE:is=obs.map (·.1))(adz:is.Nodup)(LF:js.Nodup)(Lr:sL S is js obs js=true){acts:List oX}{es:List PE}(ju:vD S is js acts shs=some es)
 (Lm:S.o jk=.dead) (LP:jk∉js) {vals:List Value} (hvl:vals.length=acts.length) (apz:∀(t:Nat) (x:oX),acts[t]?=some x->∃d,IF C S O V hv x (vals.getD t undef) d) {f:Nat} {res:Ty} {d:D}
 (hfn:tT C f shs obs res (es.map (PE.ev O)++js.map O.o) d):
 Calls C.P f vals.toArray w λe w'=>∃v dr os,e=.returned v/\d=.tup (dr::os)/\os.length=js.length/\
  ∀O':Env,O'.r=O.r->(∀(k j:Nat),js[k]?=some j->O'.o j=os.getD k .none)->(∀j,j∉js->j≠jk->O'.o j=O.o j)->
   ∃σ1 dj aP,Inv C (S.handed shs obs is js) O' σ1 dj aP w0 σ0 A a w'/\Rep C.cap σ1 res v dr:=by
 obtain⟨al1,al2,jq⟩:=ab9 ju;have gS:=acb Lr;have vQ:w0.heap.size<=w.heap.size:=h.below.size;obtain⟨tr,fx,cx,hf,uM⟩:=h.frame
 let eQ:Nat->Value:=λi=>match cM is js i with|some j=>hv j|none=>undef
 have fY:∀i j,cM is js i=some j->eQ i=hv j:=λi j e=>by simp only[eQ,e]
 have adp:Im.leR C.cap V V.noM:=⟨Rep.noM,λ_ _ _ e=>e⟩
 have FO:∀k x,V.noM.m k=some x->V.m k=some x/\x≠cC:=by
  intro k x e;by_cases hd:V.m k=some cC
  .simp[Im.noM,hd] at e
  .simp only[Im.noM,if_neg hd] at e;exact⟨e,λe2=>hd (by rw[e,e2])⟩
 have jN:(es.map (PE.ev O)++js.map O.o).drop shs.length=js.map O.o:=by rw[List.drop_append];simp[al2]
 have aqh:∀t e,es[t]?=some e->(es.map (PE.ev O)++js.map O.o).getD t .none=e.ev O:=λt e he=>by
  have af:=(eG.1 he).1;rw[aE,nD (by simpa using af),cj,he];rfl
 have arn:∀s,s∈shs->∃x,lb S.ver is js s=some x:=by
  intro s hs;obtain⟨t,ht⟩:=Ag hs;obtain⟨x,e,_,_,he⟩:=jq t s ht;unfold E3 at he;split at he
  .exact⟨_,rfl⟩
  .exact⟨_,rfl⟩
  .split at he
   .rename_i y hy;exact⟨y,hy⟩
   .cases he
 have adi:∀t,aG C (fb shs obs) (lM obs (es.map (PE.ev O)++js.map O.o) ((es.map (PE.ev O)++js.map O.o).drop shs.length)) V.noM eQ (shs.getD t .none) (vals.toArray.getD t undef) ((es.map (PE.ev O)++js.map O.o).getD t .none):=by
  intro t;cases hs:shs[t]? with
  |none=>rw[aE,hs];trivial
  |some s=>
   obtain⟨x,e,hx,he,Lq⟩:=jq t s hs;obtain⟨d',apA⟩:=apz t x hx;rw[aE (l:=shs),hs,aqh t e he];have e1:vals.toArray.getD t undef=vals.getD t undef:=by simp[fM,aE]
   rw[e1];exact anM adp fY Lq apA
 have aqu:∀i,bZ C (fb shs obs) (lM obs (es.map (PE.ev O)++js.map O.o) ((es.map (PE.ev O)++js.map O.o).drop shs.length)) V.noM (p7 js is own) eQ w w0.heap.size i (eh obs i):=by
  intro i;cases dG:cM is js i with
  |none=>subst FE;rw[aeZ gS dG];trivial
  |some j=>
   subst FE;obtain⟨x,hx,Ls⟩:=aca Lr dG;refine auz adp fY (λk j' i' hk hl=>by simp only[p7,hk,pj,hl]) LF dG ?_ hx Ls (h.objs j);show oK obs _ i=_;rw[jN];exact asF obs O.o rfl dG
 have cY:=hfn w0.heap.size V.noM (p7 js is own) eQ w vals.toArray (λk=>(∃j,own k=some j/\cM js is j=none)\/V.m k=some cC\/(cx k)) FZ ⟨h.ok.c,λk x e=>h.ok.m k x (FO k x e).1,h.ok.f⟩ ((hC.mono h.le).noM)
  (λk e=>(FO k _ e).2 rfl) vQ (by simp;omega) (λk i hk=>by
    simp only[p7,az] at hk;obtain⟨j,hj,_⟩:=hk;obtain⟨g1,g2,g3,g4⟩:=h.owns k j hj;exact⟨g1,g2,g3,by by_cases e:V.m k=some cC<;>simp[Im.noM,e,g4]⟩) (λk hk=>by
    rcases hk with⟨j,hj,hn⟩|hk|hk
    .obtain⟨g1,g2,g3,g4⟩:=h.owns k j hj;exact⟨g2,by simp[p7,hj,hn],g3,by by_cases e:V.m k=some cC<;>simp[Im.noM,e,g4]⟩
    .have FL:=h.ok.m k _ hk;have hn:own k=none:=by
      cases e:own k with
      |none=>rfl
      |some j=>rw[(h.owns k j e).2.2.2] at hk;cases hk
     refine⟨FL.lt,by simp[p7,hn],λo=>?_,by simp[Im.noM,hk]⟩;cases e:V.c k o with
     |none=>exact e
     |some x=>
      have c1:=h.ok.c k o x e;rcases FL with⟨m1,_⟩|⟨_,m2⟩|⟨m3,_⟩
      .exact absurd rfl m1
      .simp[World.cell?,m2] at c1
      .exact absurd m3.symm wQ
    .have lx:=σ0.sub _ _ _ _ hf.F k hk;have hn:own k=none:=by
      cases e:own k with
      |none=>rfl
      |some j=>exact absurd lx (hf.own k j e)
     refine⟨σ0.lt _ _ _ _ hf.F k lx,by simp[p7,hn],λo=>?_,?_⟩
     .cases e:V.c k o with
      |none=>exact e
      |some x=>exact absurd hk (hf.c k o x e)
     .cases e:V.m k with
      |none=>simp[Im.noM,e]
      |some x=>exact absurd hk (hf.m k x e)) adi aqu
 refine cY.mono λe w' hh=>?_;obtain⟨v,V',own',hv',dr,os,rfl,hd,Sw,hle,ar,hb,ix,dg,cR,vN,adJ,rp,Su,fX⟩:=hh;refine⟨v,dr,os,rfl,hd,by omega,λO' l6 mU yL=>?_⟩;have FP:∀k,k<w.heap.size->own k=none->w'.heap[k]?=w.heap[k]?:=λk hk hn=>ix k hk (by simp[p7,hn]);have aq7:∀k j,own k=some j->cM js is j=none->w'.heap[k]?=w.heap[k]?:=λk j hk hn=>ix k (h.owns k j hk).2.1 (by simp[p7,hk,hn])
 have acY:∀k o x,V.c k o=some x->own k=none:=λk o x e=>by
  cases e1:own k with
  |none=>rfl
  |some j=>rw[(h.owns k j e1).2.2.1 o] at e;cases e
 have ady:∀k x,V.m k=some x->own k=none:=λk x e=>by
  cases e1:own k with
  |none=>rfl
  |some j=>rw[(h.owns k j e1).2.2.2] at e;cases e
 have adC:V.ok w':=⟨λk o x e=>by rw[World.cell?_of_block (FP k (h.lt e) (acY k o x e))];exact h.ok.c k o x e,λk x e=>(h.ok.m k x e).keep (FP k (h.ltm e) (ady k x e)),h.ok.fz λk o x e=>FP k (h.lt e) (acY k o x e)⟩
 have lZ:V.le (V'.plus V):=Im.plus_le2 ar adC;have iw:V'.le (V'.plus V):=Im.plus_le1 V' V;have cH:∀k o x,(V'.plus V).c k o=some x->V'.c k o=some x:=λk o x e=>(Im.plus_c e).elim id (λe=>hle.c k o x e)
 have B3:∀k x,(V'.plus V).m k=some x->V'.m k=some x\/(V.m k=some x/\x=cC):=λk x e=>(Im.plus_m e).elim .inl (λe=>by
  by_cases hd:x=cC
  .exact .inr ⟨e,hd⟩
  .refine .inl (hle.m k x ?_);have:V.m k≠some cC:=λe2=>hd (by rw[e] at e2;cases e2;rfl);simp only[Im.noM,if_neg this,e])
 let aP:Nat->Value:=λj=>match cM js is j with|some i=>hv' i|none=>hv j
 have arY:∀i j,cM is js i=some j->hv' i=aP j:=λi j e=>by simp only[aP,Me LF e]
 have apZ:∀i,i∈qT shs->hv' i=eQ i:=λi hi=>amu (S:=S) (is:=is) (js:=js) (args:=λt=>vals.toArray.getD t undef) (ds:=λt=>(es.map (PE.ev O)++js.map O.o).getD t .none) (ds':=λt=>(es.map (PE.ev O)++js.map O.o).getD t .none) (λt s hs=>by
  have:=adi t;rw[aE (l:=shs),hs] at this;exact this) (λt s hs hd=>rp t s hs hd) arn hi
 have sQ:Compat S hv (S.handed shs obs is js) aP:=by
  refine⟨λj=>?_,λj e=>?_⟩
  .show S.ver j<=xb S.ver shs is js j;unfold xb;split
   .cases aD (qT shs) _<;>simp
   .exact aX _
  .change xb S.ver shs is js j=S.ver j at e;show aP j=hv j;simp only[aP];unfold xb at e;split at e
   .rename_i i hi;cases hb:aD (qT shs) i<;>rw[hb] at e
    .simp at e
    .try simp only[hi]
     rw[apZ i (aeg.1 hb),fY i j (Me adz hi)]
   .rename_i hi;try simp only[hi]
 have ot:∀k j,GH js is own own' k=some j->(k<w.heap.size->own k≠none)/\w0.heap.size<=k/\k<w'.heap.size/\(∀o,V'.c k o=none)/\V'.m k=none/\V.m k≠some cC:=by
  intro k j hk;simp only[GH] at hk;split at hk
  .rename_i i hi;obtain⟨g1,g2,g3,g4,g5⟩:=adJ k i hi;have g6:k<w.heap.size->own k≠none:=λaf e=>g5 af (by simp[p7,e]);refine⟨g6,g1,g2,g3,g4,λe=>?_⟩;exact g6 (h.ltm e) (ady k _ e)
  .split at hk
   .rename_i j' bB;split at hk
    .cases hk
    .rename_i hn;obtain⟨g1,g2,g3,g4⟩:=h.owns k j' bB;have dP:(∃j,own k=some j/\cM js is j=none)\/V.m k=some cC\/(cx k):=.inl ⟨j',bB,hn⟩;refine⟨λ_ e=>(by rw[bB] at e;cases e),g1,ln g2 hb.size,λo=>?_,?_,λe=>?_⟩
     .cases e:V'.c k o with
      |none=>rfl
      |some x=>exact absurd dP (dg k o x e).2
     .cases e:V'.m k with
      |none=>rfl
      |some x=>exact absurd dP (cR k x e).2
     .rw[g4] at e;cases e
   .cases hk
 refine⟨V'.plus V,GH js is own own',aP,⟨h.defers.mono lZ,Im.plus_ok ar adC,h.le.trans lZ,h.old,λk o x e=>?_,λk x e=>?_,h.below.trans (Below.weak hb λk hk=>?_),h.bw,λk j hk=>?_,λt=>?_,λj=>?_,h.opts,?_⟩,fX.mono iw⟩
 .rcases(dg k o x (cH k o x e)).1 with e1|e1
  .exact h.newc k o x e1
  .exact .inr e1
 .rcases B3 k x e with e1|e1
  .rcases(cR k x e1).1 with e2|e2
   .exact h.newm k x (FO k x e2).1
   .exact .inr e2
  .exact h.newm k x e1.1
 .have cE:k<w0.heap.size:=ln hk h.bw;refine FP k (by omega) ?_;cases e:own k with
  |none=>rfl
  |some j=>have:=(h.owns k j e).1;omega
 .obtain⟨_,g1,g2,g3,g4,g5⟩:=ot k j hk;refine⟨g1,g2,λo=>?_,?_⟩
  .cases e:(V'.plus V).c k o with
   |none=>rfl
   |some x=>have:=cH k o x e;rw[g3 o] at this;cases this
  .cases e:(V'.plus V).m k with
   |none=>rfl
   |some x=>
    rcases B3 k x e with e1|e1
    .rw[g4] at e1;cases e1
    .exact absurd (by rw[e1.1,e1.2]) g5
 .show aG C _ O' _ aP (S.r t) _ (O'.r t);rw[l6]
  exact aG.mono lZ sQ (λgs s e=>by
   unfold holds;rw[l6]) (λgs s e=>(h.opts t gs s e).2) (h.regs t)
 .show bZ C _ O' _ _ aP w' _ j (match cM js is j with|some i=>(match rZ (xb S.ver shs is js) is js (eh obs i) with|some o=>o|none=>.dead)|none=>S.o j);split
  .rename_i i hi;have dG:=Me adz hi;split
   .rename_i x hx;refine auA (S1:=S.handed shs obs is js) iw arY (λk i' j' hk hl=>by simp only[GH,hk,hl]) dG ?_ hx (Su i);subst FE;obtain⟨k,bC,cE⟩:=aeS (os:=os) Sw dG;show O'.o j=oK obs os i;rw[cE];exact mU k j bC
   .trivial
  .rename_i hn
   have Sl:j∉js:=λhm=>by
        obtain⟨k,hk⟩:=Ag hm;have af:k<is.length:=by
         have:=(eG.1 hk).1;rw[FE,dY];omega
        have:=Md LF hk (aW af);rw[hn] at this;cases this
   by_cases Lx:j=jk
   .subst Lx;rw[Lm];trivial
   .refine(h.objs j).mono lZ sQ (by show aP j=hv j;simp only[aP,hn]) (yL j Sl Lx) (λk hk=>⟨?_,aq7 k j hk hn⟩);have:own' k=none:=by
     cases e:own' k with
     |none=>rfl
     |some i=>exact absurd (by simp[p7,hk,hn]) ((adJ k i e).2.2.2.2 (h.owns k j hk).2.1)
    simp only[GH,this,hk,hn]
 .refine⟨tr,fx,cx,⟨σ0.keep _ _ _ _ _ hf.F hb λk hk=>?_,λk j hk lx=>?_,λk o x e hc=>?_,λk x e hc=>?_,λk e hB hk=>?_⟩,λj hj=>?_⟩
  .refine FP k (σ0.lt _ _ _ _ hf.F k hk) ?_;cases e:own k with
   |none=>rfl
   |some j=>exact absurd hk (hf.own k j e)
  .have af:=σ0.lt _ _ _ _ hf.F k lx;have:=(ot k j hk).1 af;cases e:own k with
   |none=>exact this e
   |some j'=>exact hf.own k j' e lx
  .exact(dg k o x (cH k o x e)).2 (.inr (.inr hc))
  .rcases B3 k x e with e1|e1
   .exact(cR k x e1).2 (.inr (.inr hc))
   .exact hf.m k x e1.1 hc
  .rcases B3 k _ e with e1|e1
   .have af:=σ0.lt _ _ _ _ hf.F k hk;refine vN k e1 hB af ?_;have:own k=none:=by
     cases e:own k with
     |none=>rfl
     |some j=>exact absurd hk (hf.own k j e)
    simp[p7,this]
   .exact hf.d k e1.1 hB hk
  .change (match cM js is j with|some i=>(match rZ (xb S.ver shs is js) is js (eh obs i) with|some o=>o|none=>.dead)|none=>S.o j)=.tr at hj;split at hj
   .rename_i i hi;split at hj
    .rename_i x hx;exact absurd hj (awF hx)
    .cases hj
   .rename_i hn
    have Sl:j∉js:=λhm=>by
     obtain⟨k,hk⟩:=Ag hm;have af:k<is.length:=by
         have:=(eG.1 hk).1;rw[FE,dY];omega
     have:=Md LF hk (aW af);rw[hn] at this;cases this
    have Lx:j≠jk:=λe=>by subst e;rw[Lm] at hj;cases hj
    rw[yL j Sl Lx];exact uM j hj
def aja:∀(js:List Nat) (k:Nat) {O O':Env} {l:List D},PI.runs Z (Ij js k) O=some O'->O.o jk=.tup l->jk∉js->js.Nodup->
 O'.r=O.r/\(∀(i j:Nat),js[i]?=some j->O'.o j=l.getD (k+i) .none)/\∀j,j∉js->O'.o j=O.o j
 |[],k,O,O',l,h,hs,hn,hd=>by
  simp only[Ij,PI.runs,ba] at h;subst h;exact⟨rfl,λi j e=>by simp at e,λ_ _=>rfl⟩
 |x::js,k,O,O',l,h,hs,hn,hd=>by
  simp only[Ij,PI.runs,PI.run,pj,PE.ev,hs,D.tget] at h;simp only[cA,not_or] at hn;have gu:=pg.1 hd;obtain⟨g1,g2,g3⟩:=aja js (k+1) h (by simp only[Env.setO];rw[bA _ _ hn.1];exact hs) hn.2 gu.2;refine⟨g1,λi j e=>?_,λj hj=>?_⟩
  .cases i with
   |zero=>simp at e;subst e;rw[g3 _ gu.1];simp[Env.setO,aN]
   |succ i=>simp at e;rw[g2 i j e];congr 1;omega
  .simp only[cA,not_or] at hj;rw[g3 j hj.2];simp only[Env.setO];exact bA _ _ hj.1
def akC (h:Inv C S O V own hv w0 σ0 A a w)(hC:CtxOK C σ0)(x:Operand):∃d,IF C S O V hv (I1 C S x) (a.eval x) d:=by
 cases x with
 |tmp t=>
  refine⟨O.r t,?_,λy hy=>cw (gs:=[]) h hC rfl hy⟩;have:=(nr (gs:=[]) h rfl t).1;simpa [Act.eval,I1,gI] using this
 |_=>exact⟨.none,trivial,λy hy=>cw (gs:=[]) h hC rfl hy⟩
def abM (h:Inv C S O V own hv w0 σ0 A a w)(hC:CtxOK C σ0)(hΦ:dq C Z){f:Nat}{args:List Operand}{caps:List (Nat×Nat)}{vs:List Value}(ja:vs.length=caps.length)
 (eP:∀(i j ver:Nat),caps[i]?=some (j,ver)->ver<=S.ver j/\(ver=S.ver j->vs.getD i undef=hv j)) (rh:∀(i j ver:Nat),caps[i]?=some (j,ver)->ver=S.ver j->∃k,hv j=.pointer (some ⟨k,0,none⟩)) {r:St×Ty×List PI} (hr:sG C S f args caps=some r)
 {ρ1:Env} (ak:PI.runs Z r.2.2 O=some ρ1):
 Calls C.P f (args.map a.eval++vs).toArray w λe w'=>∃v σ1 dj aP,e=.returned v/\Inv C r.1 ρ1 σ1 dj aP w0 σ0 A a w'/\Rep C.cap σ1 r.2.1 v ((ρ1.o jk).tget 0):=by
 simp only[sG,az] at hr;obtain⟨s,hs,hr⟩:=hr;split at hr
 case h_2=>cases hr
 rename_i shs obs lC;obtain⟨σ2,jB,iw,h2⟩:=Inv.fzs (BK S args shs) h;have dA:=(re (BK S args shs) S).1;generalize S.fzs (BK S args shs)=S2 at hr h2 dA;unfold QT QS at hr;generalize ab5 S2 shs obs (args.map (I1 C S2)++caps.map abc)=js at hr;simp only[az] at hr;obtain⟨es,ju,hr⟩:=hr;cases hb:(zg shs obs&&(gX (obs.map (·.1))&&gX js&&sL S2 (obs.map (·.1)) js obs js&&pS (S2.o jk)&& !aD js jk))<;>simp only[hb,zyy,zyx] at hr
 .cases hr
 cases hr;simp only[ao,kD] at hb;obtain⟨b0,⟨⟨⟨b1,b2⟩,b3⟩,b4⟩,b5⟩:=hb;have kO:=pY b1;have ru:=pY b2;have Lm:S2.o jk=.dead:=by
  cases e:S2.o jk<;>rw[e] at b4<;>first|rfl|cases b4
 have LP:jk∉js:=λhm=>by rw[aeg.2 hm] at b5;cases b5
 simp only[PI.runs,PI.run,az,aB] at ak;obtain⟨ρ2,⟨d,hd,rfl⟩,ak⟩:=ak;rw[PE.evs_eq,pf,nF] at hd;have e1:js.map (PE.ev O∘PE.o)=js.map O.o:=rfl;rw[e1] at hd;have hfn:=((hΦ f _ d hd s hs).2 shs obs lC).plain b0
 have cY:=handed h2 hC b0 rfl kO ru b3 ju Lm LP (vals:=args.map a.eval++vs) (by simp[ja]) (λt x hx=>by
  rw[mD] at hx;split at hx
  .rename_i af;rw[dY] at af;rw[cj,aW af] at hx;cases hx;have:(args.map a.eval++vs).getD t undef=a.eval args[t]:=by
        rw[aE,nD (by simpa using af),cj,aW af];rfl
   rw[this];exact akC h2 hC _
  .rename_i gR;rw[dY] at gR hx;rw[cj,aB] at hx;obtain⟨c,hc,rfl⟩:=hx;obtain⟨j,ver⟩:=c;have cv:(args.map a.eval++vs).getD t undef=vs.getD (t-args.length) undef:=by
        rw[aE,nE (by simpa using gR),dY,aE]
   obtain⟨g1,g2⟩:=eP _ j ver hc;refine⟨.none,⟨by rw[dA];exact g1,λe=>?_⟩,λy hy=>by cases hy⟩;rw[dA] at e;obtain⟨k,hk⟩:=rh _ j ver hc e;exact⟨k,hk,by rw[cv,g2 e,hk]⟩) (hfn:=hfn)
 refine cY.mono λe w' hh=>?_;obtain⟨v,dr,os,rfl,rfl,Sw,kl⟩:=hh;obtain⟨g1,g2,g3⟩:=aja js 1 (l:=dr::os) ak (by simp[Env.setO,aN]) LP ru
 obtain⟨σ1,dj,aP,hinv,bJ⟩:=kl ρ1 g1 (λk j hk=>by
  have:=g2 k j hk;rw[DQ] at this;simpa using this) (λj hj au=>by rw[g3 j hj];simp only[Env.setO];exact bA _ _ au)
 refine⟨v,σ1,dj,aP,rfl,hinv,?_⟩;rw[g3 jk LP];simpa [Env.setO,aN,D.tget] using bJ
def rI (S:St)(dst:Option Nat)(r:St×Ty×List PI):St×List PI:=
 match dst with
 |some d=>(r.1.setR d (.dat r.2.1),r.2.2++[.setR d (.tget (.o jk) 0)])
 |none=>(r.1,r.2.2)
def awW {a b:List PI}{O:Env}:PI.runs Z (a++b) O=(PI.runs Z a O).bind (PI.runs Z b):=by
 induction a generalizing O with
 |nil=>simp[PI.runs]
 |cons x a ih=>
  simp only[DK,PI.runs];cases x.run Z O with
  |none=>rfl
  |some ρ1=>simp[ih]
def aa9 {o:Oper}{f:Nat}{vals:List Value}(ht:∀d,o.dst=some d->¬A d/\d<a.tmps.size){r:St×Ty×List PI}(hx:(execOp a.eval o).run C.P w=.ok (.enter f vals.toArray) w)
 (hc:∀ρ1,PI.runs Z r.2.2 O=some ρ1->Calls C.P f vals.toArray w λe w'=>∃v σ1 dj aP,e=.returned v/\Inv C r.1 ρ1 σ1 dj aP w0 σ0 A a w'/\Rep C.cap σ1 r.2.1 v ((ρ1.o jk).tget 0)):bU C w0 σ0 Z S O A a w o (rI S o.dst r):=by
 intro O' ak K Q hK;simp only[Oper.wp,hx,Oper.upon];cases hd:o.dst with
 |none=>
  rw[hd] at ak hK;refine(hc O' ak).mono λe w' hh=>?_;obtain⟨v,σ1,dj,aP,rfl,hinv,bJ⟩:=hh;refine hK _ _ ⟨σ1,dj,aP,?_⟩ rfl;have:(λu=>A u\/(none:Option Nat)=some u)=A:=by funext u;simp
  rw[this];exact hinv
 |some d=>
  rw[hd] at ak hK;obtain⟨t1,t2⟩:=ht d hd;simp only[rI,awW,az] at ak;obtain⟨ρ1,h1,h2⟩:=ak;simp[PI.runs,PI.run,PE.ev] at h2;subst h2;refine(hc ρ1 h1).mono λe w' hh=>?_;obtain⟨v,σ1,dj,aP,rfl,hinv,bJ⟩:=hh;refine hK _ _ ⟨σ1,dj,aP,?_⟩ (size_put _ _ _);have:(λu=>A u\/some d=some u)=(λu=>A u\/u=d):=by funext u;simp[eq_comm]
  rw[this];exact hinv.setReg t1 (s:=.dat r.2.1) bJ t2 (λ_ _ e=>by cases e)
def abN (h:Inv C S O V own hv w0 σ0 A a w)(hC:CtxOK C σ0)(aY:dK C)(hΦ:dq C Z){f:Nat}{args:Array Operand}{ts:Array TypeId}{r:St×Ty×List PI}{o:Oper}(ht:∀d,o.dst=some d->¬A d/\d<a.tmps.size)
 (hr:sG C S f args.toList []=some r) (ho:o.op=.call {callee:=.value (.func f),args:=args,argTypes:=ts}):bU C w0 σ0 Z S O A a w o (rI S o.dst r):=by
 have hs:∃s,C.sig f=some s:=by
  simp only[sG,az] at hr;obtain⟨s,hs,_⟩:=hr;exact⟨s,hs⟩
 obtain⟨s,hs⟩:=hs;have hx:=If (a:=a) (w:=w) aY hs ho;have kr:args.map a.eval=(args.toList.map a.eval++[]).toArray:=by apply tQ;simp
 rw[kr] at hx;exact aa9 ht hx λρ1 ak=>abM h hC hΦ (vs:=[]) rfl (λi j ver e=>by simp at e) (λi j ver e=>by simp at e) hr ak
def Au (S:St):List (Nat×Nat)->Bool
 |[]=>true
 |c::l=>Nat.beq c.2 (S.ver c.1)&&(match S.o c.1 with|.box ..=>true|_=>false)&&Au S l
def abe (h:Inv C S O V own hv w0 σ0 A a w):∀{l:List (Nat×Nat)},Au S l=true->∀(i j ver:Nat),l[i]?=some (j,ver)->ver=S.ver j/\∃k,hv j=.pointer (some ⟨k,0,none⟩)
 |[],_,i,j,ver,e=>by simp at e
 |c::l,hl,i,j,ver,e=>by
  simp only[Au,ao] at hl;cases i with
  |zero=>
   simp at e;subst e;refine⟨ay hl.1.1,?_⟩;have h1:=hl.1.2;have h2:=h.objs j;split at h1
   .rename_i ag shs eo;simp only at eo;rw[eo] at h2;obtain⟨k,cs,T,ds,g1,_⟩:=h2;exact⟨k,g1⟩
   .cases h1
  |succ i=>simp at e;exact abe h hl.2 i j ver e
def Bz (C:Ctx)(S:St)(t:Nat)(args:List Operand):Option (St×Ty×List PI):=
 match nq S [] t with
 |.fclo f caps=>bif Au S caps then sG C S f args caps else none
 |_=>none
def abL (h:Inv C S O V own hv w0 σ0 A a w)(hC:CtxOK C σ0)(aY:dK C)(hΦ:dq C Z){t:Nat}{args:Array Operand}{ts:Array TypeId}{r:St×Ty×List PI}{o:Oper}(ht:∀d,o.dst=some d->¬A d/\d<a.tmps.size)
 (hr:Bz C S t args.toList=some r) (ho:o.op=.call {callee:=.value (.tmp t),args:=args,argTypes:=ts}):bU C w0 σ0 Z S O A a w o (rI S o.dst r):=by
 unfold Bz at hr;split at hr
 case h_2=>cases hr
 rename_i f caps jO;cases hb:Au S caps<;>simp only[hb,zyy,zyx] at hr
 .cases hr
 have gx:=(nr (gs:=[]) h rfl t).1;rw[jO] at gx;obtain⟨vs,h1,h2,h3⟩:=gx;have hs:∃s,C.sig f=some s:=by
  simp only[sG,az] at hr;obtain⟨s,hs,_⟩:=hr;exact⟨s,hs⟩
 obtain⟨s,hs⟩:=hs;have hx:=ai3 (a:=a) (w:=w) (vs:=vs) (x:=.tmp t) aY hs (by simpa [Act.eval] using h1) ho;have kr:args.map a.eval++vs.toArray=(args.toList.map a.eval++vs).toArray:=by apply tQ;simp
 rw[kr] at hx;exact aa9 ht hx λρ1 ak=>abM h hC hΦ h2 h3 (λi j ver e _=>(abe h hb i j ver e).2) hr ak
def Ep (S:St):List Operand->Option (List (Nat×Nat))
 |[]=>some []
 |x::xs=>
  match x with
  |.tmp t=>
   match nq S [] t with
   |.ptr j ver off=>bif Nat.beq ver (S.ver j)&&Nat.beq off 0 then(Ep S xs).map λr=>(j,ver)::r else none
   |_=>none
  |_=>none
def ER (C:Ctx)(S:St)(dst:Nat)(fn:Fn)(first caps:Array Operand):Option (St×List PI):=
 match fn,first.toList with
 |.func f,[]=>
  match C.sig f with
  |some s=>bif rB s.mode then(Ep S caps.toList).map λc=>(S.setR dst (.fclo f c),[.setR dst (.con .none)]) else none
  |none=>none
 |_,_=>none
def abf (h:Inv C S O V own hv w0 σ0 A a w):∀{l:List Operand} {c:List (Nat×Nat)},Ep S l=some c->c.length=l.length/\∀(i j ver:Nat),c[i]?=some (j,ver)->ver<=S.ver j/\(ver=S.ver j->(l.map a.eval).getD i undef=hv j)
 |[],c,e=>by simp only[Ep,ba] at e;subst e;exact⟨rfl,λi j ver e=>by simp at e⟩
 |x::xs,c,e=>by
  simp only[Ep] at e;split at e
  case h_2=>cases e
  rename_i t;split at e
  case h_2=>cases e
  rename_i j ver off jO;cases hb:(Nat.beq ver (S.ver j)&&Nat.beq off 0)<;>simp only[hb,zyy,zyx] at e
  .cases e
  simp only[ao] at hb;simp only[aB] at e;obtain⟨r,hr,rfl⟩:=e;obtain⟨g1,g2⟩:=abf h hr;have gx:=(nr (gs:=[]) h rfl t).1;rw[jO] at gx;refine⟨by simp[g1],λi j' ny e=>?_⟩;cases i with
  |zero=>
   simp at e;obtain⟨rfl,rfl⟩:=e;refine⟨gx.1,λe=>?_⟩;obtain⟨k,k1,k2⟩:=gx.2 e;have e0:off=0:=ay hb.2;subst e0;rw[k1,<-k2];simp[Act.eval]
  |succ i=>simp at e;simpa using g2 i j' ny e
def am1 (h:Inv C S O V own hv w0 σ0 A a w)(ht:¬A dst)(af:dst<a.tmps.size){fn:Fn}{first caps:Array Operand}{r:St×List PI}{o:Oper}(hr:ER C S dst fn first caps=some r)(hd:o.dst=some dst)(ho:o.op=.makeFunc fn first caps):bU C w0 σ0 Z S O A a w o r:=by
 unfold ER at hr;split at hr
 case h_2=>cases hr
 rename_i f Fz;split at hr
 case h_2=>cases hr
 rename_i s hs;cases hb:rB s.mode<;>simp only[hb,zyy,zyx] at hr
 .cases hr
 simp only[aB] at hr;obtain⟨c,hc,rfl⟩:=hr;obtain⟨g1,g2⟩:=abf h hc;have RU:first=#[]:=by rw[<-vf];simpa using Fz
 refine bU.value hd λO' ak=>⟨.func (.func f) #[] (caps.toList.map a.eval).toArray,w,?_,?_⟩
 .subst RU;have e9:caps.map a.eval=(caps.toList.map a.eval).toArray:=by apply tQ;rw[vg]
  simp[execOp,ho,Instr.makeFunc,e9]
 .have hρ:O'=O.setR dst .none:=by simp[PI.runs,PI.run,PE.ev] at ak;exact ak.symm
  subst hρ;exact⟨_,_,_,h.setReg ht (s:=.fclo f c) ⟨_,rfl,by simp[g1],g2⟩ af (λ_ _ e=>by cases e)⟩
end
end Cx
