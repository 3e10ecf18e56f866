/-
  Shared texts of this claim.
-/
import Derived.Test.YtbemlocmcgcbdaaGreatDoorKAC
set_option linter.defProp false
set_option linter.unusedSimpArgs false
set_option linter.unusedVariables false
noncomputable section
namespace Cx
open Go Go.RowKit
open Classical in
def Im.noM (V:Im):Im:=⟨V.c,λk=>if V.m k=some cw then none else V.m k⟩
def Rep.noM {cap:Nat->Option CSig}{V:Im}{t:Ty}{v:Value}{d:D}(h:Rep cap V t v d):Rep cap V.noM t v d:=by
 induction h with
 |int k n h1 h2=>exact .int k n h1 h2
 |bool b=>exact .bool b
 |str s h=>exact .str s h
 |agg ts vs ds h1 h2 _ ho ih=>exact .agg ts vs ds h1 h2 ih ho
 |tup ts vs ds h1 h2 _ ih=>exact .tup ts vs ds h1 h2 ih
 |nil e=>exact .nil e
 |emp e a=>exact .emp e a
 |nils e=>exact .nils e
 |nsl0 e=>exact .nsl0 e
 |nsl e k o n c xs _ hx ih=>exact .nsl e k o n c xs ih hx
 |slice e k o n c xs vs hn hc hm _ hv hz ih=>
  refine .slice e k o n c xs vs hn hc hm ih hv λe=>?_;have:=hz e;have ay:V.m k≠some cw:=λe'=>by rw[this] at e';exact xn (uo e')
  simp only[Im.noM,if_neg ay,this]
 |mapnil kt et=>exact .mapnil kt et
 |map kt et r ix es hm hl hx hk _ kX GH=>
  refine .map kt et r ix es ?_ hl hx kX GH;have ay:V.m r≠some cw:=λe=>by rw[hm] at e;cases e;exact GZ hl hk rfl
  simp only[Im.noM,if_neg ay,hm]
 |ref t k o v d _ hv ih=>exact .ref t k o v d ih hv
 |fn f cs vs ds hc h1 h2 _ ih=>exact .fn f cs vs ds hc h1 h2 ih
 |fnnil aa r=>exact .fnnil aa r
def Im.plus (V τ:Im):Im:=⟨λk o=>(V.c k o).or (τ.c k o),λk=>(V.m k).or (τ.m k)⟩
def Im.plus_le1 (V τ:Im):V.le (V.plus τ):=⟨λk o v h=>by simp[Im.plus,h],λk v h=>by simp[Im.plus,h]⟩
def p5.det {w:World}{k:Nat}{x y:List (Value×Value)}(h:p5 w k x)(g:p5 w k y):x=y:=by
 rcases h with⟨_,a,c,h1,h2⟩|⟨h1,h2⟩|⟨h1,_,_,_,h2⟩<;>rcases g with⟨_,a',c',g1,g2⟩|⟨g1,g2⟩|⟨g1,_,_,_,g2⟩
 .rw[h1] at g1;cases g1;rw[<-h2,<-g2]
 .rw[h1] at g2;cases g2
 .rw[h1] at g2;cases g2
 .rw[h2] at g1;cases g1
 .rw[h1,g1]
 .rw[h2] at g2;cases g2
 .rw[h2] at g1;cases g1
 .rw[h2] at g2;cases g2
 .rw[h1,g1]
def Im.plus_le2 {V τ:Im}{w:World}(h:V.ok w)(g:τ.ok w):τ.le (V.plus τ):=by
 refine⟨λk o v e=>?_,λk v e=>?_⟩
 .show(V.c k o).or (τ.c k o)=some v;cases hc:V.c k o with
  |none=>simpa using e
  |some u=>have:=(h.c k o u hc).symm.trans (g.c k o v e);simpa using this
 .show(V.m k).or (τ.m k)=some v;cases hc:V.m k with
  |none=>simpa using e
  |some u=>simpa using(h.m k u hc).det (g.m k v e)
def Im.plus_ok {V τ:Im}{w:World}(h:V.ok w)(g:τ.ok w):(V.plus τ).ok w:=by
 refine⟨λk o v e=>?_,λk v e=>?_,λk o v e=>?_⟩
 .change (V.c k o).or (τ.c k o)=some v at e;cases hc:V.c k o with
  |none=>rw[hc] at e;exact g.c k o v (by simpa using e)
  |some u=>rw[hc] at e;simp at e;subst e;exact h.c k o u hc
 .change (V.m k).or (τ.m k)=some v at e;cases hc:V.m k with
  |none=>rw[hc] at e;exact g.m k v (by simpa using e)
  |some u=>rw[hc] at e;simp at e;subst e;exact h.m k u hc
 .change (V.c k o).or (τ.c k o)=some _ at e;cases hc:V.c k o with
  |none=>rw[hc] at e;exact g.f k o v (by simpa using e)
  |some u=>rw[hc] at e;simp at e;subst e;exact h.f k o v hc
def Im.plus_c {V τ:Im}{k o:Nat}{v:Value}(h:(V.plus τ).c k o=some v):V.c k o=some v\/τ.c k o=some v:=by
 change (V.c k o).or (τ.c k o)=some v at h;cases hc:V.c k o with
 |none=>rw[hc] at h;exact .inr (by simpa using h)
 |some u=>rw[hc] at h;exact .inl (by simpa using h)
def Im.plus_m {V τ:Im}{k:Nat}{v:List (Value×Value)}(h:(V.plus τ).m k=some v):V.m k=some v\/τ.m k=some v:=by
 change (V.m k).or (τ.m k)=some v at h;cases hc:V.m k with
 |none=>rw[hc] at h;exact .inr (by simpa using h)
 |some u=>rw[hc] at h;exact .inl (by simpa using h)
def Ty.pureT:Ty->Bool
 |.int _|.bool|.str|.nils _=>true
 |_=>false
def Ty.pure:Ty->Bool
 |.tup ts=>ts.all Ty.pureT
 |.agg ts=>ts.all Ty.pureT
 |t=>Ty.pureT t
def Rep.pureT {cap:Nat->Option CSig}{V τ:Im}{t:Ty}{v:Value}{d:D}(h:Rep cap V t v d)(hp:t.pureT=true):Rep cap τ t v d:=by
 cases h<;>simp[Ty.pureT] at hp<;>constructor<;>assumption
def Rep.pure {cap:Nat->Option CSig}{V τ:Im}{t:Ty}{v:Value}{d:D}(h:Rep cap V t v d)(hp:t.pure=true):Rep cap τ t v d:=by
 cases h with
 |agg ts vs ds h1 h2 h ho=>exact .agg ts vs ds h1 h2 (λi t hi=>(h i t hi).pureT (cM.1 hp t (j9 hi))) ho
 |tup ts vs ds h1 h2 h=>exact .tup ts vs ds h1 h2 (λi t hi=>(h i t hi).pureT (cM.1 hp t (j9 hi)))
 |int k n h1 h2=>exact .int k n h1 h2
 |bool b=>exact .bool b
 |str s h=>exact .str s h
 |nils e=>exact .nils e
 |_=>simp[Ty.pure,Ty.pureT] at hp
def alk (C:Ctx)(V':Im)(B:Nat)(w':World)(ow:Nat->Option Nat)(i:Nat):RC->Value->D->Prop
 |.dat t,v,d=>t.one=true/\Rep C.cap V' t v d
 |.row T e,v,d=>∃cells xs,d=.list xs/\w'.ownsRow B T e.size v xs.length cells/\du C.cap V' e cells xs/\∀k,v.ownBlock=some k->ow k=some i
def nL (C:Ctx)(s:Sig)(V':Im)(w w':World)(v:Value)(d:D):Prop:=
 match s.mode with
 |.dat=>Rep C.cap V' s.res v d
 |.it _=>True
 |.ob ..=>True
 |.rows l=>∃(vs:List Value) (ds:List D) (ow:Nat->Option Nat),v=.agg vs.toArray/\d=.agg ds/\vs.length=l.length/\ds.length=l.length/\(∀(i:Nat) (c:RC),l[i]?=some c->alk C V' w.heap.size w' ow i c (vs.getD i undef) (ds.getD i .none))/\
   ∀k i,ow k=some i->w.heap.size<=k/\k<w'.heap.size/\(∀o,V'.c k o=none)/\V'.m k=none
 |.row T e=>∃cells xs,d=.list xs/\w'.ownsRow w.heap.size T e.size v xs.length cells/\du C.cap V' e cells xs/\∀k,v.ownBlock=some k->(∀o,V'.c k o=none)/\V'.m k=none
def qw (C:Ctx)(V:Im)(ts:List Ty)(args:List Value)(ds:List D):Prop:=
 args.length=ts.length/\ds.length=ts.length/\∀(i:Nat) (t:Ty),ts[i]?=some t->Rep C.cap V t (args.getD i undef) (ds.getD i .none)
def iP (C:Ctx)(f:Nat)(s:Sig)(ds:List D)(d:D):Prop:=
 ∀(V:Im) (w:World) (args:Array Value),V.ok w->CtxOK C V->qw C V s.args args.toList ds->
  Calls C.P f args w λe w'=>∃v V',e=.returned v/\V.le V'/\V'.ok w'/\Below w.heap.size w w'/\
   (∀k o x,V'.c k o=some x->V.c k o=some x\/w.heap.size<=k)/\(∀k x,V'.m k=some x->V.m k=some x\/w.heap.size<=k)/\nL C s V' w w' v d
def ei:List (Nat×Ob)->Nat->Ob
 |[],_=>.dead
 |x::l,j=>bif Nat.beq x.1 j then x.2 else ei l j
def oR:List (Nat×Ob)->List D->Nat->D
 |x::l,d::ds,j=>bif Nat.beq x.1 j then d else oR l ds j
 |_,_,_=>.none
def fh (shs:List Sh)(obs:List (Nat×Ob)):St:=⟨λt=>shs.getD t .none,λj=>ei obs j,λ_=>0⟩
def lV (obs:List (Nat×Ob))(ds os:List D):Env:=⟨λt=>ds.getD t .none,λj=>oR obs os j⟩
def pY:Sh->Bool
 |.dat _=>true
 |_=>false
def wL:Mode->Bool
 |.ob ..=>true
 |_=>false
def vd:Sh->Bool
 |.none|.dat _|.obj ..|.ptr ..|.fclo ..=>true
 |_=>false
def Nv:Ob->Bool
 |.row ..|.mp ..=>true
 |.box _ shs=>shs.all vd
 |_=>false
def zW (shs:List Sh)(obs:List (Nat×Ob)):Bool:=shs.all vd&&obs.all λx=>Nv x.2
def MR:List Sh->List (Nat×Ob)->Option (TypeId×Ty×List Ty)
 |.obj 0 0::l,[(0,.row T e),(1,.tr)]=>(acC l).map λts=>(T,e,ts)
 |_,_=>none
def xO (C:Ctx)(f:Nat)(T:TypeId)(e:Ty)(ts:List Ty)(ds:List D)(d:D):Prop:=
 ∀(N:Nat) (V:Im) (w:World) (v:Value) (args:List Value) (xs:List D) (cells:List Value) (ds':List D),ds=.list xs::ds'->V.ok w->CtxOK C V->N<=w.heap.size->w.ownsRow N T e.size v xs.length cells->du C.cap V e cells xs->
  (∀k,v.ownBlock=some k->k<w.heap.size/\(∀o,V.c k o=none)/\V.m k=none)->qw C V ts args ds'->
  Calls C.P f (v::args).toArray w λx w'=>∃v' fu db,x=.returned v'/\d=.list fu/\Below N w w'/\(∀k,k<w.heap.size->v.ownBlock≠some k->w'.heap[k]?=w.heap[k]?)/\
   w'.ownsRow N T e.size v' fu.length db/\du C.cap V e db fu/\∀k,v'.ownBlock=some k->(v.ownBlock=some k\/w.heap.size<=k)/\k<w'.heap.size
def uj (C:Ctx)(f:Nat)(shs:List Sh)(obs:List (Nat×Ob))(res:Ty)(ds:List D)(d:D):Prop:=
 ∀(N:Nat) (V:Im) (own:Nat->Option Nat) (hv:Nat->Value) (w:World) (args:Array Value) (cx:Nat->Prop),zW shs obs=true->V.ok w->CtxOK C V->(∀k,V.m k≠some cw)->N<=w.heap.size->args.size=shs.length->
  (∀k j,own k=some j->N<=k/\k<w.heap.size/\(∀o,V.c k o=none)/\V.m k=none)->
  (∀k,cx k->k<w.heap.size/\own k=none/\(∀o,V.c k o=none)/\V.m k=none)->
  (∀t,aG C (fh shs obs) (lV obs ds (ds.drop shs.length)) V hv (shs.getD t .none) (args.getD t undef) (ds.getD t .none))->
  (∀j,cf C (fh shs obs) (lV obs ds (ds.drop shs.length)) V own hv w N j (ei obs j))->
  Calls C.P f args w λe w'=>∃v V' own' hv' dr os,e=.returned v/\d=.tup (dr::os)/\os.length=obs.length/\V.le V'/\V'.ok w'/\Below 0 w w'/\
   (∀k,k<w.heap.size->own k=none->w'.heap[k]?=w.heap[k]?)/\
   (∀k o x,V'.c k o=some x->(V.c k o=some x\/N<=k)/\¬cx k)/\(∀k x,V'.m k=some x->(V.m k=some x\/N<=k)/\¬cx k)/\(∀k,V'.m k=some cw->N<=k->k<w.heap.size->own k≠none)/\
   (∀k j,own' k=some j->N<=k/\k<w'.heap.size/\(∀o,V'.c k o=none)/\V'.m k=none/\(k<w.heap.size->own k≠none))/\
   (∀(t:Nat) (sh:Sh),shs[t]?=some sh->pY sh=false->aG C (fh shs obs) (lV obs ds os) V' hv' sh (args.getD t undef) (ds.getD t .none))/\
   (∀j,cf C (fh shs obs) (lV obs ds os) V' own' hv' w' N j (ei obs j))/\Rep C.cap V' res v dr
def aG.ctx {C C':Ctx}(eQ:C'.cap=C.cap){S:St}{O:Env}{V:Im}{hv:Nat->Value}{s:Sh}(hp:vd s=true){v:Value}{d:D}(h:aG C S O V hv s v d):aG C' S O V hv s v d:=by
 cases s with
 |dat t=>show Rep C'.cap V t v d;rw[eQ];exact h
 |opt gs s=>cases hp
 |eptr j ver a b=>cases hp
 |yv=>cases hp
 |agg l=>cases hp
 |_=>exact h
def cf.ctx {C C':Ctx}(eQ:C'.cap=C.cap){S:St}{O:Env}{V:Im}{own:Nat->Option Nat}{hv:Nat->Value}{w:World}{N j:Nat}{ob:Ob}(hp:Nv ob=true\/ob=.dead)(h:cf C S O V own hv w N j ob):cf C' S O V own hv w N j ob:=by
 rcases hp with hp|rfl
 .cases ob with
  |row T e=>obtain⟨cells,xs,h1,h2,h3,h4⟩:=h;exact⟨cells,xs,h1,h2,by rw[eQ];exact h3,h4⟩
  |mp kt et=>obtain⟨k,arr,clock,es,h1,h2,h3,h4,h5,h6,h7⟩:=h;exact⟨k,arr,clock,es,h1,h2,h3,h4,h5,h6,by rw[eQ];exact h7⟩
  |box ag shs=>
   obtain⟨k,cs,T,ds,h1,h2,h3,h4,h5,h6,h7⟩:=h;exact⟨k,cs,T,ds,h1,h2,h3,h4,h5,h6,λi s hs=>⟨(h7 i s hs).1,(h7 i s hs).2.ctx eQ (cM.1 hp s (j9 hs))⟩⟩
  |_=>cases hp
 .trivial
def af3 {obs:List (Nat×Ob)}(h:(obs.all λx=>Nv x.2)=true)(j:Nat):Nv (ei obs j)=true\/ei obs j=.dead:=by
 induction obs with
 |nil=>exact .inr rfl
 |cons x l ih=>
  simp only[sv,au] at h;simp only[ei];cases hb:Nat.beq x.1 j
  .exact ih h.2
  .exact .inl h.1
def uj.ctx {C C':Ctx}{f:Nat}{shs:List Sh}{obs:List (Nat×Ob)}{res:Ty}{ds:List D}{d:D}(h:uj C f shs obs res ds d)(hP:C'.P=C.P)(eQ:C'.cap=C.cap)(s9:C'.glob=C.glob):uj C' f shs obs res ds d:=by
 intro N V own hv w args cx hp ax hC bp hN aJ bB dO h1 h2;have aW:=hp;simp only[zW,au] at aW;have wv:∀t s,shs[t]?=some s->vd s=true:=λt s hs=>cM.1 aW.1 s (j9 hs);have hC':CtxOK C V:=⟨λg x hx=>by have:=hC.glob g x (by rw[s9];exact hx);rwa [eQ] at this,λg x hx=>hC.mg g x (by rw[s9];exact hx)⟩
 have:=h N V own hv w args cx hp ax hC' bp hN aJ bB dO (λt=>by
  cases hs:shs[t]? with
  |none=>rw[aH,hs];trivial
  |some s=>have:=h1 t;rw[aH,hs] at this ⊢;exact this.ctx eQ.symm (wv t s hs)) (λj=>(h2 j).ctx eQ.symm (af3 aW.2 j))
 rw[hP];refine this.mono λe w' hh=>?_;obtain⟨v,V',own',hv',dr,os,g1,g2,g3,g4,g5,g6,g7,g8,g9,g10,g11,g12,g13,g14⟩:=hh;exact⟨v,V',own',hv',dr,os,g1,g2,g3,g4,g5,g6,g7,g8,g9,g10,g11,λt sh hs hd=>(g12 t sh hs hd).ctx eQ (wv t sh hs),λj=>(g13 j).ctx eQ (af3 aW.2 j),by rw[eQ];exact g14⟩
def du.cap {c c':Nat->Option CSig}(hc:c'=c){V:Im}{e:Ty}{cells:List Value}{xs:List D}(h:du c V e cells xs):du c' V e cells xs:=hc▸h
def xO.ctx {C C':Ctx}{f:Nat}{T:TypeId}{e:Ty}{ts:List Ty}{ds:List D}{d:D}(h:xO C f T e ts ds d)(hP:C'.P=C.P)(eQ:C'.cap=C.cap)(s9:C'.glob=C.glob):xO C' f T e ts ds d:=by
 intro N V w v args xs cells ds' h1 h2 h3 h4 h5 h6 h7 h8;rw[hP];refine(h N V w v args xs cells ds' h1 h2 ⟨λg x hx=>by have:=h3.glob g x (by rw[s9];exact hx);rwa [eQ] at this,λg x hx=>h3.mg g x (by rw[s9];exact hx)⟩ h4 h5 (h6.cap eQ.symm) h7 ⟨h8.1,h8.2.1,λi t hi=>by have:=h8.2.2 i t hi;rwa [eQ] at this⟩).mono λx w' hh=>?_;obtain⟨v',fu,db,g1,g2,g3,g4,g5,g6,g7⟩:=hh;exact⟨v',fu,db,g1,g2,g3,g4,g5,g6.cap eQ,g7⟩
def eB (C:Ctx)(f:Nat)(shs:List Sh)(obs:List (Nat×Ob))(res:Ty)(ds:List D)(d:D):Prop:=
 match MR shs obs with
 |some m=>xO C f m.1 m.2.1 m.2.2 ds d
 |none=>uj C f shs obs res ds d
def eB.ctx {C C':Ctx}{f:Nat}{shs:List Sh}{obs:List (Nat×Ob)}{res:Ty}{ds:List D}{d:D}(h:eB C f shs obs res ds d)(hP:C'.P=C.P)(eQ:C'.cap=C.cap)(s9:C'.glob=C.glob):eB C' f shs obs res ds d:=by
 unfold eB at h ⊢;split at h
 .exact xO.ctx h hP eQ s9
 .exact uj.ctx h hP eQ s9
def agx {shs:List Sh}{obs:List (Nat×Ob)}(h:∀x,x∈obs->x.2≠.tr):MR shs obs=none:=by
 unfold MR;split
 .exact absurd rfl (h (1,.tr) (by simp))
 .rfl
def eB.of {C:Ctx}{f:Nat}{shs:List Sh}{obs:List (Nat×Ob)}{res:Ty}{ds:List D}{d:D}(ht:∀x,x∈obs->x.2≠.tr)(h:uj C f shs obs res ds d):eB C f shs obs res ds d:=by
 unfold eB;rw[agx ht];exact h
def eB.plain {C:Ctx}{f:Nat}{shs:List Sh}{obs:List (Nat×Ob)}{res:Ty}{ds:List D}{d:D}(hp:zW shs obs=true)(h:eB C f shs obs res ds d):uj C f shs obs res ds d:=by
 unfold eB at h;rw[agx λx hx e=>?_] at h
 .exact h
 .simp only[zW,au] at hp;have:=cM.1 hp.2 x hx;rw[e] at this;cases this
def dj (C:Ctx)(Z:aO):Prop:=∀f ds d,Z f ds=some d->∀s,C.sig f=some s->(wL s.mode=false->iP C f s ds d)/\∀shs obs,s.mode=.ob shs obs->eB C f shs obs s.res ds d
def oO:List Ty->Ty->Option (List Ty)
 |[.fn ys .bool],.tup []=>some ys
 |_,_=>none
def dJ (C:Ctx):Prop:=(∀f cs,C.cap f=some cs->oO cs.args cs.res=none->C.sig f=some ⟨cs.args++cs.caps,cs.res,.dat⟩)/\∀f s,C.sig f=some s->∃fn,C.P.funcs[f]?=some fn/\fn.body.isSome=true/\(fn.name== "runtime.NumGoroutine")=false
def Jw (S:St):List AgC->List Nat
 |[]=>[]
 |.obj j ver::l=>bif Nat.beq ver (S.ver j)&&p6 (S.o j) then j::Jw S l else Jw S l
 |_::l=>Jw S l
def ej (S:St)(gs:List (Nat×Bool)):List Operand->List Nat
 |[]=>[]
 |x::xs=>
  match gN S gs x with
  |.obj j ver=>bif Nat.beq ver (S.ver j)&&p6 (S.o j) then j::ej S gs xs else ej S gs xs
  |.agg l=>Jw S l++ej S gs xs
  |_=>ej S gs xs
def uI (gs:List (Nat×Bool))(s:Sh):Sh:=
 match gs with
 |[]=>s
 |_=>.opt gs s
def St.fzs (S:St)(js:List Nat):St:=js.foldl St.fz S
def mA:List RC->List Ty
 |[]=>[]
 |.dat t::l=>t::mA l
 |.row _ e::l=>.slice e.rol::mA l
def Ra (fr:List Nat)(dst:Nat)(s:Sig):Option Sig:=
 match s.mode with
 |.rows l=>bif !(fr.any (Nat.beq (2000000+dst)))&&Ty.beq s.res (.agg (mA l)) then some {s with mode:=.dat} else some s
 |_=>some s
def N5:∀{l:List RC} {i:Nat} {t:Ty},(mA l)[i]?=some t->(l[i]?=some (.dat t))\/∃T e,l[i]?=some (.row T e)/\t=.slice e.rol
 |[],i,t,h=>by simp[mA] at h
 |.dat u::l,0,t,h=>by simp[mA] at h;subst h;exact .inl rfl
 |.row T e::l,0,t,h=>by simp[mA] at h;exact .inr ⟨T,e,rfl,h.symm⟩
 |.dat u::l,i+1,t,h=>by simpa using N5 (l:=l) (i:=i) (by simpa [mA] using h)
 |.row T e::l,i+1,t,h=>by simpa using N5 (l:=l) (i:=i) (by simpa [mA] using h)
def Wq:∀(l:List RC),(mA l).length=l.length
 |[]=>rfl
 |.dat _::l=>by simp[mA,Wq l]
 |.row ..::l=>by simp[mA,Wq l]
def iP.asDat {C:Ctx}{f:Nat}{s:Sig}{ds:List D}{d:D}{l:List RC}(hm:s.mode=.rows l)(hr:s.res=.agg (mA l))(h:iP C f s ds d):iP C f {s with mode:=.dat} ds d:=by
 intro V w args h1 h2 h3;refine(h V w args h1 h2 h3).mono λe w' hh=>?_;obtain⟨v,V',rfl,hle,ax,hb,dD,cY,ky⟩:=hh;simp only[nL,hm] at ky;obtain⟨vs,ds,ow,rfl,rfl,l1,l2,S9,Mi⟩:=ky
 have hex:∀i,∃cs:List Value,∀T e,l[i]?=some (.row T e)->∃xs,ds.getD i .none=.list xs/\w'.ownsRow w.heap.size T e.size (vs.getD i undef) xs.length cs/\du C.cap V' e cs xs/\∀k,(vs.getD i undef).ownBlock=some k->ow k=some i:=λi=>by
  cases hl:l[i]? with
  |none=>exact⟨[],λ_ _ h=>by cases h⟩
  |some c=>
   cases c with
   |dat t=>exact⟨[],λ_ _ h=>by cases h⟩
   |row T e=>
    obtain⟨cs,xs,g1,g2,g3,g4⟩:=S9 i _ hl;exact⟨cs,λT' e' h=>by cases h;exact⟨xs,g1,g2,g3,g4⟩⟩
 let cs:Nat->List Value:=λi=>Classical.choose (hex i)
 have cI:∀i T e,l[i]?=some (.row T e)->∃xs,ds.getD i .none=.list xs/\w'.ownsRow w.heap.size T e.size (vs.getD i undef) xs.length (cs i)/\du C.cap V' e (cs i) xs/\∀k,(vs.getD i undef).ownBlock=some k->ow k=some i:=λi=>aaZ (hex i)
 let rz:Nat->Nat->Bool:=λi k=>decide ((vs.getD i undef).ownBlock=some k)&&(match l[i]? with|some (.row ..)=>true|_=>false)
 let τ:Im:={c:=λk o=>match ow k with|some i=>(bif rz i k then(cs i)[o]? else none)|none=>V'.c k o,m:=λk=>match ow k with|some i=>(bif rz i k then some mB else none)|none=>V'.m k}
 have iJ:V'.le τ:=by
  refine⟨λk o x hx=>?_,λk x hx=>?_⟩
  .cases hk:ow k with
   |none=>simp only[τ,hk];exact hx
   |some i=>have:=(Mi k i hk).2.2.1 o;rw[this] at hx;cases hx
  .cases hk:ow k with
   |none=>simp only[τ,hk];exact hx
   |some i=>have:=(Mi k i hk).2.2.2;rw[this] at hx;cases hx
 have cW:∀i k,rz i k=true->∃T e,l[i]?=some (.row T e)/\(vs.getD i undef).ownBlock=some k:=λi k hk=>by
  simp only[rz,au,decide_eq_true_eq] at hk;obtain⟨bD,ct⟩:=hk;split at ct
  .rename_i T e hl;exact⟨T,e,hl,bD⟩
  .cases ct
 refine⟨_,τ,rfl,hle.trans iJ,⟨λk o x hx=>?_,λk x hx=>?_,λk o x hx=>?_⟩,hb,λk o x hx=>?_,λk x hx=>?_,?_⟩
 .simp only[τ] at hx;split at hx
  .rename_i i hi;cases hr:rz i k with
   |false=>rw[hr] at hx;cases hx
   |true=>
    rw[hr,zyy] at hx;obtain⟨T,e,hl,iZ⟩:=cW i k hr;obtain⟨xs,g1,g2,g3,g4⟩:=cI i T e hl;have:=g2.cells iZ o x hx;rw[uu] at this;simpa using this
  .exact ax.c k o x hx
 .simp only[τ] at hx;split at hx
  .rename_i i hi;cases hr:rz i k with
   |false=>rw[hr] at hx;cases hx
   |true=>
    rw[hr,zyy] at hx;cases hx;obtain⟨T,e,hl,iZ⟩:=cW i k hr;obtain⟨xs,g1,g2,g3,g4⟩:=cI i T e hl;obtain⟨fU,T',fz,e'⟩:=aiy g2 iZ;exact .inr (.inr ⟨rfl,fU,T',fz,e'⟩)
  .exact ax.m k x hx
 .simp only[τ] at hx;split at hx
  .rename_i i hi;cases hr:rz i k with
   |false=>rw[hr] at hx;cases hx
   |true=>
    obtain⟨T,e,hl,iZ⟩:=cW i k hr;obtain⟨xs,g1,g2,g3,g4⟩:=cI i T e hl;exact .inr (aiz g2 iZ o)
  .exact ax.f k o x hx
 .simp only[τ] at hx;split at hx
  .rename_i i hi;exact .inr (Mi k i hi).1
  .exact dD k o x hx
 .simp only[τ] at hx;split at hx
  .rename_i i hi;exact .inr (Mi k i hi).1
  .exact cY k x hx
 .simp only[nL,hr];have hlen:=Wq l;refine .agg (mA l) vs ds (by omega) (by omega) (λi t hi=>?_) (λi t hi=>?_)
  .rcases N5 hi with hl|⟨T,e,hl,rfl⟩
   .exact(S9 i _ hl).2.mono iJ
   .obtain⟨xs,g1,g2,⟨us,g3,g4⟩,g5⟩:=cI i T e hl;rw[g1];rcases g2.2 with⟨e1,e2⟩|⟨g,cap,cur,e1,e2,e3,e4,e5,e6,e7⟩
    .rw[e1];have:xs=[]:=Pz e2;subst this;exact .nil _
    .rw[e1];have iZ:(vs.getD i undef).ownBlock=some g:=by rw[e1];rfl
     refine .slice e.rol g 0 xs.length cap xs us rfl e4 e5 (λi x hx=>((g3 i x hx).mono iJ).unf_rol) (λj m u hj hu=>?_) (λ_=>by
      have hR:rz i g=true:=by simp only[rz,iZ,hl];simp
      simp only[τ,g5 g iZ,hR,zyy])
     rw[Ty.rol_size];have hR:rz i g=true:=by simp only[rz,iZ,hl];simp
     simp only[τ,g5 g iZ,hR,zyy,ke];exact g4 j m u hj hu
  .rcases N5 hi with hl|⟨T,e,hl,rfl⟩
   .exact(S9 i _ hl).1
   .rfl
def anG {C:Ctx}{fr:List Nat}{dst f:Nat}{s s':Sig}{ds:List D}{d:D}(hs:Ra fr dst s=some s')(hm:s'.mode=.dat)(h:wL s.mode=false->iP C f s ds d):iP C f s' ds d:=by
 unfold Ra at hs;split at hs
 .rename_i l hl;cases hb:(!(fr.any (Nat.beq (2000000+dst)))&&Ty.beq s.res (.agg (mA l)))<;>simp only[hb,zyy,zyx] at hs
  .cases hs;rw[hl] at hm;cases hm
  .cases hs;simp only[au] at hb;exact iP.asDat hl (Ty.beq_eq _ _ hb.2) (h (by rw[hl];rfl))
 .cases hs;exact h (by rw[hm];rfl)
def Cj (C:Ctx)(S:St)(gs:List (Nat×Bool))(dst:Nat)(f:Nat)(args:List Operand):Option (St×Sh×List PI):=
 ((C.sig f).bind (Ra C.fr dst)).bind λs=>
   match s.mode with
   |.dat=>
    (sl C (S.fzs (ej S gs args)) gs args).bind λu=>
      bif Ty.subs u.1 s.args then some (bif s.res.pure then S else S.fzs (ej S gs args),.dat s.res,[.call gs dst f u.2]) else Option.none
   |_=>Option.none
def Fi (C:Ctx)(S:St)(dst:Nat)(f:Nat)(args:List Operand):ls:=
 (C.sig f).bind λs=>
    match s.mode with
    |.row T e=>
     (sl C (S.fzs (ej S [] args)) [] args).bind λu=>
       bif Ty.subs u.1 s.args then some (mkObj (bif e.pure then S else S.fzs (ej S [] args)) dst (.row T e),[.call [] dst f u.2,.setO dst (.r dst),.setR dst (.con .none)]) else Option.none
    |_=>Option.none
def Ri (C:Ctx)(S:St)(dst:Nat)(f:Nat)(args:List Operand):ls:=none
def Fh (C:Ctx)(S:St)(dst:Nat)(f:Nat)(args:List Operand):ls:=
 (C.sig f).bind λs=>
    match s.mode,args with
    |.ob shs obs,x::xs=>
     match MR shs obs,gN S [] x with
     |some m,.obj j ver=>
      match S.o j with
      |.row T e=>
       bif Nat.beq ver (S.ver j)&&(Nat.beq T m.1&&Ty.beq e m.2.1) then
            (sl C S [] xs).bind λu=>
             bif Ty.subs u.1 m.2.2 then some ((S.newO j (.row T e)).setR dst (.obj j (S.ver j+1)),[.call [] dst f (.o j::u.2),.setO j (.r dst),.setR dst (.con .none)]) else Option.none
       else Option.none
      |_=>Option.none
     |_,_=>Option.none
    |_,_=>Option.none
def yN (C:Ctx)(S:St)(gs:List (Nat×Bool))(dst:Nat)(x:Operand)(args:List Operand):Option (St×Sh×List PI):=
 match use C S gs x with
 |some (.fn aa r,e)=>
  match oO aa r with
  |some _=>Option.none
  |Option.none=>
  (sl C (S.fzs (ej S gs args)) gs args).bind λu=>
    bif Ty.subs u.1 aa then some (bif r.pure then S else S.fzs (ej S gs args),.dat r,[.callc gs dst e u.2]) else Option.none
 |_=>Option.none
def sU:∀(js:List Nat) (S:St),(S.fzs js).ver=S.ver/\(S.fzs js).r=S.r
 |[],S=>⟨rfl,rfl⟩
 |j::js,S=>by
  obtain⟨h1,h2⟩:=sU js (S.fz j);obtain⟨k1,k2⟩:=Ls S j;exact⟨h1.trans k1,h2.trans k2⟩
section
variable {C:Ctx} {S:St} {O:Env} {V:Im} {own:Nat->Option Nat} {hv:Nat->Value} {w0:World} {σ0:Base} {A:Nat->Prop} {a:Act} {w:World} {gs:List (Nat×Bool)} {Z:aO} {dst:Nat}
def Inv.fzs:∀(js:List Nat) {S:St} {V:Im} {own:Nat->Option Nat},Inv C S O V own hv w0 σ0 A a w->∃V' own',V.le V'/\Inv C (S.fzs js) O V' own' hv w0 σ0 A a w
 |[],S,V,own,h=>⟨V,own,.refl V,h⟩
 |j::js,S,V,own,h=>by
  obtain⟨σ1,dH,hle,h1⟩:=h.fz j;obtain⟨σ2,jC,iJ,h2⟩:=Inv.fzs js h1;exact⟨σ2,jC,hle.trans iJ,h2⟩
def Inv.world (h:Inv C S O V own hv w0 σ0 A a w){V':Im}{w':World}(hle:V.le V')(ax:V'.ok w')(hb:Below w.heap.size w w')(dD:∀k o x,V'.c k o=some x->V.c k o=some x\/w.heap.size<=k)
 (cY:∀k x,V'.m k=some x->V.m k=some x\/w.heap.size<=k):Inv C S O V' own hv w0 σ0 A a w':=by
 have aJ:=h.below.size;refine h.step (λ_=>False) rfl hle ax (λk o x hx=>(dD k o x hx).imp id (λe=>⟨by omega,.inr e⟩)) (λk x hx=>(cY k x hx).imp id (λe=>⟨by omega,.inr e⟩)) (hb.mono aJ) (.refl S hv) (λj _=>⟨rfl,rfl,rfl,λk hk=>⟨hk,hb.block k (h.owns k j hk).2.1⟩⟩) (λ_ hf=>hf.elim) (λk j hk=>?_) (λ_=>id) (λt=>.inl ⟨rfl,rfl,rfl⟩) (λ_ _=>rfl) (λk hk _=>hb.block k hk) (λk i hk=>.inl ⟨i,hk⟩) (λ_ hf=>hf.elim);obtain⟨g1,g2,g3,g4⟩:=h.owns k j hk;refine⟨g1,by have:=hb.size;omega,λo=>?_,?_⟩
 .cases hc:V'.c k o with
  |none=>rfl
  |some x=>rcases dD k o x hc with e|e
           .rw[g3 o] at e;cases e
           .omega
 .cases hc:V'.m k with
  |none=>rfl
  |some x=>rcases cY k x hc with e|e
           .rw[g4] at e;cases e
           .omega
def CtxOK.mono {C:Ctx}{V V':Im}(h:CtxOK C V)(hle:V.le V'):CtxOK C V':=⟨λg x hx=>(h.glob g x hx).mono hle,λg x hx=>hle.m _ _ (h.mg g x hx)⟩
def I0 (h:Inv C S O V own hv w0 σ0 A a w)(hC:CtxOK C σ0)(hg:holds gs O=true){xs:List Operand}{u:List Ty×List PE}{ts:List Ty}(hu:sl C S gs xs=some u)(hs:Ty.subs u.1 ts=true):qw C V ts (xs.map a.eval) (PE.evs O u.2):=by
 obtain⟨l1,l2,aP⟩:=akH h hC hg _ _ hu;have hl:=Ty.subs_len _ _ hs;refine⟨by rw[dX];omega,by rw[PE.evs_eq,dX];omega,λi t hi=>?_⟩;obtain⟨s,eh,cX⟩:=Ty.subs_get _ _ hs i t hi;exact(aP i s eh).sub cX
def OI {o:Oper}{f:Nat}{args:Array Operand}{ts:Array TypeId}(bh:dJ C){s:Sig}(hs:C.sig f=some s)(ho:o.op=.call {callee:=.value (.func f),args:=args,argTypes:=ts}):
 (execOp a.eval o).run C.P w=.ok (.enter f (args.map a.eval)) w:=by
 obtain⟨fn,h1,h2,h3⟩:=bh.2 f s hs;obtain⟨bd,gZ⟩:=abq.1 h2;have h4:¬fn.name= "runtime.NumGoroutine" :=by simpa using h3
 simp[execOp,ho,resolve,Act.eval,Deferred.ofValue,invoke,callFunc,h1,gZ,h4]
def aAd {o:Oper}{x:Operand}{f:Nat}{vs:List Value}{args:Array Operand}{ts:Array TypeId}(bh:dJ C){s:Sig}(hs:C.sig f=some s)(hx:a.eval x=.func (.func f) #[] vs.toArray)(ho:o.op=.call {callee:=.value x,args:=args,argTypes:=ts}):
 (execOp a.eval o).run C.P w=.ok (.enter f (args.map a.eval++vs.toArray)) w:=by
 obtain⟨fn,h1,h2,h3⟩:=bh.2 f s hs;obtain⟨bd,gZ⟩:=abq.1 h2;have h4:¬fn.name= "runtime.NumGoroutine" :=by simpa using h3
 simp[execOp,ho,resolve,hx,Deferred.ofValue,invoke,callFunc,h1,gZ,h4]
def acd (h:Inv C S O V own hv w0 σ0 A a w)(hC:CtxOK C σ0)(ht:¬A dst)(af:dst<a.tmps.size)(eF:∀g,g∈gs->A g.1)(hg:holds gs O=true){f:Nat}{s:Sig}{js:List Nat}{vals:List Value}{ds:List D}{d:D}(oF:s.mode=.dat)(hfn:iP C f s ds d)
 (ju:∀σ1 dH,V.le σ1->Inv C (S.fzs js) O σ1 dH hv w0 σ0 A a w->qw C σ1 s.args vals ds) {K:Act->World->Prop} {Q:Exit->Act->World->Prop}
 (hK:∀a' w',Good C w0 σ0 ((bif s.res.pure then S else S.fzs js).setR dst (uI gs (.dat s.res))) (O.setR dst d) (λu=>A u\/u=dst) a' w'->a'.tmps.size=a.tmps.size->K a' w'):
 Calls C.P f vals.toArray w (λe ll=>match e with|.returned v=>K (a.put (some dst) v) ll|.panicked chain=>Q (.panic chain) a ll|.outgrown=>LetsOut Q):=by
 obtain⟨σ1,dH,na,h1⟩:=Inv.fzs js h;have dc:=hfn σ1 w vals.toArray h1.ok (hC.mono h1.le) (by simpa using ju σ1 dH na h1);refine dc.mono λe w' hh=>?_;obtain⟨v,V',rfl,hle,ax,hb,dD,cY,ky⟩:=hh;simp only[nL,oF] at ky;refine hK _ _ ?_ (size_put _ _ _);have hh:holds gs (O.setR dst d)=true:=by rw[Gf (t:=dst) (d:=d) λg hm e=>ht (by rw[<-e];exact eF g hm)];exact hg
 have put:∀{S2:St} {σ2:Im} {jC:Nat->Option Nat},Inv C S2 O σ2 jC hv w0 σ0 A a w'->Rep C.cap σ2 s.res v d->Good C w0 σ0 (S2.setR dst (uI gs (.dat s.res))) (O.setR dst d) (λu=>A u\/u=dst) (a.put (some dst) v) w':=by
  intro S2 σ2 jC h2 hr;cases gs with
  |nil=>exact⟨_,_,_,h2.setReg ht (s:=.dat s.res) hr af (λ_ _ e=>by cases e)⟩
  |cons g bN=>
   refine⟨_,_,_,h2.setReg ht (s:=.opt (g::bN) (.dat s.res)) ⟨λ_=>hr,λe=>absurd (hh.symm.trans e) (by decide)⟩ af (λgs s e=>?_)⟩;cases e;exact⟨eF,λ_ _ e=>by cases e⟩
 cases hp:s.res.pure with
 |true=>
  simp only[zyy];exact put (h.world (.refl V) (h.ok.below hb) hb (λ_ _ _ hx=>.inl hx) (λ_ _ hx=>.inl hx)) (ky.pure hp)
 |false=>
  simp only[zyx];exact put (h1.world hle ax hb dD cY) ky
def JH {o:Oper}{f:Nat}{args:Array Value}{K:Act->World->Prop}{Q:Exit->Act->World->Prop}(hd:o.dst=some dst)(hx:(execOp a.eval o).run C.P w=.ok (.enter f args) w)
 (h:Calls C.P f args w (λe ll=>match e with|.returned v=>K (a.put (some dst) v) ll|.panicked chain=>Q (.panic chain) a ll|.outgrown=>LetsOut Q)):o.wp C.P a w K Q:=by
 simp only[Oper.wp,hx,Oper.upon,hd];refine h.mono λe ll hh=>?_;cases e<;>exact hh
def aop (h:Inv C S O V own hv w0 σ0 A a w)(hC:CtxOK C σ0)(bh:dJ C)(hΦ:dj C Z)(ht:¬A dst)(af:dst<a.tmps.size)(eF:∀g,g∈gs->A g.1)(hg:holds gs O=true){f:Nat}{args:Array Operand}{ts:Array TypeId}{r:St×Sh×List PI}
 (hr:Cj C S gs dst f args.toList=some r) {o:Oper} (hd:o.dst=some dst) (ho:o.op=.call {callee:=.value (.func f),args:=args,argTypes:=ts}):bV C w0 σ0 Z S O A a w o (r.1.setR dst (uI gs r.2.1),r.2.2):=by
 simp only[Cj,az] at hr;obtain⟨s,⟨s0,hs,Mm⟩,hr⟩:=hr;split at hr
 case h_2=>cases hr
 rename_i oF;simp only[az] at hr;obtain⟨u,hu,hr⟩:=hr;cases cK:Ty.subs u.1 s.args<;>simp only[cK,zyy,zyx] at hr
 .cases hr
 cases hr;intro O' aq K Q hK;simp only[PI.runs,PI.run,hg,zyy,az,aB] at aq;obtain⟨ρ1,⟨d,bu,rfl⟩,aq⟩:=aq;cases aq;have hfn:=anG Mm oF (hΦ f _ d bu s0 hs).1;refine JH hd (OI bh hs ho) ?_;have nj:args.map a.eval=(args.toList.map a.eval).toArray:=by apply Ei;rw[AR]
 rw[nj];have lI:(λu=>A u\/o.dst=some u)=(λu=>A u\/u=dst):=by funext u;rw[hd];simp[eq_comm]
 rw[lI] at hK;exact acd h hC ht af eF hg (js:=ej S gs args.toList) oF hfn (λσ1 dH _ h1=>I0 h1 hC hg hu cK) hK
def aog (h:Inv C S O V own hv w0 σ0 A a w)(hC:CtxOK C σ0)(bh:dJ C)(hΦ:dj C Z)(ht:¬A dst)(af:dst<a.tmps.size)(eF:∀g,g∈gs->A g.1)(hg:holds gs O=true){x:Operand}{args:Array Operand}{ts:Array TypeId}{r:St×Sh×List PI}
 (hr:yN C S gs dst x args.toList=some r) {o:Oper} (hd:o.dst=some dst) (ho:o.op=.call {callee:=.value x,args:=args,argTypes:=ts}):bV C w0 σ0 Z S O A a w o (r.1.setR dst (uI gs r.2.1),r.2.2):=by
 unfold yN at hr;split at hr
 case h_2=>cases hr
 rename_i aa r0 e hu0;split at hr
 case h_1=>cases hr
 rename_i Sj;simp only[az] at hr;obtain⟨u,hu,hr⟩:=hr;cases cK:Ty.subs u.1 aa<;>simp only[cK,zyy,zyx] at hr
 .cases hr
 cases hr;have hx:=cu h hC hg hu0;intro O' aq K Q hK;simp only[PI.runs,PI.run,hg,zyy,az] at aq;obtain⟨ρ1,tz,aq⟩:=aq;cases aq;split at tz
 case h_2=>cases tz
 rename_i f caps bM;simp only[aB] at tz;obtain⟨d,bu,rfl⟩:=tz;rw[bM] at hx;generalize gx:a.eval x=xv at hx;generalize br:Ty.fn aa r0=ty at hx;cases hx with
 |fn f cs vs ds hc h1 h2 aP=>
  cases br;have hs:=bh.1 f cs hc Sj;have hfn:=(hΦ f _ d bu _ hs).1 rfl;refine JH hd (aAd bh hs gx ho) ?_;have nj:args.map a.eval++vs.toArray=(args.toList.map a.eval++vs).toArray:=by apply Ei;simp
  rw[nj];have lI:(λu=>A u\/o.dst=some u)=(λu=>A u\/u=dst):=by funext u;rw[hd];simp[eq_comm]
  rw[lI] at hK;refine acd h hC ht af eF hg (js:=ej S gs args.toList) (s:=⟨cs.args++cs.caps,cs.res,.dat⟩) rfl hfn (λσ1 dH na i1=>?_) hK;obtain⟨g1,g2,g3⟩:=I0 i1 hC hg hu cK;refine⟨by simp only[mG,g1,h1],by simp only[mG,g2,h2],λi t hi=>?_⟩;rw[mF] at hi;split at hi
  .rename_i af;have:=g3 i t hi;rw[aH,aH,nH (by omega),nH (by omega)];simpa [aH] using this
  .rename_i hZ;have:=(aP _ t hi).mono na;rw[aH,aH,nI (by omega),nI (by omega),g1,g2];simpa [aH] using this
def aol (h:Inv C S O V own hv w0 σ0 A a w)(hC:CtxOK C σ0)(bh:dJ C)(hΦ:dj C Z)(ht:¬A dst)(af:dst<a.tmps.size){f:Nat}{args:Array Operand}{ts:Array TypeId}{r:St×List PI}
 (hr:Fi C S dst f args.toList=some r) {o:Oper} (hd:o.dst=some dst) (ho:o.op=.call {callee:=.value (.func f),args:=args,argTypes:=ts}):bV C w0 σ0 Z S O A a w o r:=by
 simp only[Fi,az] at hr;obtain⟨s,hs,hr⟩:=hr;split at hr
 case h_2=>cases hr
 rename_i T e oF;simp only[az] at hr;obtain⟨u,hu,hr⟩:=hr;cases cK:Ty.subs u.1 s.args<;>simp only[cK,zyy,zyx] at hr
 .cases hr
 cases hr;intro O' aq K Q hK;have Si:holds ([]:List (Nat×Bool)) O=true:=rfl;simp only[PI.runs,PI.run,Si,zyy,az,aB] at aq;obtain⟨ρ1,⟨d,bu,rfl⟩,ρ2,g2,ρ3,g3,g4⟩:=aq;cases g2;cases g3;cases g4;have hfn:=(hΦ f _ d bu s hs).1 (by rw[oF];rfl);obtain⟨σ1,dH,na,h1⟩:=Inv.fzs (ej S [] args.toList) h;have nj:args.map a.eval=(args.toList.map a.eval).toArray:=by apply Ei;rw[AR]
 refine JH hd (OI bh hs ho) ?_;rw[nj];have dc:=hfn σ1 w (args.toList.map a.eval).toArray h1.ok (hC.mono h1.le) (by simpa using I0 h1 hC rfl hu cK);refine dc.mono λe' w' hh=>?_;obtain⟨v,V',rfl,hle,ax,hb,dD,cY,ky⟩:=hh;simp only[nL,oF] at ky;obtain⟨cells,xs,rfl,bB,de,oB⟩:=ky;refine hK _ _ ?_ (size_put _ _ _);have lI:(λu=>A u\/o.dst=some u)=(λu=>A u\/u=dst):=by funext u;rw[hd];simp[eq_comm]
 rw[lI];have main:∀{S2:St} {σ1 σ2:Im} {jC:Nat->Option Nat},Inv C S2 O σ1 jC hv w0 σ0 A a w->σ1.le σ2->σ2.ok w'->(∀k o x,σ2.c k o=some x->σ1.c k o=some x\/w.heap.size<=k)->(∀k x,σ2.m k=some x->σ1.m k=some x\/w.heap.size<=k)->du C.cap σ2 e cells xs->(∀k,v.ownBlock=some k->(∀o,σ2.c k o=none)/\σ2.m k=none)->
  Good C w0 σ0 (mkObj S2 dst (.row T e)) ((O.setO dst (.list xs)).setR dst .none) (λu=>A u\/u=dst) (a.put (some dst) v) w':=by
  intro S2 σ1 σ2 jC h2 iJ SM asL asP arP arY;have aJ:=h1.below.size
  have mh:=h2.newOσ dst (.row T e) (.list xs) v (λk=>decide (v.ownBlock=some k)) iJ SM asL asP hb (λk hk=>bB.lt k (by simpa using hk)) (λk hk=>arY k (by simpa using hk)) ⟨cells,xs,by simp[Env.setO,aS],by
        rw[aS];refine⟨bB.1,?_⟩;rcases bB.2 with e1|⟨g,cap,cur,e1,e2,e3⟩
        .exact .inl e1
        .exact .inr ⟨g,cap,cur,e1,by omega,e3⟩,arP,λk hk=>by rw[aS] at hk;simp[fM,hk]⟩
  have aeR:=mh.setObj ht (j:=dst) (v:=v) (aS _ _ _) af;have e:(S2.newO dst (.row T e)).ver dst=S2.ver dst+1:=aS _ _ _;rw[e] at aeR;exact⟨_,_,_,aeR⟩
 have eρ:((O.setR dst (.list xs)).setO dst ((PE.r dst).ev (O.setR dst (.list xs)))).setR dst ((PE.con D.none).ev ((O.setR dst (.list xs)).setO dst ((PE.r dst).ev (O.setR dst (.list xs)))))=(O.setO dst (.list xs)).setR dst .none:=by
  have:∀d1 d2:D,bZ (bZ O.r dst d1) dst d2=bZ O.r dst d2:=by
   intro d1 d2;funext i;simp only[fq];split<;>rfl
  simp[Env.setR,Env.setO,PE.ev,aS,this]
 show Good C w0 σ0 _ _ _ _ _;rw[eρ];cases hp:e.pure with
 |true=>
  simp only[zyy];refine main h (.refl V) (h.ok.below hb) (λ_ _ _ hx=>.inl hx) (λ_ _ hx=>.inl hx) ?_ (λk hk=>?_)
  .obtain⟨vs,k1,k2⟩:=de;exact⟨vs,λi x hx=>(k1 i x hx).pure hp,k2⟩
  .obtain⟨f1,f2⟩:=oB k hk;refine⟨λo=>?_,?_⟩
   .cases hc:V.c k o with
    |none=>rfl
    |some x=>have:=hle.c _ _ _ (na.c _ _ _ hc);rw[f1 o] at this;cases this
   .cases hc:V.m k with
    |none=>rfl
    |some x=>have:=hle.m _ _ (na.m _ _ hc);rw[f2] at this;cases this
 |false=>
  simp only[zyx];exact main h1 hle ax dD cY de oB
def aon (h:Inv C S O V own hv w0 σ0 A a w)(hC:CtxOK C σ0)(bh:dJ C)(hΦ:dj C Z)(ht:¬A dst)(af:dst<a.tmps.size){f:Nat}{args:Array Operand}{ts:Array TypeId}{r:St×List PI}
 (hr:Ri C S dst f args.toList=some r) {o:Oper} (hd:o.dst=some dst) (ho:o.op=.call {callee:=.value (.func f),args:=args,argTypes:=ts}):bV C w0 σ0 Z S O A a w o r:=by cases hr
def aoi (h:Inv C S O V own hv w0 σ0 A a w)(hC:CtxOK C σ0)(bh:dJ C)(hΦ:dj C Z)(ht:¬A dst)(af:dst<a.tmps.size){f:Nat}{args:Array Operand}{ts:Array TypeId}{r:St×List PI}
 (hr:Fh C S dst f args.toList=some r) {o:Oper} (hd:o.dst=some dst) (ho:o.op=.call {callee:=.value (.func f),args:=args,argTypes:=ts}):bV C w0 σ0 Z S O A a w o r:=by
 simp only[Fh,az] at hr;obtain⟨s,hs,hr⟩:=hr;split at hr
 case h_2=>cases hr
 rename_i shs obs x xs oF ju;split at hr
 case h_2=>cases hr
 rename_i m j ver tj oL;split at hr
 case h_2=>cases hr
 rename_i T e eo;cases hb:(Nat.beq ver (S.ver j)&&(Nat.beq T m.1&&Ty.beq e m.2.1))<;>simp only[hb,zyy,zyx] at hr
 .cases hr
 simp only[au] at hb;have dR:=aD hb.1;have hT:=aD hb.2.1;have he:=Ty.beq_eq _ _ hb.2.2;simp only[az] at hr;obtain⟨u,hu,hr⟩:=hr;cases cK:Ty.subs u.1 m.2.2<;>simp only[cK,zyy,zyx] at hr
 .cases hr
 cases hr;intro O' aq K Q hK;have Si:holds ([]:List (Nat×Bool)) O=true:=rfl;simp only[PI.runs,PI.run,Si,zyy,az,aB] at aq;obtain⟨ρ1,⟨d,bu,rfl⟩,ρ2,g2,ρ3,g3,g4⟩:=aq;cases g2;cases g3;cases g4;have hfn:=(hΦ f _ d bu s hs).2 shs obs oF;unfold eB at hfn;rw[tj] at hfn;simp only at hfn;rw[<-hT,<-he] at hfn;have cD:=(vu h (gs:=[]) rfl x).1;rw[oL] at cD;have cD:=cD.2 dR;have bt:=h.objs j;rw[eo] at bt;obtain⟨cells,ys,h1,h2,h3,h4⟩:=bt;have nj:args.map a.eval=(a.eval x::xs.map a.eval).toArray:=by apply Ei;rw[AR,ju];rfl
 refine JH hd (OI bh hs ho) ?_;rw[nj,cD];have aJ:=h.below.size
 have dc:=hfn w0.heap.size V w (hv j) (xs.map a.eval) ys cells (PE.evs O u.2) (by simp[PE.evs,PE.ev,h1]) h.ok (hC.mono h.le) aJ h2 h3 (λk hk=>by
  have:=h.owns k j (h4 k hk);exact this.2) (I0 h hC rfl hu cK)
 refine dc.mono λe' w' hh=>?_;obtain⟨v',fu,db,rfl,rfl,uM,uQ,as2,arO,hblk⟩:=hh;refine hK _ _ ?_ (size_put _ _ _);have lI:(λu=>A u\/o.dst=some u)=(λu=>A u\/u=dst):=by funext u;rw[hd];simp[eq_comm]
 rw[lI]
 have To:=h.updO j (.row T e) (.list fu) v' (λk=>decide (v'.ownBlock=some k)) uM (λk hk ay=>uQ k hk (λe=>ay (h4 k e))) (λk hk=>by
  have bn:v'.ownBlock=some k:=by simpa using hk
  exact⟨(hblk k bn).1.imp (h4 k) id,(hblk k bn).2⟩)
  ⟨db,fu,by simp[Env.setO,aS],by rw[aS];exact as2,arO,λk hk=>by rw[aS] at hk;simp[fM,hk]⟩
 have h9:=To.setObj ht (j:=j) (v:=v') (aS _ _ _) af;have e1:(S.newO j (.row T e)).ver j=S.ver j+1:=aS _ _ _;rw[e1] at h9;have eρ:((O.setR dst (.list fu)).setO j ((PE.r dst).ev (O.setR dst (.list fu)))).setR dst ((PE.con D.none).ev ((O.setR dst (.list fu)).setO j ((PE.r dst).ev (O.setR dst (.list fu)))))=(O.setO j (.list fu)).setR dst .none:=by
  have:∀d1 d2:D,bZ (bZ O.r dst d1) dst d2=bZ O.r dst d2:=by
   intro d1 d2;funext i;simp only[fq];split<;>rfl
  simp[Env.setR,Env.setO,PE.ev,aS,this]
 show Good C w0 σ0 _ _ _ _ _;rw[eρ];exact⟨_,_,_,h9⟩
end
def jo:Nat:=1000000013
abbrev pw:=Sh×Option (Ty×PE)
def Ju (C:Ctx)(S:St)(x:Operand):pw:=(gN S [] x,use C S [] x)
def acf (c:Nat×Nat):pw:=(.ptr c.1 c.2 0,none)
def cL:List Nat->List Nat->Nat->Option Nat
 |i::is,j::js,k=>bif Nat.beq i k then some j else cL is js k
 |_,_,_=>none
def ayd:Sh->Sh->List (Nat×Nat)
 |.obj i _,.obj j _=>[(i,j)]
 |.ptr i _ _,.ptr j _ _=>[(i,j)]
 |.fclo _ a,.fclo _ b=>(a.zip b).map λx=>(x.1.1,x.2.1)
 |_,_=>[]
def VI:List Sh->List Sh->List (Nat×Nat)
 |a::aa,b::bs=>ayd a b++VI aa bs
 |_,_=>[]
def ayc:Ob->Ob->List (Nat×Nat)
 |.box _ a,.box _ b=>VI a b
 |_,_=>[]
def af4:List (Nat×Nat)->Nat->Nat
 |[],_=>jo
 |x::l,i=>bif Nat.beq x.1 i then x.2 else af4 l i
def axn (S:St)(obs:List (Nat×Ob))(p:List (Nat×Nat)):List (Nat×Nat):=p++p.flatMap λx=>ayc (ei obs x.1) (S.o x.2)
def adf (S:St)(shs:List Sh)(obs:List (Nat×Ob))(acts:List pw):List Nat:=obs.map λo=>af4 (axn S obs (VI shs (acts.map (·.1)))) o.1
section
variable (ver:Nat->Nat) (is js:List Nat)
def IE:List (Nat×Nat)->Option (List (Nat×Nat))
 |[]=>some []
 |x::l=>bif Nat.beq x.2 0 then(cL is js x.1).bind λj=>(IE l).map λr=>(j,ver j)::r else none
def lh:Sh->Option Sh
 |.dat t=>some (.dat t)
 |.none=>some .none
 |.obj i v=>bif Nat.beq v 0 then(cL is js i).map λj=>.obj j (ver j) else none
 |.ptr i v off=>bif Nat.beq v 0 then(cL is js i).map λj=>.ptr j (ver j) off else none
 |.fclo f caps=>(IE ver is js caps).map (.fclo f)
 |_=>none
def IF:List Sh->Option (List Sh)
 |[]=>some []
 |s::l=>(lh ver is js s).bind λa=>(IF l).map (a::·)
def rX:Ob->Option Ob
 |.row T e=>some (.row T e)
 |.mp a b=>some (.mp a b)
 |.box ag shs=>(IF ver is js shs).map (.box ag)
 |_=>none
end
def Fw (c:Sh):Sh->Bool
 |.none=>true
 |.dat b=>match c with|.dat a=>Ty.sub a b|_=>false
 |x=>Sh.beq c x
def Ct:List Sh->List Sh->Bool
 |[],[]=>true
 |a::aa,b::bs=>Fw a b&&Ct aa bs
 |_,_=>false
def Cs:Ob->Ob->Bool
 |.box x a,.box y b=>(x==y)&&Ct a b
 |.row T a,.row U b=>Nat.beq T U&&Ty.beq a b
 |.mp a b,.mp c d=>Ty.beq a c&&Ty.beq b d
 |_,_=>false
def sS (S:St)(is js:List Nat):List (Nat×Ob)->List Nat->Bool
 |[],[]=>true
 |o::obs,j::jl=>(match rX S.ver is js o.2 with|some x=>Cs (S.o j) x|none=>false)&&sS S is js obs jl
 |_,_=>false
def Fv (S:St)(is js:List Nat)(a:pw)(s:Sh):Option PE:=
 match s with
 |.dat t=>(match a.2 with|some x=>bif Ty.sub x.1 t then some x.2 else none|none=>none)
 |.none=>some (.con .none)
 |s=>(match lh S.ver is js s with|some x=>bif Sh.beq a.1 x then some (.con .none) else none|none=>none)
def vV (S:St)(is js:List Nat):List pw->List Sh->Option (List PE)
 |[],[]=>some []
 |a::aa,s::ss=>(Fv S is js a s).bind λe=>(vV S is js aa ss).map (e::·)
 |_,_=>none
def qU:List Sh->List Nat
 |[]=>[]
 |.obj i _::l=>i::qU l
 |.ptr i _ _::l=>i::qU l
 |.fclo _ c::l=>c.map (·.1)++qU l
 |_::l=>qU l
def aC (l:List Nat)(x:Nat):Bool:=l.any (Nat.beq x)
def xD (ver:Nat->Nat)(shs:List Sh)(is js:List Nat):Nat->Nat:=λj=>match cL js is j with|some i=>bif aC (qU shs) i then ver j else ver j+1|none=>ver j
def St.handed (S:St)(shs:List Sh)(obs:List (Nat×Ob))(is js:List Nat):St:=
 ⟨S.r,λj=>match cL js is j with|some i=>(match rX (xD S.ver shs is js) is js (ei obs i) with|some o=>o|none=>.dead)|none=>S.o j,xD S.ver shs is js⟩
def Cv (S:St):List Operand->List Sh->List Nat
 |x::xs,s::ss=>(bif pY s then ej S [] [x] else[])++Cv S xs ss
 |_,_=>[]
def IL:List Nat->Nat->List PI
 |[],_=>[]
 |j::js,k=>.setO j (.tget (.o jo) k)::IL js (k+1)
def Rg (S:St)(res:Ty)(f:Nat)(shs:List Sh)(obs:List (Nat×Ob))(acts:List pw)(is js:List Nat):Option (St×Ty×List PI):=
 (vV S is js acts shs).bind λes=>
    bif zW shs obs&&(kA is&&kA js&&sS S is js obs js&&pZ (S.o jo)&& !aC js jo) then some (S.handed shs obs is js,res,.mcall jo f (es++js.map .o)::IL js 1) else none
def Rh (C:Ctx)(S:St)(res:Ty)(f:Nat)(shs:List Sh)(obs:List (Nat×Ob))(acts:List pw):Option (St×Ty×List PI):=
 Rg S res f shs obs acts (obs.map (·.1)) (adf S shs obs acts)
def vR (C:Ctx)(S:St)(f:Nat)(args:List Operand)(caps:List (Nat×Nat)):Option (St×Ty×List PI):=
 (C.sig f).bind λs=>
    match s.mode with
    |.ob shs obs=>Rh C (S.fzs (Cv S args shs)) s.res f shs obs (args.map (Ju C (S.fzs (Cv S args shs)))++caps.map acf)
    |_=>none
def afi {l:List Nat}{x:Nat}:aC l x=true↔x∈l:=by
 unfold aC;rw[xR];exact⟨λ⟨y,hy,h⟩=>by rw[aD h];exact hy,λh=>⟨x,h,lu x⟩⟩
def afZ:∀{is js:List Nat} {i j:Nat},cL is js i=some j->∃k:Nat,is[k]?=some i/\js[k]?=some j
 |[],_,i,j,h=>by cases h
 |_::_,[],i,j,h=>by cases h
 |x::is,y::js,i,j,h=>by
  simp only[cL] at h;cases hb:Nat.beq x i<;>simp only[hb,zyy,zyx] at h
  .obtain⟨k,h1,h2⟩:=afZ h;exact⟨k+1,h1,h2⟩
  .cases h;exact⟨0,by rw[aD hb];rfl,rfl⟩
def MF:∀{is js:List Nat} {i j k:Nat},is.Nodup->is[k]?=some i->js[k]?=some j->cL is js i=some j
 |[],_,i,j,k,_,h,_=>by simp at h
 |_::_,[],i,j,k,_,_,h=>by simp at h
 |x::is,y::js,i,j,k,hn,h1,h2=>by
  simp only[cL];cases k with
  |zero=>simp at h1 h2;subst h1 h2;rw[lu];rfl
  |succ k=>
   simp at h1 h2;have ay:x≠i:=λe=>by subst e;exact(qE.1 hn).1 (j9 h1)
   rw[fS ay];exact MF (qE.1 hn).2 h1 h2
def MG {is js:List Nat}(h2:js.Nodup){i j:Nat}(h:cL is js i=some j):cL js is j=some i:=by
 obtain⟨k,g1,g2⟩:=afZ h;exact MF h2 g2 g1
def auB (obs:List (Nat×Ob))(f:Nat->D):∀{is js:List Nat} {i j:Nat},is=obs.map (·.1)->cL is js i=some j->oR obs (js.map f) i=f j:=by
 induction obs with
 |nil=>intro is js i j h1 h2;subst h1;cases h2
 |cons x l ih=>
  intro is js i j h1 h2;subst h1;cases js with
  |nil=>cases h2
  |cons y js=>
   simp only[iy,cL] at h2;simp only[iy,oR];cases hb:Nat.beq x.1 i<;>simp only[hb,zyy,zyx] at h2 ⊢
   .exact ih rfl h2
   .cases h2;rfl
def afT:∀{obs:List (Nat×Ob)} {js:List Nat} {os:List D} {i j:Nat},os.length=obs.length->cL (obs.map (·.1)) js i=some j->∃k:Nat,js[k]?=some j/\oR obs os i=os.getD k .none
 |[],_,_,i,j,_,h=>by cases h
 |_::_,[],_,i,j,_,h=>by cases h
 |_::_,_::_,[],i,j,hl,h=>by simp at hl
 |x::obs,y::js,o::os,i,j,hl,h=>by
  simp only[iy,cL] at h;simp only[oR];cases hb:Nat.beq x.1 i<;>simp only[hb,zyy,zyx] at h ⊢
  .obtain⟨k,h1,h2⟩:=afT (obs:=obs) (js:=js) (os:=os) (by simpa using hl) h;exact⟨k+1,h1,by simpa using h2⟩
  .cases h;exact⟨0,rfl,rfl⟩
def af2:∀{obs:List (Nat×Ob)} {js:List Nat} {i:Nat},js.length=obs.length->cL (obs.map (·.1)) js i=none->ei obs i=.dead
 |[],_,i,_,_=>rfl
 |x::obs,[],i,hl,h=>by simp at hl
 |x::obs,y::js,i,hl,h=>by
  simp only[iy,cL] at h;simp only[ei];cases hb:Nat.beq x.1 i<;>simp only[hb,zyy,zyx] at h ⊢
  .exact af2 (by simpa using hl) h
  .cases h
def adn {S:St}{is js:List Nat}:∀{obs:List (Nat×Ob)} {jl:List Nat},sS S is js obs jl=true->jl.length=obs.length
 |[],[],_=>rfl
 |[],_::_,h=>by simp[sS] at h
 |_::_,[],h=>by simp[sS] at h
 |o::obs,j::jl,h=>by simp only[sS,au] at h;simp[adn h.2]
def adm {S:St}{is js:List Nat}:∀{obs:List (Nat×Ob)} {jl:List Nat},sS S is js obs jl=true->∀{i j:Nat},cL (obs.map (·.1)) jl i=some j->∃x,rX S.ver is js (ei obs i)=some x/\Cs (S.o j) x=true
 |[],_,_,i,j,h=>by cases h
 |_::_,[],_,i,j,h=>by cases h
 |o::obs,y::jl,hf,i,j,h=>by
  simp only[sS,au] at hf;simp only[iy,cL] at h;simp only[ei];cases hb:Nat.beq o.1 i<;>simp only[hb,zyy,zyx] at h ⊢
  .exact adm hf.2 h
  .cases h;have h1:=hf.1;split at h1
   .rename_i x hx;exact⟨x,hx,h1⟩
   .cases h1
def ado:∀{a b:List Sh},Ct a b=true->a.length=b.length/\∀(i:Nat) (y:Sh),b[i]?=some y->∃x,a[i]?=some x/\Fw x y=true
 |[],[],_=>⟨rfl,λi y h=>by simp at h⟩
 |[],_::_,h=>by simp[Ct] at h
 |_::_,[],h=>by simp[Ct] at h
 |a::aa,b::bs,h=>by
  simp only[Ct,au] at h;obtain⟨g1,g2⟩:=ado h.2;refine⟨by simp[g1],λi y hy=>?_⟩;cases i with
  |zero=>simp at hy;subst hy;exact⟨a,rfl,h.1⟩
  |succ i=>simp at hy;simpa using g2 i y hy
def Xt {ver:Nat->Nat}{is js:List Nat}:∀{a b:List Sh},IF ver is js a=some b->b.length=a.length/\∀(i:Nat) (x:Sh),a[i]?=some x->∃y,b[i]?=some y/\lh ver is js x=some y
 |[],b,h=>by simp only[IF,bj] at h;subst h;exact⟨rfl,λi x h=>by simp at h⟩
 |s::l,b,h=>by
  simp only[IF,az,aB] at h;obtain⟨y,hy,r,hr,rfl⟩:=h;obtain⟨g1,g2⟩:=Xt hr;refine⟨by simp[g1],λi x hx=>?_⟩;cases i with
  |zero=>simp at hx;subst hx;exact⟨y,rfl,hy⟩
  |succ i=>simp at hx;simpa using g2 i x hx
def OE {ver:Nat->Nat}{is js:List Nat}:∀{a b:List (Nat×Nat)},IE ver is js a=some b->b.length=a.length/\∀(i x v:Nat),a[i]?=some (x,v)->∃j,b[i]?=some (j,ver j)/\cL is js x=some j/\v=0
 |[],b,h=>by simp only[IE,bj] at h;subst h;exact⟨rfl,λi x v h=>by simp at h⟩
 |s::l,b,h=>by
  simp only[IE] at h;cases hb:Nat.beq s.2 0<;>simp only[hb,zyy,zyx] at h
  .cases h
  simp only[az,aB] at h;obtain⟨y,hy,r,hr,rfl⟩:=h;obtain⟨g1,g2⟩:=OE hr;refine⟨by simp[g1],λi x v hx=>?_⟩;cases i with
  |zero=>simp at hx;subst hx;exact⟨y,rfl,hy,aD hb⟩
  |succ i=>simp at hx;simpa using g2 i x v hx
def Xs {ver:Nat->Nat}{is js:List Nat}{s x:Sh}(h:lh ver is js s=some x):(∀gs s',s≠.opt gs s')/\∀gs s',x≠.opt gs s':=by
 cases s<;>simp only[lh] at h
 case none=>cases h;exact⟨(λ_ _ e=>by cases e),(λ_ _ e=>by cases e)⟩
 case dat=>cases h;exact⟨(λ_ _ e=>by cases e),(λ_ _ e=>by cases e)⟩
 case obj i v=>
  cases hb:Nat.beq v 0<;>simp only[hb,zyy,zyx] at h
  .cases h
  simp only[aB] at h;obtain⟨j,_,rfl⟩:=h;exact⟨(λ_ _ e=>by cases e),(λ_ _ e=>by cases e)⟩
 case ptr i v off=>
  cases hb:Nat.beq v 0<;>simp only[hb,zyy,zyx] at h
  .cases h
  simp only[aB] at h;obtain⟨j,_,rfl⟩:=h;exact⟨(λ_ _ e=>by cases e),(λ_ _ e=>by cases e)⟩
 case fclo f caps=>
  simp only[aB] at h;obtain⟨j,_,rfl⟩:=h;exact⟨(λ_ _ e=>by cases e),(λ_ _ e=>by cases e)⟩
 all_goals cases h
section
variable {C:Ctx} {S S1:St} {O ρ1:Env} {V σ1:Im} {own dH:Nat->Option Nat} {hv aL:Nat->Value} {w0:World} {σ0:Base} {A:Nat->Prop} {a:Act} {w w1:World} {Z:aO} {dst:Nat}
 {is js:List Nat} {shs:List Sh} {obs:List (Nat×Ob)} {ρf:Env}
def ajR (hσ:Im.leR C.cap V σ1){eU:Nat->Value}(fX:∀i j,cL is js i=some j->eU i=hv j){s x:Sh}(hr:lh S.ver is js s=some x){v:Value}{d:D}(h:aG C S O V hv x v d):aG C (fh shs obs) ρf σ1 eU s v d:=by
 cases s<;>simp only[lh] at hr
 case none=>trivial
 case dat=>cases hr;exact hσ.rep h
 case obj i ver=>
  cases hb:Nat.beq ver 0<;>simp only[hb,zyy,zyx] at hr
  .cases hr
  simp only[aB] at hr;obtain⟨j,hj,rfl⟩:=hr;exact⟨by rw[aD hb];exact kf _,λ_=>by rw[fX i j hj];exact h.2 rfl⟩
 case ptr i ver off=>
  cases hb:Nat.beq ver 0<;>simp only[hb,zyy,zyx] at hr
  .cases hr
  simp only[aB] at hr;obtain⟨j,hj,rfl⟩:=hr;exact⟨by rw[aD hb];exact kf _,λ_=>by rw[fX i j hj];exact h.2 rfl⟩
 case fclo f caps=>
  simp only[aB] at hr;obtain⟨c,hc,rfl⟩:=hr;obtain⟨g1,g2⟩:=OE hc;obtain⟨vs,h1,h2,h3⟩:=h;refine⟨vs,h1,by omega,λi x ver hi=>?_⟩;obtain⟨j,e1,e2,e3⟩:=g2 i x ver hi;exact⟨by rw[e3];exact kf _,λ_=>by rw[fX x j e2];exact(h3 i j _ e1).2 rfl⟩
 all_goals cases hr
def azY (hσ:V.le σ1){eU:Nat->Value}(fX:∀i j,cL is js i=some j->eU i=aL j){s x:Sh}(hr:lh S1.ver is js s=some x){v:Value}{d:D}(h:aG C (fh shs obs) ρf V eU s v d):aG C S1 ρ1 σ1 aL x v d:=by
 cases s<;>simp only[lh] at hr
 case none=>cases hr;trivial
 case dat=>cases hr;exact Rep.mono hσ h
 case obj i ver=>
  cases hb:Nat.beq ver 0<;>simp only[hb,zyy,zyx] at hr
  .cases hr
  simp only[aB] at hr;obtain⟨j,hj,rfl⟩:=hr;exact⟨aZ _,λ_=>by rw[<-fX i j hj];exact h.2 (aD hb)⟩
 case ptr i ver off=>
  cases hb:Nat.beq ver 0<;>simp only[hb,zyy,zyx] at hr
  .cases hr
  simp only[aB] at hr;obtain⟨j,hj,rfl⟩:=hr;exact⟨aZ _,λ_=>by rw[<-fX i j hj];exact h.2 (aD hb)⟩
 case fclo f caps=>
  simp only[aB] at hr;obtain⟨c,hc,rfl⟩:=hr;obtain⟨g1,g2⟩:=OE hc;obtain⟨vs,h1,h2,h3⟩:=h;refine⟨vs,h1,by omega,λi j ver hi=>?_⟩;have af:i<caps.length:=by have:=(eO.1 hi).1;omega
  obtain⟨j',e1,e2,e3⟩:=g2 i _ _ (aY af);rw[hi] at e1;cases e1;exact⟨aZ _,λ_=>by rw[<-fX _ j e2];exact(h3 i _ _ (aY af)).2 e3⟩
 all_goals cases hr
def apl {c x:Sh}(hf:Fw c x=true){v:Value}{d:D}(h:aG C S O V hv c v d):aG C S O V hv x v d:=by
 cases x with
 |none=>trivial
 |dat b=>
  simp only[Fw] at hf;split at hf
  .exact Rep.sub h hf
  .cases hf
 |_=>simp only[Fw] at hf;rw[Sh.beq_eq _ _ hf] at h;exact h
def axz (hσ:Im.leR C.cap V σ1){eU:Nat->Value}{G7:Nat->Option Nat}(fX:∀i j,cL is js i=some j->eU i=hv j)(bB:∀k j i,own k=some j->cL js is j=some i->G7 k=some i)(bp:js.Nodup){i j N:Nat}(dC:cL is js i=some j)(hρ:ρf.o i=O.o j){ob x:Ob}
 (hr:rX S.ver is js ob=some x) (hf:Cs (S.o j) x=true) (h:cf C S O V own hv w N j (S.o j)):cf C (fh shs obs) ρf σ1 G7 eU w N i ob:=by
 have ko:=MG bp dC;cases ob<;>simp only[rX] at hr
 case row T e=>
  cases hr;cases ho:S.o j<;>rw[ho] at hf h<;>simp only[Cs,au] at hf<;>try (cases hf;done)
  obtain⟨cells,xs,h1,h2,h3,h4⟩:=h;rw[aD hf.1,Ty.beq_eq _ _ hf.2] at*;exact⟨cells,xs,by rw[hρ];exact h1,by rw[fX i j dC];exact h2,h3.monoR hσ,λk hk=>bB k j i (h4 k (by rw[<-fX i j dC];exact hk)) ko⟩
 case mp kt et=>
  cases hr;cases ho:S.o j<;>rw[ho] at hf h<;>simp only[Cs,au] at hf<;>try (cases hf;done)
  obtain⟨k,arr,clock,es,h1,h2,h3,h4,h5,h6,h7⟩:=h;rw[Ty.beq_eq _ _ hf.1,Ty.beq_eq _ _ hf.2] at*;exact⟨k,arr,clock,es,by rw[fX i j dC];exact h1,bB k j i h2 ko,h3,by rw[hρ];exact h4,h5,h6,λn e p he hp=>⟨hσ.rep (h7 n e p he hp).1,hσ.rep (h7 n e p he hp).2⟩⟩
 case box ag cs=>
  simp only[aB] at hr;obtain⟨fU,cI,rfl⟩:=hr;cases ho:S.o j<;>rw[ho] at hf h<;>simp only[Cs,au] at hf<;>try (cases hf;done)
  obtain⟨k,vs,T,ds,h1,h2,h3,h4,h5,h6,h7⟩:=h;obtain⟨l1,g1⟩:=ado hf.2;obtain⟨l2,g2⟩:=Xt cI;refine⟨k,vs,T,ds,by rw[fX i j dC];exact h1,bB k j i h2 ko,h3,by omega,by rw[hρ];exact h5,by omega,λn s hs=>?_⟩;obtain⟨y,hy,Gs⟩:=g2 n s hs;obtain⟨z,hz,CJ⟩:=g1 n y hy;exact⟨(Xs Gs).1,ajR hσ fX Gs (apl CJ (h7 n z hz).2)⟩
 all_goals cases hr
def axA (hσ:V.le σ1){eU:Nat->Value}{G7:Nat->Option Nat}(fX:∀i j,cL is js i=some j->eU i=aL j)(bB:∀k i j,G7 k=some i->cL is js i=some j->dH k=some j){i j N:Nat}(dC:cL is js i=some j)(hρ:ρ1.o j=ρf.o i){ob x:Ob}
 (hr:rX S1.ver is js ob=some x) (h:cf C (fh shs obs) ρf V G7 eU w N i ob):cf C S1 ρ1 σ1 dH aL w N j x:=by
 cases ob<;>simp only[rX] at hr
 case row T e=>
  cases hr;obtain⟨cells,xs,h1,h2,h3,h4⟩:=h;exact⟨cells,xs,by rw[hρ];exact h1,by rw[<-fX i j dC];exact h2,h3.mono hσ,λk hk=>bB k i j (h4 k (by rw[fX i j dC];exact hk)) dC⟩
 case mp kt et=>
  cases hr;obtain⟨k,arr,clock,es,h1,h2,h3,h4,h5,h6,h7⟩:=h;exact⟨k,arr,clock,es,by rw[<-fX i j dC];exact h1,bB k i j h2 dC,h3,by rw[hρ];exact h4,h5,h6,λn e p he hp=>⟨(h7 n e p he hp).1.mono hσ,(h7 n e p he hp).2.mono hσ⟩⟩
 case box ag cs=>
  simp only[aB] at hr;obtain⟨fU,cI,rfl⟩:=hr;obtain⟨k,vs,T,ds,h1,h2,h3,h4,h5,h6,h7⟩:=h;obtain⟨l2,g2⟩:=Xt cI;refine⟨k,vs,T,ds,by rw[<-fX i j dC];exact h1,bB k i j h2 dC,h3,by omega,by rw[hρ];exact h5,by omega,λn s hs=>?_⟩;have af:n<cs.length:=by have:=(eO.1 hs).1;omega
  obtain⟨y,hy,Gs⟩:=g2 n _ (aY af);rw[hs] at hy;cases hy;exact⟨(Xs Gs).2,azY hσ fX Gs (h7 n _ (aY af)).2⟩
 all_goals cases hr
def azX {ver:Nat->Nat}{ob x:Ob}(hr:rX ver is js ob=some x):x≠.tr:=by
 cases ob<;>simp only[rX] at hr
 case row=>cases hr;intro e;cases e
 case mp=>cases hr;intro e;cases e
 case box=>
  simp only[aB] at hr;obtain⟨_,_,rfl⟩:=hr;intro e;cases e
 all_goals cases hr
def CtxOK.noM (h:CtxOK C V):CtxOK C V.noM:=⟨λg x hx=>(h.glob g x hx).noM,λg x hx=>by
 have:=h.mg g x hx;have ay:V.m g≠some cw:=λe'=>by rw[this] at e';exact xn (uo e')
 simp only[Im.noM,if_neg ay,this]⟩
def I5 (C:Ctx)(S:St)(O:Env)(V:Im)(hv:Nat->Value)(x:pw)(v:Value)(d:D):Prop:=aG C S O V hv x.1 v d/\∀y,x.2=some y->Rep C.cap V y.1 v (y.2.ev O)
def adl:∀{acts:List pw} {shs:List Sh} {es:List PE},vV S is js acts shs=some es->acts.length=shs.length/\es.length=shs.length/\∀(t:Nat) (s:Sh),shs[t]?=some s->∃x e,acts[t]?=some x/\es[t]?=some e/\Fv S is js x s=some e
 |[],[],es,h=>by simp only[vV,bj] at h;subst h;exact⟨rfl,rfl,λt s h=>by simp at h⟩
 |[],_::_,es,h=>by simp[vV] at h
 |_::_,[],es,h=>by simp[vV] at h
 |x::acts,s::shs,es,h=>by
  simp only[vV,az,aB] at h;obtain⟨e,he,r,hr,rfl⟩:=h;obtain⟨g1,g2,g3⟩:=adl hr;refine⟨by simp[g1],by simp[g2],λt s' hs=>?_⟩;cases t with
  |zero=>simp at hs;subst hs;exact⟨x,e,rfl,rfl,he⟩
  |succ t=>simp at hs;simpa using g3 t s' hs
def apj (hσ:Im.leR C.cap V σ1){eU:Nat->Value}(fX:∀i j,cL is js i=some j->eU i=hv j){x:pw}{s:Sh}{e:PE}(hf:Fv S is js x s=some e){v:Value}{d:D}(h:I5 C S O V hv x v d):aG C (fh shs obs) ρf σ1 eU s v (e.ev O):=by
 have gen:∀s,(match lh S.ver is js s with|some y=>bif Sh.beq x.1 y then some (PE.con .none) else none|none=>none)=some e->pY s=false->aG C (fh shs obs) ρf σ1 eU s v (e.ev O):=by
  intro s hm hd;split at hm
  .rename_i y hy;cases hb:Sh.beq x.1 y<;>simp only[hb,zyy,zyx] at hm
   .cases hm
   have h1:=h.1;rw[Sh.beq_eq _ _ hb] at h1;have:=ajR (shs:=shs) (obs:=obs) (ρf:=ρf) hσ fX hy h1;cases s with
   |dat t=>cases hd
   |opt gs s'=>exact absurd rfl ((Xs hy).1 gs s')
   |eptr j ver size off=>simp[lh] at hy
   |agg l=>simp[lh] at hy
   |_=>exact this
  .cases hm
 unfold Fv at hf;split at hf
 .rename_i t;split at hf
  .rename_i y hy;cases hb:Ty.sub y.1 t<;>simp only[hb,zyy,zyx] at hf
   .cases hf
   cases hf;exact hσ.rep ((h.2 y hy).sub hb)
  .cases hf
 .trivial
 .rename_i kQ mf;refine gen _ hf ?_;cases s<;>first|rfl|exact absurd rfl (kQ _)
def anY {eU Tq:Nat->Value}{V V':Im}{ρf Of':Env}{args:Nat->Value}{ds ds':Nat->D}(h1:∀(t:Nat) (s:Sh),shs[t]?=some s->aG C (fh shs obs) ρf V eU s (args t) (ds t))(h2:∀(t:Nat) (s:Sh),shs[t]?=some s->pY s=false->aG C (fh shs obs) Of' V' Tq s (args t) (ds' t))
 (hz:∀s,s∈shs->∃x,lh S.ver is js s=some x) {i:Nat} (hi:i∈qU shs):Tq i=eU i:=by
 have key:∀(l:List Sh),(∀s,s∈l->∃t:Nat,shs[t]?=some s)->i∈qU l->Tq i=eU i:=by
  intro l
  induction l with
  |nil=>intro _ h;cases h
  |cons s l ih=>
   intro hl hi;obtain⟨t,ht⟩:=hl s (fQ ..);have wj:∀s,s∈l->∃t:Nat,shs[t]?=some s:=λs hs=>hl s (fy _ hs);obtain⟨x,hx⟩:=hz s (j9 ht);have a1:=h1 t s ht;have a2:=h2 t s ht;cases s<;>simp only[qU] at hi
   case obj j ver=>
        simp only[lh] at hx;cases hb:Nat.beq ver 0<;>simp only[hb,zyy,zyx] at hx
        .cases hx
        rcases cv.1 hi with e|e
        .subst e;rw[<-(a1.2 (aD hb)),<-((a2 rfl).2 (aD hb))]
        .exact ih wj e
   case ptr j ver off=>
        simp only[lh] at hx;cases hb:Nat.beq ver 0<;>simp only[hb,zyy,zyx] at hx
        .cases hx
        rcases cv.1 hi with e|e
        .subst e;obtain⟨k1,e1,e2⟩:=a1.2 (aD hb);obtain⟨k2,e3,e4⟩:=(a2 rfl).2 (aD hb);rw[e2] at e4;cases e4;rw[e1,e3]
        .exact ih wj e
   case fclo f caps=>
        simp only[lh,aB] at hx;obtain⟨c,hc,_⟩:=hx;obtain⟨_,g2⟩:=OE hc;rcases dZ.1 hi with e|e
        .obtain⟨y,hy,e1⟩:=cd.1 e;subst e1;obtain⟨m,hm⟩:=A1 hy;obtain⟨vs,b1,b2,b3⟩:=a1;obtain⟨AL,c1,c2,c3⟩:=a2 rfl;rw[b1] at c1;have jf:vs=AL:=by simpa using c1
         subst jf;obtain⟨_,_,_,C4⟩:=g2 m y.1 y.2 hm;rw[<-(b3 m y.1 y.2 hm).2 C4,<-(c3 m y.1 y.2 hm).2 C4]
        .exact ih wj e
   all_goals exact ih wj hi
 exact key shs (λs hs=>A1 hs) hi
end
section
variable {C:Ctx} {S:St} {O:Env} {V:Im} {own:Nat->Option Nat} {hv:Nat->Value} {w0:World} {σ0:Base} {A:Nat->Prop} {a:Act} {w:World} {Z:aO} {dst:Nat}
 {is js:List Nat} {shs:List Sh} {obs:List (Nat×Ob)}
def Below.weak {B:Nat}{w w':World}(h:Below 0 w w')(hk:∀k,k<B->w'.heap[k]?=w.heap[k]?):Below B w w':=⟨h.os,h.tape,h.output,h.size,hk⟩
def qd (js is:List Nat)(own:Nat->Option Nat):Nat->Option Nat:=λk=>(own k).bind (cL js is)
def G6 (js is:List Nat)(own own':Nat->Option Nat):Nat->Option Nat:=λk=>
 match own' k with
 |some i=>cL is js i
 |none=>match own k with|some j=>(match cL js is j with|some _=>none|none=>some j)|none=>none
def handed (h:Inv C S O V own hv w0 σ0 A a w)(hC:CtxOK C σ0)(Gk:zW shs obs=true)(F2:is=obs.map (·.1))(aeF:is.Nodup)(Mc:js.Nodup)(LW:sS S is js obs js=true){acts:List pw}{es:List PE}(lJ:vV S is js acts shs=some es)
 (LQ:S.o jo=.dead) (Mn:jo∉js) {vals:List Value} (hvl:vals.length=acts.length) (arb:∀(t:Nat) (x:pw),acts[t]?=some x->∃d,I5 C S O V hv x (vals.getD t undef) d) {f:Nat} {res:Ty} {d:D}
 (hfn:uj C f shs obs res (es.map (PE.ev O)++js.map O.o) d):
 Calls C.P f vals.toArray w λe w'=>∃v dr os,e=.returned v/\d=.tup (dr::os)/\os.length=js.length/\
  ∀O':Env,O'.r=O.r->(∀(k j:Nat),js[k]?=some j->O'.o j=os.getD k .none)->(∀j,j∉js->j≠jo->O'.o j=O.o j)->
   ∃σ1 dH aL,Inv C (S.handed shs obs is js) O' σ1 dH aL w0 σ0 A a w'/\Rep C.cap σ1 res v dr:=by
 obtain⟨al1,al2,ju⟩:=adl lJ;have ia:=adn LW;have wz:w0.heap.size<=w.heap.size:=h.below.size;obtain⟨tr,fx,cx,hf,uT⟩:=h.frame
 let eU:Nat->Value:=λi=>match cL is js i with|some j=>hv j|none=>undef
 have fX:∀i j,cL is js i=some j->eU i=hv j:=λi j e=>by simp only[eU,e]
 have aev:Im.leR C.cap V V.noM:=⟨Rep.noM,λ_ _ _ e=>e⟩
 have Gc:∀k x,V.noM.m k=some x->V.m k=some x/\x≠cw:=by
  intro k x e;by_cases hd:V.m k=some cw
  .simp[Im.noM,hd] at e
  .simp only[Im.noM,if_neg hd] at e;exact⟨e,λe2=>hd (by rw[e,e2])⟩
 have jO:(es.map (PE.ev O)++js.map O.o).drop shs.length=js.map O.o:=by rw[List.drop_append];simp[al2]
 have ar5:∀t e,es[t]?=some e->(es.map (PE.ev O)++js.map O.o).getD t .none=e.ev O:=λt e he=>by
  have af:=(eO.1 he).1;rw[aH,nH (by simpa using af),cq,he];rfl
 have atd:∀s,s∈shs->∃x,lh S.ver is js s=some x:=by
  intro s hs;obtain⟨t,ht⟩:=A1 hs;obtain⟨x,e,_,_,he⟩:=ju t s ht;unfold Fv at he;split at he
  .exact⟨_,rfl⟩
  .exact⟨_,rfl⟩
  .split at he
   .rename_i y hy;exact⟨y,hy⟩
   .cases he
 have aeo:∀t,aG C (fh shs obs) (lV obs (es.map (PE.ev O)++js.map O.o) ((es.map (PE.ev O)++js.map O.o).drop shs.length)) V.noM eU (shs.getD t .none) (vals.toArray.getD t undef) ((es.map (PE.ev O)++js.map O.o).getD t .none):=by
  intro t;cases hs:shs[t]? with
  |none=>rw[aH,hs];trivial
  |some s=>
   obtain⟨x,e,hx,he,LV⟩:=ju t s hs;obtain⟨d',arc⟩:=arb t x hx;rw[aH (l:=shs),hs,ar5 t e he];have e1:vals.toArray.getD t undef=vals.getD t undef:=by simp[gp,aH]
   rw[e1];exact apj aev fX LV arc
 have asi:∀i,cf C (fh shs obs) (lV obs (es.map (PE.ev O)++js.map O.o) ((es.map (PE.ev O)++js.map O.o).drop shs.length)) V.noM (qd js is own) eU w w0.heap.size i (ei obs i):=by
  intro i;cases dC:cL is js i with
  |none=>subst F2;rw[af2 ia dC];trivial
  |some j=>
   subst F2;obtain⟨x,hx,LY⟩:=adm LW dC;refine axz aev fX (λk j' i' hk hl=>by simp only[qd,hk,sB,hl]) Mc dC ?_ hx LY (h.objs j);show oR obs _ i=_;rw[jO];exact auB obs O.o rfl dC
 have dc:=hfn w0.heap.size V.noM (qd js is own) eU w vals.toArray (λk=>(∃j,own k=some j/\cL js is j=none)\/V.m k=some cw\/(cx k)) Gk ⟨h.ok.c,λk x e=>h.ok.m k x (Gc k x e).1,h.ok.f⟩ ((hC.mono h.le).noM)
  (λk e=>(Gc k _ e).2 rfl) wz (by simp;omega) (λk i hk=>by
    simp only[qd,az] at hk;obtain⟨j,hj,_⟩:=hk;obtain⟨g1,g2,g3,g4⟩:=h.owns k j hj;exact⟨g1,g2,g3,by by_cases e:V.m k=some cw<;>simp[Im.noM,e,g4]⟩) (λk hk=>by
    rcases hk with⟨j,hj,hn⟩|hk|hk
    .obtain⟨g1,g2,g3,g4⟩:=h.owns k j hj;exact⟨g2,by simp[qd,hj,hn],g3,by by_cases e:V.m k=some cw<;>simp[Im.noM,e,g4]⟩
    .have Ga:=h.ok.m k _ hk;have hn:own k=none:=by
      cases e:own k with
      |none=>rfl
      |some j=>rw[(h.owns k j e).2.2.2] at hk;cases hk
     refine⟨Ga.lt,by simp[qd,hn],λo=>?_,by simp[Im.noM,hk]⟩;cases e:V.c k o with
     |none=>exact e
     |some x=>
      have c1:=h.ok.c k o x e;rcases Ga with⟨m1,_⟩|⟨_,m2⟩|⟨m3,_⟩
      .exact absurd rfl m1
      .simp[World.cell?,m2] at c1
      .exact absurd m3.symm xn
    .have mW:=σ0.sub _ _ _ _ hf.F k hk;have hn:own k=none:=by
      cases e:own k with
      |none=>rfl
      |some j=>exact absurd mW (hf.own k j e)
     refine⟨σ0.lt _ _ _ _ hf.F k mW,by simp[qd,hn],λo=>?_,?_⟩
     .cases e:V.c k o with
      |none=>exact e
      |some x=>exact absurd hk (hf.c k o x e)
     .cases e:V.m k with
      |none=>simp[Im.noM,e]
      |some x=>exact absurd hk (hf.m k x e)) aeo asi
 refine dc.mono λe w' hh=>?_;obtain⟨v,V',own',hv',dr,os,rfl,hd,SN,hle,ax,hb,iK,dD,cY,wq,aeN,uQ,SK,ky⟩:=hh;refine⟨v,dr,os,rfl,hd,by omega,λO' kS ng zo=>?_⟩;have Gd:∀k,k<w.heap.size->own k=none->w'.heap[k]?=w.heap[k]?:=λk hk hn=>iK k hk (by simp[qd,hn]);have as1:∀k j,own k=some j->cL js is j=none->w'.heap[k]?=w.heap[k]?:=λk j hk hn=>iK k (h.owns k j hk).2.1 (by simp[qd,hk,hn])
 have ad9:∀k o x,V.c k o=some x->own k=none:=λk o x e=>by
  cases e1:own k with
  |none=>rfl
  |some j=>rw[(h.owns k j e1).2.2.1 o] at e;cases e
 have aeE:∀k x,V.m k=some x->own k=none:=λk x e=>by
  cases e1:own k with
  |none=>rfl
  |some j=>rw[(h.owns k j e1).2.2.2] at e;cases e
 have aeI:V.ok w':=⟨λk o x e=>by rw[World.cell?_of_block (Gd k (h.lt e) (ad9 k o x e))];exact h.ok.c k o x e,λk x e=>(h.ok.m k x e).keep (Gd k (h.ltm e) (aeE k x e)),h.ok.fz λk o x e=>Gd k (h.lt e) (ad9 k o x e)⟩
 have na:V.le (V'.plus V):=Im.plus_le2 ax aeI;have iJ:V'.le (V'.plus V):=Im.plus_le1 V' V;have cI:∀k o x,(V'.plus V).c k o=some x->V'.c k o=some x:=λk o x e=>(Im.plus_c e).elim id (λe=>hle.c k o x e)
 have CR:∀k x,(V'.plus V).m k=some x->V'.m k=some x\/(V.m k=some x/\x=cw):=λk x e=>(Im.plus_m e).elim .inl (λe=>by
  by_cases hd:x=cw
  .exact .inr ⟨e,hd⟩
  .refine .inl (hle.m k x ?_);have:V.m k≠some cw:=λe2=>hd (by rw[e] at e2;cases e2;rfl);simp only[Im.noM,if_neg this,e])
 let aL:Nat->Value:=λj=>match cL js is j with|some i=>hv' i|none=>hv j
 have atP:∀i j,cL is js i=some j->hv' i=aL j:=λi j e=>by simp only[aL,MG Mc e]
 have arH:∀i,i∈qU shs->hv' i=eU i:=λi hi=>anY (S:=S) (is:=is) (js:=js) (args:=λt=>vals.toArray.getD t undef) (ds:=λt=>(es.map (PE.ev O)++js.map O.o).getD t .none) (ds':=λt=>(es.map (PE.ev O)++js.map O.o).getD t .none) (λt s hs=>by
  have:=aeo t;rw[aH (l:=shs),hs] at this;exact this) (λt s hs hd=>uQ t s hs hd) atd hi
 have v8:Compat S hv (S.handed shs obs is js) aL:=by
  refine⟨λj=>?_,λj e=>?_⟩
  .show S.ver j<=xD S.ver shs is js j;unfold xD;split
   .cases aC (qU shs) _<;>simp
   .exact aZ _
  .change xD S.ver shs is js j=S.ver j at e;show aL j=hv j;simp only[aL];unfold xD at e;split at e
   .rename_i i hi;cases hb:aC (qU shs) i<;>rw[hb] at e
    .simp at e
    .try simp only[hi]
     rw[arH i (afi.1 hb),fX i j (MG aeF hi)]
   .rename_i hi;try simp only[hi]
 have oB:∀k j,G6 js is own own' k=some j->(k<w.heap.size->own k≠none)/\w0.heap.size<=k/\k<w'.heap.size/\(∀o,V'.c k o=none)/\V'.m k=none/\V.m k≠some cw:=by
  intro k j hk;simp only[G6] at hk;split at hk
  .rename_i i hi;obtain⟨g1,g2,g3,g4,g5⟩:=aeN k i hi;have g6:k<w.heap.size->own k≠none:=λaf e=>g5 af (by simp[qd,e]);refine⟨g6,g1,g2,g3,g4,λe=>?_⟩;exact g6 (h.ltm e) (aeE k _ e)
  .split at hk
   .rename_i j' bA;split at hk
    .cases hk
    .rename_i hn;obtain⟨g1,g2,g3,g4⟩:=h.owns k j' bA;have dO:(∃j,own k=some j/\cL js is j=none)\/V.m k=some cw\/(cx k):=.inl ⟨j',bA,hn⟩;refine⟨λ_ e=>(by rw[bA] at e;cases e),g1,ly g2 hb.size,λo=>?_,?_,λe=>?_⟩
     .cases e:V'.c k o with
      |none=>rfl
      |some x=>exact absurd dO (dD k o x e).2
     .cases e:V'.m k with
      |none=>rfl
      |some x=>exact absurd dO (cY k x e).2
     .rw[g4] at e;cases e
   .cases hk
 refine⟨V'.plus V,G6 js is own own',aL,⟨h.defers.mono na,Im.plus_ok ax aeI,h.le.trans na,h.old,λk o x e=>?_,λk x e=>?_,h.below.trans (Below.weak hb λk hk=>?_),h.bw,λk j hk=>?_,λt=>?_,λj=>?_,h.opts,?_⟩,ky.mono iJ⟩
 .rcases(dD k o x (cI k o x e)).1 with e1|e1
  .exact h.newc k o x e1
  .exact .inr e1
 .rcases CR k x e with e1|e1
  .rcases(cY k x e1).1 with e2|e2
   .exact h.newm k x (Gc k x e2).1
   .exact .inr e2
  .exact h.newm k x e1.1
 .have ct:k<w0.heap.size:=ly hk h.bw;refine Gd k (by omega) ?_;cases e:own k with
  |none=>rfl
  |some j=>have:=(h.owns k j e).1;omega
 .obtain⟨_,g1,g2,g3,g4,g5⟩:=oB k j hk;refine⟨g1,g2,λo=>?_,?_⟩
  .cases e:(V'.plus V).c k o with
   |none=>rfl
   |some x=>have:=cI k o x e;rw[g3 o] at this;cases this
  .cases e:(V'.plus V).m k with
   |none=>rfl
   |some x=>
    rcases CR k x e with e1|e1
    .rw[g4] at e1;cases e1
    .exact absurd (by rw[e1.1,e1.2]) g5
 .show aG C _ O' _ aL (S.r t) _ (O'.r t);rw[kS]
  exact aG.mono na v8 (λgs s e=>by
   unfold holds;rw[kS]) (λgs s e=>(h.opts t gs s e).2) (h.regs t)
 .show cf C _ O' _ _ aL w' _ j (match cL js is j with|some i=>(match rX (xD S.ver shs is js) is js (ei obs i) with|some o=>o|none=>.dead)|none=>S.o j);split
  .rename_i i hi;have dC:=MG aeF hi;split
   .rename_i x hx;refine axA (S1:=S.handed shs obs is js) iJ atP (λk i' j' hk hl=>by simp only[G6,hk,hl]) dC ?_ hx (SK i);subst F2;obtain⟨k,bD,ct⟩:=afT (os:=os) SN dC;show O'.o j=oR obs os i;rw[ct];exact ng k j bD
   .trivial
  .rename_i hn
   have SC:j∉js:=λhm=>by
        obtain⟨k,hk⟩:=A1 hm;have af:k<is.length:=by
         have:=(eO.1 hk).1;rw[F2,dX];omega
        have:=MF Mc hk (aY af);rw[hn] at this;cases this
   by_cases L7:j=jo
   .subst L7;rw[LQ];trivial
   .refine(h.objs j).mono na v8 (by show aL j=hv j;simp only[aL,hn]) (zo j SC L7) (λk hk=>⟨?_,as1 k j hk hn⟩);have:own' k=none:=by
     cases e:own' k with
     |none=>rfl
     |some i=>exact absurd (by simp[qd,hk,hn]) ((aeN k i e).2.2.2.2 (h.owns k j hk).2.1)
    simp only[G6,this,hk,hn]
 .refine⟨tr,fx,cx,⟨σ0.keep _ _ _ _ _ hf.F hb λk hk=>?_,λk j hk mW=>?_,λk o x e hc=>?_,λk x e hc=>?_,λk e hB hk=>?_⟩,λj hj=>?_⟩
  .refine Gd k (σ0.lt _ _ _ _ hf.F k hk) ?_;cases e:own k with
   |none=>rfl
   |some j=>exact absurd hk (hf.own k j e)
  .have af:=σ0.lt _ _ _ _ hf.F k mW;have:=(oB k j hk).1 af;cases e:own k with
   |none=>exact this e
   |some j'=>exact hf.own k j' e mW
  .exact(dD k o x (cI k o x e)).2 (.inr (.inr hc))
  .rcases CR k x e with e1|e1
   .exact(cY k x e1).2 (.inr (.inr hc))
   .exact hf.m k x e1.1 hc
  .rcases CR k _ e with e1|e1
   .have af:=σ0.lt _ _ _ _ hf.F k hk;refine wq k e1 hB af ?_;have:own k=none:=by
     cases e:own k with
     |none=>rfl
     |some j=>exact absurd hk (hf.own k j e)
    simp[qd,this]
   .exact hf.d k e1.1 hB hk
  .change (match cL js is j with|some i=>(match rX (xD S.ver shs is js) is js (ei obs i) with|some o=>o|none=>.dead)|none=>S.o j)=.tr at hj;split at hj
   .rename_i i hi;split at hj
    .rename_i x hx;exact absurd hj (azX hx)
    .cases hj
   .rename_i hn
    have SC:j∉js:=λhm=>by
     obtain⟨k,hk⟩:=A1 hm;have af:k<is.length:=by
         have:=(eO.1 hk).1;rw[F2,dX];omega
     have:=MF Mc hk (aY af);rw[hn] at this;cases this
    have L7:j≠jo:=λe=>by subst e;rw[LQ] at hj;cases hj
    rw[zo j SC L7];exact uT j hj
def aj7:∀(js:List Nat) (k:Nat) {O O':Env} {l:List D},PI.runs Z (IL js k) O=some O'->O.o jo=.tup l->jo∉js->js.Nodup->
 O'.r=O.r/\(∀(i j:Nat),js[i]?=some j->O'.o j=l.getD (k+i) .none)/\∀j,j∉js->O'.o j=O.o j
 |[],k,O,O',l,h,hs,hn,hd=>by
  simp only[IL,PI.runs,bj] at h;subst h;exact⟨rfl,λi j e=>by simp at e,λ_ _=>rfl⟩
 |x::js,k,O,O',l,h,hs,hn,hd=>by
  simp only[IL,PI.runs,PI.run,sB,PE.ev,hs,D.tget] at h;simp only[cv,not_or] at hn;have gy:=qE.1 hd;obtain⟨g1,g2,g3⟩:=aj7 js (k+1) h (by simp only[Env.setO];rw[bJ _ _ hn.1];exact hs) hn.2 gy.2;refine⟨g1,λi j e=>?_,λj hj=>?_⟩
  .cases i with
   |zero=>simp at e;subst e;rw[g3 _ gy.1];simp[Env.setO,aS]
   |succ i=>simp at e;rw[g2 i j e];congr 1;omega
  .simp only[cv,not_or] at hj;rw[g3 j hj.2];simp only[Env.setO];exact bJ _ _ hj.1
def alA (h:Inv C S O V own hv w0 σ0 A a w)(hC:CtxOK C σ0)(x:Operand):∃d,I5 C S O V hv (Ju C S x) (a.eval x) d:=by
 cases x with
 |tmp t=>
  refine⟨O.r t,?_,λy hy=>cu (gs:=[]) h hC rfl hy⟩;have:=(sd (gs:=[]) h rfl t).1;simpa [Act.eval,Ju,gN] using this
 |_=>exact⟨.none,trivial,λy hy=>cu (gs:=[]) h hC rfl hy⟩
def aoj (h:Inv C S O V own hv w0 σ0 A a w)(hC:CtxOK C σ0)(hΦ:dj C Z){f:Nat}{args:List Operand}{caps:List (Nat×Nat)}{vs:List Value}(jf:vs.length=caps.length)
 (eQ:∀(i j ver:Nat),caps[i]?=some (j,ver)->ver<=S.ver j/\(ver=S.ver j->vs.getD i undef=hv j)) (rh:∀(i j ver:Nat),caps[i]?=some (j,ver)->ver=S.ver j->∃k,hv j=.pointer (some ⟨k,0,none⟩)) {r:St×Ty×List PI} (hr:vR C S f args caps=some r)
 {ρ1:Env} (aq:PI.runs Z r.2.2 O=some ρ1):
 Calls C.P f (args.map a.eval++vs).toArray w λe w'=>∃v σ1 dH aL,e=.returned v/\Inv C r.1 ρ1 σ1 dH aL w0 σ0 A a w'/\Rep C.cap σ1 r.2.1 v ((ρ1.o jo).tget 0):=by
 simp only[vR,az] at hr;obtain⟨s,hs,hr⟩:=hr;split at hr
 case h_2=>cases hr
 rename_i shs obs oF;obtain⟨σ2,jC,iJ,h2⟩:=Inv.fzs (Cv S args shs) h;have dR:=(sU (Cv S args shs) S).1;generalize S.fzs (Cv S args shs)=S2 at hr h2 dR;unfold Rh Rg at hr;generalize adf S2 shs obs (args.map (Ju C S2)++caps.map acf)=js at hr;simp only[az] at hr;obtain⟨es,lJ,hr⟩:=hr;cases hb:(zW shs obs&&(kA (obs.map (·.1))&&kA js&&sS S2 (obs.map (·.1)) js obs js&&pZ (S2.o jo)&& !aC js jo))<;>simp only[hb,zyy,zyx] at hr
 .cases hr
 cases hr;simp only[au,l6] at hb;obtain⟨b0,⟨⟨⟨b1,b2⟩,b3⟩,b4⟩,b5⟩:=hb;have kQ:=rH b1;have mf:=rH b2;have LQ:S2.o jo=.dead:=by
  cases e:S2.o jo<;>rw[e] at b4<;>first|rfl|cases b4
 have Mn:jo∉js:=λhm=>by rw[afi.2 hm] at b5;cases b5
 simp only[PI.runs,PI.run,az,aB] at aq;obtain⟨ρ2,⟨d,hd,rfl⟩,aq⟩:=aq;rw[PE.evs_eq,py,nJ] at hd;have e1:js.map (PE.ev O∘PE.o)=js.map O.o:=rfl;rw[e1] at hd;have hfn:=((hΦ f _ d hd s hs).2 shs obs oF).plain b0
 have dc:=handed h2 hC b0 rfl kQ mf b3 lJ LQ Mn (vals:=args.map a.eval++vs) (by simp[jf]) (λt x hx=>by
  rw[mF] at hx;split at hx
  .rename_i af;rw[dX] at af;rw[cq,aY af] at hx;cases hx;have:(args.map a.eval++vs).getD t undef=a.eval args[t]:=by
        rw[aH,nH (by simpa using af),cq,aY af];rfl
   rw[this];exact alA h2 hC _
  .rename_i hZ;rw[dX] at hZ hx;rw[cq,aB] at hx;obtain⟨c,hc,rfl⟩:=hx;obtain⟨j,ver⟩:=c;have cD:(args.map a.eval++vs).getD t undef=vs.getD (t-args.length) undef:=by
        rw[aH,nI (by simpa using hZ),dX,aH]
   obtain⟨g1,g2⟩:=eQ _ j ver hc;refine⟨.none,⟨by rw[dR];exact g1,λe=>?_⟩,λy hy=>by cases hy⟩;rw[dR] at e;obtain⟨k,hk⟩:=rh _ j ver hc e;exact⟨k,hk,by rw[cD,g2 e,hk]⟩) (hfn:=hfn)
 refine dc.mono λe w' hh=>?_;obtain⟨v,dr,os,rfl,rfl,SN,km⟩:=hh;obtain⟨g1,g2,g3⟩:=aj7 js 1 (l:=dr::os) aq (by simp[Env.setO,aS]) Mn mf
 obtain⟨σ1,dH,aL,hinv,bK⟩:=km ρ1 g1 (λk j hk=>by
  have:=g2 k j hk;rw[Es] at this;simpa using this) (λj hj ay=>by rw[g3 j hj];simp only[Env.setO];exact bJ _ _ ay)
 refine⟨v,σ1,dH,aL,rfl,hinv,?_⟩;rw[g3 jo Mn];simpa [Env.setO,aS,D.tget] using bK
def rI (S:St)(dst:Option Nat)(r:St×Ty×List PI):St×List PI:=
 match dst with
 |some d=>(r.1.setR d (.dat r.2.1),r.2.2++[.setR d (.tget (.o jo) 0)])
 |none=>(r.1,r.2.2)
def aAf {a b:List PI}{O:Env}:PI.runs Z (a++b) O=(PI.runs Z a O).bind (PI.runs Z b):=by
 induction a generalizing O with
 |nil=>simp[PI.runs]
 |cons x a ih=>
  simp only[Je,PI.runs];cases x.run Z O with
  |none=>rfl
  |some ρ1=>simp[ih]
def amR {o:Oper}{f:Nat}{vals:List Value}(ht:∀d,o.dst=some d->¬A d/\d<a.tmps.size){r:St×Ty×List PI}(hx:(execOp a.eval o).run C.P w=.ok (.enter f vals.toArray) w)
 (hc:∀ρ1,PI.runs Z r.2.2 O=some ρ1->Calls C.P f vals.toArray w λe w'=>∃v σ1 dH aL,e=.returned v/\Inv C r.1 ρ1 σ1 dH aL w0 σ0 A a w'/\Rep C.cap σ1 r.2.1 v ((ρ1.o jo).tget 0)):bV C w0 σ0 Z S O A a w o (rI S o.dst r):=by
 intro O' aq K Q hK;simp only[Oper.wp,hx,Oper.upon];cases hd:o.dst with
 |none=>
  rw[hd] at aq hK;refine(hc O' aq).mono λe w' hh=>?_;obtain⟨v,σ1,dH,aL,rfl,hinv,bK⟩:=hh;refine hK _ _ ⟨σ1,dH,aL,?_⟩ rfl;have:(λu=>A u\/(none:Option Nat)=some u)=A:=by funext u;simp
  rw[this];exact hinv
 |some d=>
  rw[hd] at aq hK;obtain⟨t1,t2⟩:=ht d hd;simp only[rI,aAf,az] at aq;obtain⟨ρ1,h1,h2⟩:=aq;simp[PI.runs,PI.run,PE.ev] at h2;subst h2;refine(hc ρ1 h1).mono λe w' hh=>?_;obtain⟨v,σ1,dH,aL,rfl,hinv,bK⟩:=hh;refine hK _ _ ⟨σ1,dH,aL,?_⟩ (size_put _ _ _);have:(λu=>A u\/some d=some u)=(λu=>A u\/u=d):=by funext u;simp[eq_comm]
  rw[this];exact hinv.setReg t1 (s:=.dat r.2.1) bK t2 (λ_ _ e=>by cases e)
def acQ (h:Inv C S O V own hv w0 σ0 A a w)(hC:CtxOK C σ0)(bh:dJ C)(hΦ:dj C Z){f:Nat}{args:Array Operand}{ts:Array TypeId}{r:St×Ty×List PI}{o:Oper}(ht:∀d,o.dst=some d->¬A d/\d<a.tmps.size)
 (hr:vR C S f args.toList []=some r) (ho:o.op=.call {callee:=.value (.func f),args:=args,argTypes:=ts}):bV C w0 σ0 Z S O A a w o (rI S o.dst r):=by
 have hs:∃s,C.sig f=some s:=by
  simp only[vR,az] at hr;obtain⟨s,hs,_⟩:=hr;exact⟨s,hs⟩
 obtain⟨s,hs⟩:=hs;have hx:=OI (a:=a) (w:=w) bh hs ho;have nj:args.map a.eval=(args.toList.map a.eval++[]).toArray:=by apply Ei;simp
 rw[nj] at hx;exact amR ht hx λρ1 aq=>aoj h hC hΦ (vs:=[]) rfl (λi j ver e=>by simp at e) (λi j ver e=>by simp at e) hr aq
def Lh (C:Ctx)(S:St)(t:Nat)(args:List Operand):Option (St×Ty×List PI):=none
def acO (h:Inv C S O V own hv w0 σ0 A a w)(hC:CtxOK C σ0)(bh:dJ C)(hΦ:dj C Z){t:Nat}{args:Array Operand}{ts:Array TypeId}{r:St×Ty×List PI}{o:Oper}(ht:∀d,o.dst=some d->¬A d/\d<a.tmps.size)
 (hr:Lh C S t args.toList=some r) (ho:o.op=.call {callee:=.value (.tmp t),args:=args,argTypes:=ts}):bV C w0 σ0 Z S O A a w o (rI S o.dst r):=by cases hr
def Rj (C:Ctx)(S:St)(dst:Nat)(fn:Fn)(first caps:Array Operand):Option (St×List PI):=none
def aox (h:Inv C S O V own hv w0 σ0 A a w)(ht:¬A dst)(af:dst<a.tmps.size){fn:Fn}{first caps:Array Operand}{r:St×List PI}{o:Oper}(hr:Rj C S dst fn first caps=some r)(hd:o.dst=some dst)(ho:o.op=.makeFunc fn first caps):bV C w0 σ0 Z S O A a w o r:=by cases hr
end
inductive Gh where
 |fz (j:Nat)|fbox (b:Nat)|rereg (t j:Nat)|recell (b i j:Nat)|home (b i j:Nat) (T:TypeId)
def Gh.run (C:Ctx)(S:St):Gh->Option (St×List PI)
 |.fz j=>some (S.fz j,[])
 |.fbox b=>FB S b
 |.rereg t j=>ID S t j
 |.recell b i j=>azV S b i j
 |.home b i j T=>Gg C S b i j T
def ou (C:Ctx):List Gh->St->Option (St×List PI)
 |[],S=>some (S,[])
 |g::gs,S=>(g.run C S).bind λr=>(ou C gs r.1).map λq=>(q.1,r.2++q.2)
def tY {Z:aO}:∀{a b:List PI} {O:Env},PI.runs Z (a++b) O=(PI.runs Z a O).bind (PI.runs Z b)
 |[],b,O=>by simp[PI.runs]
 |x::a,b,O=>by
  simp only[Je,PI.runs];cases x.run Z O with
  |none=>rfl
  |some ρ1=>simp[tY (a:=a) (b:=b)]
def Cy (S:St)(ops:Array Oper)(o:Oper):Option (List (Nat×Bool)):=
 match o.guard with
 |none=>some []
 |some (j,want)=>
  match(ops[j]?).bind (·.dst) with
  |some t=>
   match S.r t with
   |.dat .bool=>some [(t,want)]
   |.opt gs (.dat .bool)=>some ((t,want)::gs)
   |_=>none
  |none=>none
def aiN (S:St)(gs:List (Nat×Bool)):Op->List Nat
 |.build _ ps=>ej S gs (ps.toList.map (·.2))
 |.buildSlice _ _ ps=>ej S gs (ps.toList.map (·.2))
 |.box _ x=>match gN S gs x with|.agg _=>[]|_=>ej S gs [x]
 |.pick _ x y=>ej S gs [x,y]
 |.slice _ x _ _ _=>ej S gs [x]
 |.mapUpdate _ _ k v=>ej S gs [k,v]
 |.insert _ _ k v=>ej S gs [k,v]
 |.store _ x v=>match gN S gs x with|.eptr ..=>ej S gs [v]|_=>[]
 |_=>[]
def EZ:List Sh->List Nat
 |[]=>[]
 |.obj j _::r=>j::EZ r
 |_::r=>EZ r
def JI (S:St)(gs:List (Nat×Bool)):List Operand->List Nat
 |[]=>[]
 |x::xs=>
  match gN S gs x with
  |.ptr j ver off=>bif Nat.beq ver (S.ver j)&&(match S.o j with|.box ..=>true|_=>false) then j::JI S gs xs else JI S gs xs
  |_=>JI S gs xs
def agI (C:Ctx):Fn->Bool
 |.func f=>(match C.sig f with|some s=>wL s.mode|none=>false)
 |_=>false
def axl {α:Type}{b:Bool}{x:α}{l:List α}(h:x∈bif b then[] else l):x∈l:=by
 cases b with
 |true=>cases h
 |false=>exact h
def pre (C:Ctx)(S:St)(gs:List (Nat×Bool))(op:Op):List Gh:=
 match op with
 |.makeFunc fn _ caps=>
  bif agI C fn then[] else(JI S gs caps.toList).flatMap λb=>(match S.o b with|.box _ shs=>(EZ shs).map .fz|_=>[])++[.fbox b]
 |.load T x=>
  match gN S gs x,ry C.P T,C.P.info? T with
  |.ptr j _ off,some true,some inf=>bif agB C j then[] else(match S.o j with|.box _ shs=>((EZ ((shs.drop off).take inf.size)).filter λj=>p6 (S.o j)).map .fz|_=>[])
  |_,_,_=>[]
 |.build T ps=>((aiN S gs (.build T ps)).filter λj=> !(C.fr.any (Nat.beq (3000000+j)))).map .fz
 |op=>(aiN S gs op).map .fz
def VP (C:Ctx)(S:St)(gs:List (Nat×Bool))(o:Oper):List Gh:=
 match o.op,o.dst with
 |.assign x,some t=>bif C.fr.any (Nat.beq t) then(ej S gs [x]).map .fz else[]
 |_,_=>[]
def QX (P:Program):Nat->TypeId->List (Option TypeId)
 |0,_=>[]
 |n+1,t=>
  match P.underlying t with
  |some (.struct fs)=>fs.toList.flatMap λf=>QX P n f.type
  |some (.array len e)=>(List.replicate len (QX P n e)).flatten
  |some (.slice e)=>[some e]
  |_=>[none]
def homes (P:Program)(b off:Nat)(T:TypeId):List Gh:=
 ((QX P 12 T).zipIdx).filterMap λx=>x.1.map λe=>.home b (off+x.2) (as0 b (off+x.2)) e
def Mz (nh:List Nat)(l:List Gh):List Gh:=l.filter λg=>match g with|.home _ _ j _=> !(nh.any (Nat.beq j))|_=>true
def post (C:Ctx)(S:St)(o:Oper):List Gh:=
 match o.op,o.dst with
 |.assign _,some t=>[.rereg t t]
 |.alloc T,some t=>Mz C.nh (homes C.P t 0 T)
 |.store T x _,_=>
  match gN S [] x with
  |.ptr j _ off=>Mz C.nh (homes C.P j off T)
  |_=>[]
 |_,_=>[]
def MW:Sh->Bool
 |.opt ..=>false
 |_=>true
def vS (C:Ctx)(S:St)(dst:Nat)(T:TypeId)(x:Operand):ls:=
 match x with
 |.const v=>(qu C.P T).bind λt=>(qv t).bind λz=>bif j4 t v then some (S.setR dst (.dat z.1),[.setR dst (.con z.2)]) else none
 |_=>none
def core (C:Ctx)(S:St)(gs:List (Nat×Bool))(o:Oper):Option (St×List PI):=
 match o.dst with
 |some dst=>
  match Nn C S gs dst o.op with
  |some r=>bif MW r.1 then some (S.setR dst (uI gs r.1),r.2) else none
  |none=>
   match o.op,gs with
   |.assign x,[]=>
    bif C.fr.any (Nat.beq dst) then
          match z7 C S [] dst x with
          |some r=>some (S.setR dst r.1,r.2)
          |none=>vS C S dst o.type x
    else
    match Fl C S dst o.type x with
    |some r=>some r
    |none=>
     match z7 C S [] dst x with
     |some r=>some (S.setR dst r.1,r.2)
     |none=>vS C S dst o.type x
   |.alloc T,[]=>Fc C S dst T
   |.box T x,[]=>Ff C S dst T x
   |.buildSlice T n ps,gs=>
    match gs with
    |[]=>yM C S [] dst T n ps.toList
    |_=>Ck C S gs dst T n ps.toList
   |.makeSlice T l c,[]=>Fk C S dst T l c
   |.makeMap T r,[]=>Fj C S dst T r
   |.range T x,[]=>Fm C S dst T x
   |.convert T U x,[]=>Fg C S dst T U x
   |.call c,gs=>
    match c.callee,gs with
    |.builtin .append,[]=>
     match c.args.toList,c.argTypes.toList with
     |[s,x],[T,T']=>bif Nat.beq T T' then Fe C S dst T s x else none
     |_,_=>none
    |.value (.func f),gs=>
     match Cj C S gs dst f c.args.toList with
     |some r=>some (r.1.setR dst (uI gs r.2.1),r.2.2)
     |none=>
      match gs with
      |[]=>
       match Fi C S dst f c.args.toList with
       |some r=>some r
       |none=>
        match Ri C S dst f c.args.toList with
        |some r=>some r
        |none=>
        match Fh C S dst f c.args.toList with
        |some r=>some r
        |none=>(vR C S f c.args.toList []).map (rI S (some dst))
      |_=>none
    |.value x,gs=>
     match yN C S gs dst x c.args.toList with
     |some r=>some (r.1.setR dst (uI gs r.2.1),r.2.2)
     |none=>
      match x,gs with
      |.tmp t,[]=>(Lh C S t c.args.toList).map (rI S (some dst))
      |_,_=>none
    |_,_=>none
   |.makeFunc fn first caps,[]=>Rj C S dst fn first caps
   |_,_=>none
 |none=>
  match o.op,gs with
  |.store T x v,[]=>Fo C S T x v
  |.mapUpdate T m k v,[]=>Cl C S T m k v
  |.insert T m k v,[]=>Cl C S T m k v
  |.panic _,[]=>some (S,[.chk (.nt (.con (.bool true)))])
  |.call c,[]=>
   match c.callee with
   |.value (.func f)=>(vR C S f c.args.toList []).map (rI S none)
   |.value (.tmp t)=>(Lh C S t c.args.toList).map (rI S none)
   |_=>none
  |_,_=>none
def ais (dst:Nat)(l:List PI):Bool:=l.all λp=>p.modR.all (Nat.beq dst)&&p.modO.isEmpty
def Lu (gs:List (Nat×Bool))(dst:Option Nat)(l:List PI):Bool:=
 match gs,dst with
 |[],_=>true
 |_,some d=>ais d l
 |_,none=>false
def La (C:Ctx)(S:St)(ops:Array Oper)(o:Oper):Option (St×List PI):=
 (Cy S ops o).bind λgs=>
 (ou C (pre C S gs o.op++VP C S gs o) S).bind λr1=>
 (core C r1.1 gs o).bind λr2=>
 (ou C (post C r2.1 o) r2.1).bind λr3=>
 bif Lu gs o.dst r2.2 then some (r3.1,r1.2++r2.2++r3.2) else none
def IS:PI:=.chk (.con (.v (.bool false)))
def E9 (C:Ctx)(S:St)(ops:Array Oper)(o:Oper):Option (St×List PI):=
 match La C S ops o with
 |some r=>some r
 |none=>some (match o.dst with|some d=>S.setR d .none|none=>S,[IS])
section
variable {C:Ctx} {S:St} {O:Env} {V:Im} {own:Nat->Option Nat} {hv:Nat->Value} {w0:World} {σ0:Base} {A:Nat->Prop} {a:Act} {w:World} {gs:List (Nat×Bool)} {Z:aO} {dst:Nat}
def Gh.sound {g:Gh}{r:St×List PI}(h:Good C w0 σ0 S O A a w)(hr:g.run C S=some r):Ja C w0 σ0 Z S O A a w r:=by
 obtain⟨V,own,hv,h⟩:=h;cases g with
 |fz j=>
  simp only[Gh.run,bj] at hr;subst hr;intro O' aq;rw[vq aq];obtain⟨V',own',_,h'⟩:=h.fz j;exact⟨V',own',hv,h'⟩
 |fbox b=>exact aqC h hr
 |rereg t j=>exact azW h hr
 |recell b i j=>cases hr
 |home b i j T=>exact asZ h hr
def RI:∀(l:List Gh) {S:St} {O O':Env} {r:St×List PI},Good C w0 σ0 S O A a w->ou C l S=some r->PI.runs Z r.2 O=some O'->Good C w0 σ0 r.1 O' A a w
 |[],S,O,O',r,h,hr,aq=>by
  simp only[ou,bj] at hr;subst hr;rw[vq aq];exact h
 |g::l,S,O,O',r,h,hr,aq=>by
  simp only[ou,az,aB] at hr;obtain⟨q,hq,q2,ie,rfl⟩:=hr;simp only[tY,az] at aq;obtain⟨ρ1,h1,h2⟩:=aq;exact RI (r:=q2) l (Gh.sound (Z:=Z) h hq ρ1 h1) ie h2
def adD (h:Good C w0 σ0 S O A a w){ops:Array Oper}{o:Oper}(hg:Cy S ops o=some gs):Region.wanted o (yielded ops a.tmps)=holds gs O:=by
 obtain⟨V,own,hv,h⟩:=h;unfold Cy at hg;unfold Region.wanted;split at hg
 .rename_i e;cases hg;simp[e,holds]
 .rename_i j want e;simp only[e];split at hg
  case h_2=>cases hg
  rename_i t ht;have ni:=h.regs t;have hy:∀v,a.tmps.getD t undef=v->(∀b,v=.bool b->yielded ops a.tmps j=some b)/\(v=undef->yielded ops a.tmps j=none):=by
   intro v hv';unfold yielded;rw[ht];simp only[sB];rw[gp] at hv';cases rl:a.tmps[t]? with
   |none=>rw[rl] at hv';simp at hv';subst hv';exact⟨λb e=>absurd e (by simp[undef]),λ_=>rfl⟩
   |some u=>rw[rl] at hv';simp at hv';subst hv';exact⟨λb e=>by subst e;rfl,λe=>by subst e;rfl⟩
  split at hg
  .rename_i es;cases hg;rw[es] at ni;obtain⟨b,jN,dA⟩:=Rep.bool_inv ni;rw[(hy _ jN).1 b rfl];simp[holds,dA,D.b_bool]
  .rename_i bN es;cases hg;rw[es] at ni;simp only[holds,sv];cases hh:holds bN O with
   |true=>
    obtain⟨b,jN,dA⟩:=Rep.bool_inv (ni.1 hh);rw[(hy _ jN).1 b rfl];unfold holds at hh;rw[hh,dA];simp[D.b_bool]
   |false=>
    rw[(hy _ (ni.2 hh)).2 rfl];unfold holds at hh;rw[hh];simp
  .cases hg
def adC (h:Good C w0 σ0 S O A a w){ops:Array Oper}{o:Oper}(hg:Cy S ops o=some gs)(hj:∀j want t,o.guard=some (j,want)->(ops[j]?).bind (·.dst)=some t->A t):∀g,g∈gs->A g.1:=by
 obtain⟨V,own,hv,h⟩:=h;unfold Cy at hg;split at hg
 .cases hg;simp
 .rename_i j want e;split at hg
  case h_2=>cases hg
  rename_i t ht;have hA:=hj j want t e ht;split at hg
  .cases hg;intro g hm;simp at hm;subst hm;exact hA
  .rename_i bN es;cases hg;intro g hm;rcases cv.1 hm with e'|fG
   .subst e';exact hA
   .exact(h.opts t bN _ es).1 g fG
  .cases hg
def axU (h:Inv C S O V own hv w0 σ0 A a w)(hC:CtxOK C σ0)(hg:holds gs O=true){o:Oper}{r:Sh×List PI}(hr:Nn C S gs dst o.op=some r):eK C S O V hv Z dst a w o r:=by
 unfold Nn at hr;split at hr
 .rename_i x e;exact aiu h hC hg hr (.inl e)
 .rename_i c x y e;exact axT h hC hg hr e
 .rename_i op T x y T' e;exact axG h hC hg hr e
 .rename_i op T x e;exact axW h hC hg hr e
 .rename_i s d x e;exact axI h hC hg hr e
 .rename_i T x e;exact Nk h hC hg hr e
 .rename_i T x i e;exact axK h hC hg hr e
 .rename_i T x i e;exact axL h hC hg hr e
 .rename_i T x i e;exact axN h hC hg hr e
 .rename_i T x i e;exact axO h hC hg hr e
 .rename_i x i e;exact axJ h hC hg hr e
 .rename_i T m k ok e;exact axR h hC hg hr e
 .rename_i T x lo hi mx e;exact axV h hC hg hr e
 .rename_i f a b e;exact axM h hC hg hr e
 .rename_i T ps e;exact axH h hC hg hr e
 .rename_i x e;exact axS h hC hg hr e
 .cases hr;intro O' aq;have:=(XC hg aq).1;cases this
 .rename_i c e;split at hr
  .rename_i x T hc ha ht;refine axP h hC hg hr ?_;rw[e];cases c with|mk callee args argTypes=>
   simp only at hc ha ht;have h1:args=#[x]:=by rw[<-AQ];exact ha
   have h2:argTypes=#[T]:=by rw[<-AQ];exact ht
   rw[hc,h1,h2]
  .rename_i x y hc ha;refine ait (ts:=c.argTypes) h hC hg hr ?_;rw[e];cases c with|mk callee args argTypes=>
   simp only at hc ha;have h1:args=#[x,y]:=by rw[<-AQ];exact ha
   rw[hc,h1];rfl
  .rename_i x y hc ha;refine ait (ts:=c.argTypes) h hC hg hr ?_;rw[e];cases c with|mk callee args argTypes=>
   simp only at hc ha;have h1:args=#[x,y]:=by rw[<-AQ];exact ha
   rw[hc,h1];rfl
  .cases hr
 .cases hr
def aoF (h:Inv C S O V own hv w0 σ0 A a w)(ht:¬A dst)(af:dst<a.tmps.size){T:TypeId}{x:Operand}{r:St×List PI}(hr:vS C S dst T x=some r){o:Oper}(hd:o.dst=some dst)(ho:o.op=.assign x):bV C w0 σ0 Z S O A a w o r:=by
 unfold vS at hr;split at hr
 case h_2=>cases hr
 rename_i v;simp only[az] at hr;obtain⟨t,_,z,hz,hr⟩:=hr;cases hc:j4 t v<;>simp only[hc,zyy,zyx] at hr
 .cases hr
 cases hr;have bK:=(AO (cap:=C.cap) (V:=V) hz hc).1;refine bV.value hd λO' aq=>⟨v,w,by simp[execOp,ho,Act.eval],?_⟩
 have hρ:O'=O.setR dst z.2:=by simp[PI.runs,PI.run,PE.ev] at aq;exact aq.symm
 subst hρ;exact⟨_,_,_,h.setReg ht (s:=.dat z.1) bK af (λ_ _ e=>by cases e)⟩
def anF (h:Inv C S O V own hv w0 σ0 A a w)(hC:CtxOK C σ0)(bh:dJ C)(hΦ:dj C Z){o:Oper}(ht:∀d,o.dst=some d->¬A d/\d<a.tmps.size)(eF:∀g,g∈gs->A g.1)(hg:holds gs O=true){r:St×List PI}
 (hr:core C S gs o=some r):bV C w0 σ0 Z S O A a w o r:=by
 unfold core at hr;split at hr
 .rename_i dst hd;obtain⟨gB,gC⟩:=ht dst hd;split at hr
  .rename_i q hq;cases fH:MW q.1<;>simp only[fH,zyy,zyx] at hr
   .cases hr
   cases hr;have S7:=axU (Z:=Z) h hC hg hq;cases gs with
   |nil=>exact S7.eff h gB gC hd
   |cons g bN=>exact S7.effG h gB gC eF hg hd
  .rename_i SD;clear SD;split at hr
   .rename_i x e
    have mv:∀r,(match z7 C S [] dst x with|some r=>some (S.setR dst r.1,r.2)|none=>vS C S dst o.type x)=some r->bV C w0 σ0 Z S O A a w o r:=by
     intro r hr;split at hr
     .rename_i q hq;cases hr;exact(aiu (Z:=Z) h hC hg hq (.inr e)).eff h gB gC hd
     .exact aoF h gB gC hr hd e
    cases eE:C.fr.any (Nat.beq dst)<;>simp only[eE,zyy,zyx] at hr
    .split at hr
     .rename_i q hq;cases hr;exact aoz h hC gB gC hq hd e
     .exact mv r hr
    .exact mv r hr
   .rename_i T e;exact an6 h gB gC hr hd e
   .rename_i T x e;exact aoa h hC gB gC hr hd e
   .rename_i T n ps e;split at hr
    .exact aoc h hC gB gC hr hd e
    .exact aor h hC gB gC eF hg hr hd e
   .rename_i T l c e;exact aov h hC gB gC hr hd e
   .rename_i T m e;exact aot h gB gC hr hd e
   .rename_i T x e;exact aoB h gB gC hr hd e
   .rename_i T U x e;exact aoe h hC gB gC hr hd e
   .rename_i c e;cases c with|mk callee args argTypes=>
    split at hr
    .rename_i hc;simp only at hc;split at hr
     .rename_i s x T T' ha Tk;simp only at ha Tk;cases hT:Nat.beq T T'<;>simp only[hT,zyy,zyx] at hr
      .cases hr
      have CA:=aD hT;subst CA;refine an8 h hC gB gC hr hd ?_;have h1:args=#[s,x]:=by rw[<-AQ];exact ha
      have h2:argTypes=#[T,T]:=by rw[<-AQ];exact Tk
      rw[e,hc,h1,h2]
     .cases hr
    .rename_i f hc;simp only at hc;split at hr
     .rename_i q hq;cases hr;exact aop h hC bh hΦ gB gC eF hg hq hd (by rw[e,hc])
     .split at hr
      .split at hr
       .rename_i q hq;cases hr;exact aol h hC bh hΦ gB gC hq hd (by rw[e,hc])
       .split at hr
        .rename_i q hq;cases hr;exact aon h hC bh hΦ gB gC hq hd (by rw[e,hc])
        split at hr
        .rename_i q hq;cases hr;exact aoi h hC bh hΦ gB gC hq hd (by rw[e,hc])
        .simp only[aB] at hr;obtain⟨q,hq,rfl⟩:=hr;rw[<-hd];exact acQ h hC bh hΦ ht hq (by rw[e,hc])
      .cases hr
    .rename_i x hnf hc;simp only at hc;split at hr
     .rename_i q hq;cases hr;exact aog h hC bh hΦ gB gC eF hg hq hd (by rw[e,hc])
     .split at hr
      .simp only[aB] at hr;obtain⟨q,hq,rfl⟩:=hr;rw[<-hd];exact acO h hC bh hΦ ht hq (by rw[e,hc])
      .cases hr
    .cases hr
   .rename_i fn first caps e;exact aox h gB gC hr hd e
   .cases hr
 .rename_i hd;split at hr
  .rename_i T x v e;exact aoD h hC hr hd e
  .rename_i T m k v e;exact acS h hC hr hd (.inl e)
  .rename_i T m k v e;exact acS h hC hr hd (.inr e)
  .cases hr;intro O' aq;simp[PI.runs,PI.run,PE.ev,D.bool,D.b] at aq
  .rename_i c e;cases c with|mk callee args argTypes=>
   split at hr
   .rename_i f hc;simp only at hc;simp only[aB] at hr;obtain⟨q,hq,rfl⟩:=hr;rw[<-hd];exact acQ h hC bh hΦ ht hq (by rw[e,hc])
   .rename_i t hc;simp only at hc;simp only[aB] at hr;obtain⟨q,hq,rfl⟩:=hr;rw[<-hd];exact acO h hC bh hΦ ht hq (by rw[e,hc])
   .cases hr
  .cases hr
def anD {g:Nat×Bool}{bN:List (Nat×Bool)}{o:Oper}{r:St×List PI}(hr:core C S (g::bN) o=some r):
 ∃dst S2 s,o.dst=some dst/\r.1=S2.setR dst (.opt (g::bN) s)/\((∃js,S2=S.fzs js)\/∃j,S2=S.newO j .dead)/\(∀gs s',s≠.opt gs s')/\(∀x,o.op≠.assign x)/\(∀T,o.op≠.alloc T)/\∀T x v,o.op≠.store T x v:=by
 unfold core at hr;split at hr
 .rename_i dst hd;split at hr
  .rename_i q hq;cases fH:MW q.1<;>simp only[fH,zyy,zyx] at hr
   .cases hr
   cases hr;refine⟨dst,S,q.1,hd,rfl,.inl ⟨[],rfl⟩,(λgs s' e=>by rw[e] at fH;cases fH),λx e=>?_,λT e=>?_,λT x v e=>?_⟩<;>(rw[e] at hq;simp[Nn] at hq)
  .rename_i SD;clear SD;split at hr
   case h_4=>
        rename_i T n ps e;split at hr
        .rename_i hx;cases hx
        .unfold Ck at hr;split at hr
         case h_2=>cases hr
         simp only[az] at hr;obtain⟨e0,he0,hr⟩:=hr;split at hr
         .cases hr;exact⟨dst,_,.dat (.slice e0.rol),hd,rfl,.inr ⟨dst,rfl⟩,(λ_ _ e=>by cases e),(λx e'=>by rw[e] at e';cases e'),(λx e'=>by rw[e] at e';cases e'),(λ_ _ _ e'=>by rw[e] at e';cases e')⟩
         .cases hr
   case h_9=>
        rename_i c e;split at hr
        .rename_i hx;cases hx
        .rename_i f hc;split at hr
         .rename_i q hq;cases hr;simp only[Cj,az] at hq;obtain⟨s,hs,hq⟩:=hq;split at hq
          case h_2=>cases hq
          simp only[az] at hq;obtain⟨u,hu,hq⟩:=hq;cases cK:Ty.subs u.1 s.args<;>simp only[cK,zyy,zyx] at hq
          .cases hq
          cases hq;refine⟨dst,_,.dat s.res,hd,rfl,?_,(λ_ _ e=>by cases e),(λx e'=>by rw[e] at e';cases e'),(λx e'=>by rw[e] at e';cases e'),(λ_ _ _ e'=>by rw[e] at e';cases e')⟩;left;cases s.res.pure
          .exact⟨_,rfl⟩
          .exact⟨[],rfl⟩
         .cases hr
        .rename_i x hnf hc;have hr:∃q,yN C S (g::bN) dst x c.args.toList=some q/\(q.1.setR dst (uI (g::bN) q.2.1),q.2.2)=r:=by
          split at hr
          .rename_i q hq;cases hr;exact⟨q,hq,rfl⟩
          .split at hr
           all_goals (first|(cases hr;done)|(rename_i hx;cases hx;done)|(rename_i hx _;cases hx;done)|(rename_i hx _ _;cases hx;done)|(rename_i hx;exact absurd hx (by simp)))
         obtain⟨q,hq,rfl⟩:=hr;unfold yN at hq;split at hq
         case h_2=>cases hq
         rename_i aa r0 ee hu0;split at hq
         case h_1=>cases hq
         simp only[az] at hq;obtain⟨u,hu,hq⟩:=hq;cases cK:Ty.subs u.1 aa<;>simp only[cK,zyy,zyx] at hq
         .cases hq
         cases hq;refine⟨dst,_,.dat r0,hd,rfl,?_,(λ_ _ e=>by cases e),(λx e'=>by rw[e] at e';cases e'),(λx e'=>by rw[e] at e';cases e'),(λ_ _ _ e'=>by rw[e] at e';cases e')⟩;left;cases r0.pure
         .exact⟨_,rfl⟩
         .exact⟨[],rfl⟩
        .cases hr
   all_goals (first|(cases hr;done)|(rename_i hx;cases hx;done)|(rename_i hx _;cases hx;done))
 .split at hr
  all_goals (first|(cases hr;done)|(rename_i hx;cases hx;done)|(rename_i hx _;cases hx;done))
def aeM {O ρ1:Env}:∀{l:List (Nat×Bool)},(∀g,g∈l->ρ1.r g.1=O.r g.1)->holds l ρ1=holds l O
 |[],_=>rfl
 |x::l,h=>by
  have ih:=aeM (l:=l) λy hy=>h y (fy _ hy);unfold holds at ih ⊢;simp only[sv];rw[ih,h x (fQ ..)]
def adv:∀(l:List Gh) {S:St} {r:St×List PI},ou C l S=some r->∀t,t∉r.2.flatMap PI.modR
 |[],S,r,hr=>by simp only[ou,bj] at hr;subst hr;simp
 |g::l,S,r,hr=>by
  simp only[ou,az,aB] at hr;obtain⟨q,hq,q2,ie,rfl⟩:=hr;have ih:=adv l ie;have hg:∀t,t∉q.2.flatMap PI.modR:=by
   cases g with
   |fz j=>simp only[Gh.run,bj] at hq;subst hq;simp
   |fbox b=>
    simp only[Gh.run,FB] at hq;split at hq
    case h_2=>cases hq
    simp only[az] at hq;obtain⟨x,hx,hq⟩:=hq;rename_i ag shs eo;cases ag<;>simp only[zyy,zyx] at hq
    .split at hq
     .cases hq;simp[PI.modR]
     .cases hq
    .cases hq;simp[PI.modR]
   |rereg t j=>
    simp only[Gh.run,ID] at hq;split at hq
    .rename_i j' ver es;cases hb:(Nat.beq ver (S.ver j')&&p6 (S.o j')&& !Nat.beq j' j)<;>simp only[hb,zyy,zyx] at hq<;>cases hq<;>simp[PI.modR]
    .cases hq;simp
   |recell b i j=>cases hq
   |home b i j T=>
    simp only[Gh.run,Gg] at hq;split at hq
    .split at hq
     .cases hb:(!Nat.beq b j)<;>simp only[hb,zyy,zyx] at hq<;>cases hq<;>simp[PI.modR]
     .cases hq;simp
    .cases hq;simp
  intro t hm;rw[List.flatMap_append,dZ] at hm;exact hm.elim (hg t) (ih t)
def ans (h:Good C w0 σ0 S O A a w)(hC:CtxOK C σ0)(bh:dJ C)(hΦ:dj C Z){ops:Array Oper}{o:Oper}(ht:∀d,o.dst=some d->¬A d/\d<a.tmps.size)
 (hj:∀j want t,o.guard=some (j,want)->(ops[j]?).bind (·.dst)=some t->A t) {r:St×List PI} (hr:La C S ops o=some r) {O':Env} (aq:PI.runs Z r.2 O=some O')
 {K:Act->World->Prop} {Q:Exit->Act->World->Prop} (hK:∀a' w',Good C w0 σ0 r.1 O' (λu=>A u\/o.dst=some u) a' w'->a'.tmps.size=a.tmps.size->K a' w'):
 if Region.wanted o (yielded ops a.tmps) then o.wp C.P a w K Q else K (a.put o.dst undef) w:=by
 simp only[La,az] at hr;obtain⟨gs,eF,r1,kS,r2,ng,r3,zo,hr⟩:=hr;have CK:=adC h eF hj;rw[adD h eF];cases hc:Lu gs o.dst r2.2<;>simp only[hc,zyy,zyx] at hr
 .cases hr
 cases hr;simp only[tY,az] at aq;obtain⟨ρ2,⟨ρ1,hρ1,hρ2⟩,hρ3⟩:=aq;have h1:=RI _ h kS hρ1;have cC:=h1;obtain⟨σ1,dH,aL,i1⟩:=cC;have LZ:holds gs ρ1=holds gs O:=by
  cases gs with
  |nil=>rfl
  |cons g bN=>
   have hb:=(PI.runs_but hρ1).r
   have:∀x,x∈(g::bN)->ρ1.r x.1=O.r x.1:=λx hm=>hb x.1 (by
        intro cV;exact adv _ kS x.1 cV)
   exact aeM this
 cases hh:holds gs O with
 |true=>
  simp only[if_true];rw[hh] at LZ;refine anF i1 hC bh hΦ ht CK LZ ng ρ2 hρ2 K Q (λa' w' lL aJ=>?_);exact hK a' w' (RI (r:=r3) _ lL zo hρ3) aJ
 |false=>
  simp only[AT,if_false];rw[hh] at LZ;cases gs with
  |nil=>simp[holds] at hh
  |cons g bN=>
   obtain⟨dst,S2,s,hd,hS,vZ,hns,n1,n2,n3⟩:=anD ng;obtain⟨t1,t2⟩:=ht dst hd;have ru:post C r2.1 o=[]:=by
        unfold post;split
        .rename_i x t e _;exact absurd e (n1 x)
        .rename_i T t e _;exact absurd e (n2 T)
        .rename_i T x v e;exact absurd e (n3 T x v)
        .rfl
   rw[ru] at zo;simp only[ou,bj] at zo;subst zo;have:=vq hρ3;subst this;obtain⟨σ2,jC,i2⟩:∃σ2 jC,Inv C S2 ρ1 σ2 jC aL w0 σ0 A a w:=by
        rcases vZ with⟨js,rfl⟩|⟨j,rfl⟩
        .obtain⟨σ2,jC,_,i2⟩:=Inv.fzs js i1;exact⟨σ2,jC,i2⟩
        .exact⟨σ1,dH,i1.kill j⟩
   have Gi:=i2.passed t1 t2 CK LZ (s:=s) hns (O'.r dst);have hρe:ρ1.setR dst (O'.r dst)=O':=by
        have hb:=PI.runs_but hρ2;simp only[Lu,hd] at hc;unfold ais at hc;rw[cM] at hc
        have e1:∀t,t≠dst->O'.r t=ρ1.r t:=λt ay=>hb.r t (λhm=>by
         obtain⟨p,hp,wx⟩:=xV.1 hm;have:=hc p hp;simp only[au] at this;have:=cM.1 this.1 t wx;exact ay (aD this).symm)
        have e2:∀t,O'.o t=ρ1.o t:=λt=>hb.o t (λhm=>by
         obtain⟨p,hp,wx⟩:=xV.1 hm;have:=hc p hp;simp only[au] at this;have h9:=abe.1 this.2;rw[h9] at wx;cases wx)
        have r1:bZ ρ1.r dst (O'.r dst)=O'.r:=by
         funext t;rw[fq];split
         .rename_i e;subst e;rfl
         .rename_i ay;exact(e1 t ay).symm
        have r2:ρ1.o=O'.o:=funext λt=>(e2 t).symm;cases O' with|mk a b=>simp only[Env.setR] at r1 r2 ⊢;rw[r1,r2]
   rw[hρe] at Gi;have lI:(λu=>A u\/o.dst=some u)=(λu=>A u\/u=dst):=by funext u;rw[hd];simp[eq_comm]
   rw[lI] at hK;rw[hd];refine hK _ _ ?_ (size_put _ _ _);simp only;rw[hS];exact⟨_,_,_,Gi⟩
def anu (h:Good C w0 σ0 S O A a w)(hC:CtxOK C σ0)(bh:dJ C)(hΦ:dj C Z){ops:Array Oper}{o:Oper}(ht:∀d,o.dst=some d->¬A d/\d<a.tmps.size)
 (hj:∀j want t,o.guard=some (j,want)->(ops[j]?).bind (·.dst)=some t->A t) {r:St×List PI} (hr:E9 C S ops o=some r) {O':Env} (aq:PI.runs Z r.2 O=some O')
 {K:Act->World->Prop} {Q:Exit->Act->World->Prop} (hK:∀a' w',Good C w0 σ0 r.1 O' (λu=>A u\/o.dst=some u) a' w'->a'.tmps.size=a.tmps.size->K a' w'):
 if Region.wanted o (yielded ops a.tmps) then o.wp C.P a w K Q else K (a.put o.dst undef) w:=by
 unfold E9 at hr;split at hr
 .rename_i q hq;cases hr;exact ans h hC bh hΦ ht hj hq aq hK
 .cases hr;simp[PI.runs,PI.run,IS,PE.ev,D.b_bool] at aq
end
end Cx
