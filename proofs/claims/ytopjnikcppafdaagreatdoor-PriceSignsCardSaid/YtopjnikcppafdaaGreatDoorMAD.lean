/-
  Calls.
-/
import Derived.Test.YtopjnikcppafdaaGreatDoorMAC
set_option linter.defProp false
set_option linter.unusedSimpArgs false
set_option linter.unusedVariables false
noncomputable section
namespace Cx
open Go Go.RowKit
open Classical in
def Im.noM (V:Im):Im:=⟨V.c,λk=>if V.m k=some cC then none else V.m k⟩
def Rep.noM {cap:Nat->Option CSig}{V:Im}{t:Ty}{v:Value}{d:D}(h:Rep cap V t v d):Rep cap V.noM t v d:=by
 induction h with
 |int k n h1 h2=>exact .int k n h1 h2
 |bool b=>exact .bool b
 |str s h=>exact .str s h
 |agg ts vs ds h1 h2 _ ho ih=>exact .agg ts vs ds h1 h2 ih ho
 |tup ts vs ds h1 h2 _ ih=>exact .tup ts vs ds h1 h2 ih
 |nil e=>exact .nil e
 |emp e a=>exact .emp e a
 |nils e=>exact .nils e
 |nsl0 e=>exact .nsl0 e
 |nsl e k o n c xs _ hx ih=>exact .nsl e k o n c xs ih hx
 |slice e k o n c xs vs hn hc hm _ hv hz ih=>
  refine .slice e k o n c xs vs hn hc hm ih hv λe=>?_;have:=hz e;have au:V.m k≠some cC:=λe'=>by rw[this] at e';exact xd (ur e')
  simp only[Im.noM,if_neg au,this]
 |mapnil kt et=>exact .mapnil kt et
 |map kt et r ij es hm hl hx hk _ kX Gs=>
  refine .map kt et r ij es ?_ hl hx kX Gs;have au:V.m r≠some cC:=λe=>by rw[hm] at e;cases e;exact GI hl hk rfl
  simp only[Im.noM,if_neg au,hm]
 |ref t k o v d _ hv ih=>exact .ref t k o v d ih hv
 |fn f cs vs ds hc h1 h2 _ ih=>exact .fn f cs vs ds hc h1 h2 ih
 |fnnil aa r=>exact .fnnil aa r
def Im.plus (V τ:Im):Im:=⟨λk o=>(V.c k o).or (τ.c k o),λk=>(V.m k).or (τ.m k)⟩
def Im.plus_le1 (V τ:Im):V.le (V.plus τ):=⟨λk o v h=>by simp[Im.plus,h],λk v h=>by simp[Im.plus,h]⟩
def qj.det {w:World}{k:Nat}{x y:List (Value×Value)}(h:qj w k x)(g:qj w k y):x=y:=by
 rcases h with⟨_,a,c,h1,h2⟩|⟨h1,h2⟩|⟨h1,_,_,_,h2⟩<;>rcases g with⟨_,a',c',g1,g2⟩|⟨g1,g2⟩|⟨g1,_,_,_,g2⟩
 .rw[h1] at g1;cases g1;rw[<-h2,<-g2]
 .rw[h1] at g2;cases g2
 .rw[h1] at g2;cases g2
 .rw[h2] at g1;cases g1
 .rw[h1,g1]
 .rw[h2] at g2;cases g2
 .rw[h2] at g1;cases g1
 .rw[h2] at g2;cases g2
 .rw[h1,g1]
def Im.plus_le2 {V τ:Im}{w:World}(h:V.ok w)(g:τ.ok w):τ.le (V.plus τ):=by
 refine⟨λk o v e=>?_,λk v e=>?_⟩
 .show(V.c k o).or (τ.c k o)=some v;cases hc:V.c k o with
  |none=>simpa using e
  |some u=>have:=(h.c k o u hc).symm.trans (g.c k o v e);simpa using this
 .show(V.m k).or (τ.m k)=some v;cases hc:V.m k with
  |none=>simpa using e
  |some u=>simpa using(h.m k u hc).det (g.m k v e)
def Im.plus_ok {V τ:Im}{w:World}(h:V.ok w)(g:τ.ok w):(V.plus τ).ok w:=by
 refine⟨λk o v e=>?_,λk v e=>?_,λk o v e=>?_⟩
 .change (V.c k o).or (τ.c k o)=some v at e;cases hc:V.c k o with
  |none=>rw[hc] at e;exact g.c k o v (by simpa using e)
  |some u=>rw[hc] at e;simp at e;subst e;exact h.c k o u hc
 .change (V.m k).or (τ.m k)=some v at e;cases hc:V.m k with
  |none=>rw[hc] at e;exact g.m k v (by simpa using e)
  |some u=>rw[hc] at e;simp at e;subst e;exact h.m k u hc
 .change (V.c k o).or (τ.c k o)=some _ at e;cases hc:V.c k o with
  |none=>rw[hc] at e;exact g.f k o v (by simpa using e)
  |some u=>rw[hc] at e;simp at e;subst e;exact h.f k o v hc
def Im.plus_c {V τ:Im}{k o:Nat}{v:Value}(h:(V.plus τ).c k o=some v):V.c k o=some v\/τ.c k o=some v:=by
 change (V.c k o).or (τ.c k o)=some v at h;cases hc:V.c k o with
 |none=>rw[hc] at h;exact .inr (by simpa using h)
 |some u=>rw[hc] at h;exact .inl (by simpa using h)
def Im.plus_m {V τ:Im}{k:Nat}{v:List (Value×Value)}(h:(V.plus τ).m k=some v):V.m k=some v\/τ.m k=some v:=by
 change (V.m k).or (τ.m k)=some v at h;cases hc:V.m k with
 |none=>rw[hc] at h;exact .inr (by simpa using h)
 |some u=>rw[hc] at h;exact .inl (by simpa using h)
def Ty.pureT:Ty->Bool
 |.int _|.bool|.str|.nils _=>true
 |_=>false
def Ty.pure:Ty->Bool
 |.tup ts=>ts.all Ty.pureT
 |.agg ts=>ts.all Ty.pureT
 |t=>Ty.pureT t
def Rep.pureT {cap:Nat->Option CSig}{V τ:Im}{t:Ty}{v:Value}{d:D}(h:Rep cap V t v d)(hp:t.pureT=true):Rep cap τ t v d:=by
 cases h<;>simp[Ty.pureT] at hp<;>constructor<;>assumption
def Rep.pure {cap:Nat->Option CSig}{V τ:Im}{t:Ty}{v:Value}{d:D}(h:Rep cap V t v d)(hp:t.pure=true):Rep cap τ t v d:=by
 cases h with
 |agg ts vs ds h1 h2 h ho=>exact .agg ts vs ds h1 h2 (λi t hi=>(h i t hi).pureT (cN.1 hp t (kh hi))) ho
 |tup ts vs ds h1 h2 h=>exact .tup ts vs ds h1 h2 (λi t hi=>(h i t hi).pureT (cN.1 hp t (kh hi)))
 |int k n h1 h2=>exact .int k n h1 h2
 |bool b=>exact .bool b
 |str s h=>exact .str s h
 |nils e=>exact .nils e
 |_=>simp[Ty.pure,Ty.pureT] at hp
def aaM (C:Ctx)(V':Im)(B:Nat)(w':World)(ow:Nat->Option Nat)(i:Nat):RC->Value->D->Prop
 |.dat t,v,d=>t.one=true/\Rep C.cap V' t v d
 |.row T e,v,d=>∃cells xs,d=.list xs/\w'.ownsRow B T e.size v xs.length cells/\dh C.cap V' e cells xs/\∀k,v.ownBlock=some k->ow k=some i
def lx (C:Ctx)(s:Sig)(V':Im)(w w':World)(v:Value)(d:D):Prop:=
 match s.mode with
 |.dat=>Rep C.cap V' s.res v d
 |.it _=>True
 |.ob ..=>True
 |.rows l=>∃(vs:List Value) (ds:List D) (ow:Nat->Option Nat),v=.agg vs.toArray/\d=.agg ds/\vs.length=l.length/\ds.length=l.length/\(∀(i:Nat) (c:RC),l[i]?=some c->aaM C V' w.heap.size w' ow i c (vs.getD i undef) (ds.getD i .none))/\
   ∀k i,ow k=some i->w.heap.size<=k/\k<w'.heap.size/\(∀o,V'.c k o=none)/\V'.m k=none
 |.row T e=>∃cells xs,d=.list xs/\w'.ownsRow w.heap.size T e.size v xs.length cells/\dh C.cap V' e cells xs/\∀k,v.ownBlock=some k->(∀o,V'.c k o=none)/\V'.m k=none
def qL (C:Ctx)(V:Im)(ts:List Ty)(args:List Value)(ds:List D):Prop:=
 args.length=ts.length/\ds.length=ts.length/\∀(i:Nat) (t:Ty),ts[i]?=some t->Rep C.cap V t (args.getD i undef) (ds.getD i .none)
def ff (C:Ctx)(f:Nat)(s:Sig)(ds:List D)(d:D):Prop:=
 ∀(V:Im) (w:World) (args:Array Value),V.ok w->CtxOK C V->qL C V s.args args.toList ds->
  Calls C.P f args w λe w'=>∃v V',e=.returned v/\V.le V'/\V'.ok w'/\Below w.heap.size w w'/\
   (∀k o x,V'.c k o=some x->V.c k o=some x\/w.heap.size<=k)/\(∀k x,V'.m k=some x->V.m k=some x\/w.heap.size<=k)/\lx C s V' w w' v d
def ei:List (Nat×Ob)->Nat->Ob
 |[],_=>.dead
 |x::l,j=>bif Nat.beq x.1 j then x.2 else ei l j
def oV:List (Nat×Ob)->List D->Nat->D
 |x::l,d::ds,j=>bif Nat.beq x.1 j then d else oV l ds j
 |_,_,_=>.none
def fi (shs:List Sh)(obs:List (Nat×Ob)):St:=⟨λt=>shs.getD t .none,λj=>ei obs j,λ_=>0⟩
def lQ (obs:List (Nat×Ob))(ds os:List D):Env:=⟨λt=>ds.getD t .none,λj=>oV obs os j⟩
def qg:Sh->Bool
 |.dat _=>true
 |_=>false
def rQ:Mode->Bool
 |.ob ..=>true
 |_=>false
def vc:Sh->Bool
 |.none|.dat _|.obj ..|.ptr ..|.fclo ..=>true
 |_=>false
def Nd:Ob->Bool
 |.row ..|.mp ..=>true
 |.box _ shs=>shs.all vc
 |_=>false
def zo (shs:List Sh)(obs:List (Nat×Ob)):Bool:=shs.all vc&&obs.all λx=>Nd x.2
def ME:List Sh->List (Nat×Ob)->Option (TypeId×Ty×List Ty)
 |.obj 0 0::l,[(0,.row T e),(1,.tr)]=>(abE l).map λts=>(T,e,ts)
 |_,_=>none
def xG (C:Ctx)(f:Nat)(T:TypeId)(e:Ty)(ts:List Ty)(ds:List D)(d:D):Prop:=
 ∀(N:Nat) (V:Im) (w:World) (v:Value) (args:List Value) (xs:List D) (cells:List Value) (ds':List D),ds=.list xs::ds'->V.ok w->CtxOK C V->N<=w.heap.size->w.ownsRow N T e.size v xs.length cells->dh C.cap V e cells xs->
  (∀k,v.ownBlock=some k->k<w.heap.size/\(∀o,V.c k o=none)/\V.m k=none)->qL C V ts args ds'->
  Calls C.P f (v::args).toArray w λx w'=>∃v' fc dj,x=.returned v'/\d=.list fc/\Below N w w'/\(∀k,k<w.heap.size->v.ownBlock≠some k->w'.heap[k]?=w.heap[k]?)/\
   w'.ownsRow N T e.size v' fc.length dj/\dh C.cap V e dj fc/\∀k,v'.ownBlock=some k->(v.ownBlock=some k\/w.heap.size<=k)/\k<w'.heap.size
def uk (C:Ctx)(f:Nat)(shs:List Sh)(obs:List (Nat×Ob))(res:Ty)(ds:List D)(d:D):Prop:=
 ∀(N:Nat) (V:Im) (own:Nat->Option Nat) (hv:Nat->Value) (w:World) (args:Array Value) (cx:Nat->Prop),zo shs obs=true->V.ok w->CtxOK C V->(∀k,V.m k≠some cC)->N<=w.heap.size->args.size=shs.length->
  (∀k j,own k=some j->N<=k/\k<w.heap.size/\(∀o,V.c k o=none)/\V.m k=none)->
  (∀k,cx k->k<w.heap.size/\own k=none/\(∀o,V.c k o=none)/\V.m k=none)->
  (∀t,aG C (fi shs obs) (lQ obs ds (ds.drop shs.length)) V hv (shs.getD t .none) (args.getD t undef) (ds.getD t .none))->
  (∀j,bY C (fi shs obs) (lQ obs ds (ds.drop shs.length)) V own hv w N j (ei obs j))->
  Calls C.P f args w λe w'=>∃v V' own' hv' dr os,e=.returned v/\d=.tup (dr::os)/\os.length=obs.length/\V.le V'/\V'.ok w'/\Below 0 w w'/\
   (∀k,k<w.heap.size->own k=none->w'.heap[k]?=w.heap[k]?)/\
   (∀k o x,V'.c k o=some x->(V.c k o=some x\/N<=k)/\¬cx k)/\(∀k x,V'.m k=some x->(V.m k=some x\/N<=k)/\¬cx k)/\(∀k,V'.m k=some cC->N<=k->k<w.heap.size->own k≠none)/\
   (∀k j,own' k=some j->N<=k/\k<w'.heap.size/\(∀o,V'.c k o=none)/\V'.m k=none/\(k<w.heap.size->own k≠none))/\
   (∀(t:Nat) (sh:Sh),shs[t]?=some sh->qg sh=false->aG C (fi shs obs) (lQ obs ds os) V' hv' sh (args.getD t undef) (ds.getD t .none))/\
   (∀j,bY C (fi shs obs) (lQ obs ds os) V' own' hv' w' N j (ei obs j))/\Rep C.cap V' res v dr
def aG.ctx {C C':Ctx}(eU:C'.cap=C.cap){S:St}{O:Env}{V:Im}{hv:Nat->Value}{s:Sh}(hp:vc s=true){v:Value}{d:D}(h:aG C S O V hv s v d):aG C' S O V hv s v d:=by
 cases s with
 |dat t=>show Rep C'.cap V t v d;rw[eU];exact h
 |opt gs s=>cases hp
 |eptr j ver a b=>cases hp
 |yv=>cases hp
 |agg l=>cases hp
 |_=>exact h
def bY.ctx {C C':Ctx}(eU:C'.cap=C.cap){S:St}{O:Env}{V:Im}{own:Nat->Option Nat}{hv:Nat->Value}{w:World}{N j:Nat}{ob:Ob}(hp:Nd ob=true\/ob=.dead)(h:bY C S O V own hv w N j ob):bY C' S O V own hv w N j ob:=by
 rcases hp with hp|rfl
 .cases ob with
  |row T e=>obtain⟨cells,xs,h1,h2,h3,h4⟩:=h;exact⟨cells,xs,h1,h2,by rw[eU];exact h3,h4⟩
  |mp kt et=>obtain⟨k,arr,clock,es,h1,h2,h3,h4,h5,h6,h7⟩:=h;exact⟨k,arr,clock,es,h1,h2,h3,h4,h5,h6,by rw[eU];exact h7⟩
  |box ag shs=>
   obtain⟨k,cs,T,ds,h1,h2,h3,h4,h5,h6,h7⟩:=h;exact⟨k,cs,T,ds,h1,h2,h3,h4,h5,h6,λi s hs=>⟨(h7 i s hs).1,(h7 i s hs).2.ctx eU (cN.1 hp s (kh hs))⟩⟩
  |_=>cases hp
 .trivial
def ae3 {obs:List (Nat×Ob)}(h:(obs.all λx=>Nd x.2)=true)(j:Nat):Nd (ei obs j)=true\/ei obs j=.dead:=by
 induction obs with
 |nil=>exact .inr rfl
 |cons x l ih=>
  simp only[sJ,ao] at h;simp only[ei];cases hb:Nat.beq x.1 j
  .exact ih h.2
  .exact .inl h.1
def uk.ctx {C C':Ctx}{f:Nat}{shs:List Sh}{obs:List (Nat×Ob)}{res:Ty}{ds:List D}{d:D}(h:uk C f shs obs res ds d)(hP:C'.P=C.P)(eU:C'.cap=C.cap)(tj:C'.glob=C.glob):uk C' f shs obs res ds d:=by
 intro N V own hv w args cx hp ar hC bo hN aI bp dR h1 h2;have aV:=hp;simp only[zo,ao] at aV;have tw:∀t s,shs[t]?=some s->vc s=true:=λt s hs=>cN.1 aV.1 s (kh hs);have hC':CtxOK C V:=⟨λg x hx=>by have:=hC.glob g x (by rw[tj];exact hx);rwa [eU] at this,λg x hx=>hC.mg g x (by rw[tj];exact hx)⟩
 have:=h N V own hv w args cx hp ar hC' bo hN aI bp dR (λt=>by
  cases hs:shs[t]? with
  |none=>rw[aE,hs];trivial
  |some s=>have:=h1 t;rw[aE,hs] at this ⊢;exact this.ctx eU.symm (tw t s hs)) (λj=>(h2 j).ctx eU.symm (ae3 aV.2 j))
 rw[hP];refine this.mono λe w' hh=>?_;obtain⟨v,V',own',hv',dr,os,g1,g2,g3,g4,g5,g6,g7,g8,g9,g10,g11,g12,g13,g14⟩:=hh;exact⟨v,V',own',hv',dr,os,g1,g2,g3,g4,g5,g6,g7,g8,g9,g10,g11,λt sh hs hd=>(g12 t sh hs hd).ctx eU (tw t sh hs),λj=>(g13 j).ctx eU (ae3 aV.2 j),by rw[eU];exact g14⟩
def dh.cap {c c':Nat->Option CSig}(hc:c'=c){V:Im}{e:Ty}{cells:List Value}{xs:List D}(h:dh c V e cells xs):dh c' V e cells xs:=hc▸h
def xG.ctx {C C':Ctx}{f:Nat}{T:TypeId}{e:Ty}{ts:List Ty}{ds:List D}{d:D}(h:xG C f T e ts ds d)(hP:C'.P=C.P)(eU:C'.cap=C.cap)(tj:C'.glob=C.glob):xG C' f T e ts ds d:=by
 intro N V w v args xs cells ds' h1 h2 h3 h4 h5 h6 h7 h8;rw[hP];refine(h N V w v args xs cells ds' h1 h2 ⟨λg x hx=>by have:=h3.glob g x (by rw[tj];exact hx);rwa [eU] at this,λg x hx=>h3.mg g x (by rw[tj];exact hx)⟩ h4 h5 (h6.cap eU.symm) h7 ⟨h8.1,h8.2.1,λi t hi=>by have:=h8.2.2 i t hi;rwa [eU] at this⟩).mono λx w' hh=>?_;obtain⟨v',fc,dj,g1,g2,g3,g4,g5,g6,g7⟩:=hh;exact⟨v',fc,dj,g1,g2,g3,g4,g5,g6.cap eU,g7⟩
def ej (C:Ctx)(f:Nat)(shs:List Sh)(obs:List (Nat×Ob))(res:Ty)(ds:List D)(d:D):Prop:=
 match ME shs obs with
 |some m=>xG C f m.1 m.2.1 m.2.2 ds d
 |none=>uk C f shs obs res ds d
def ej.ctx {C C':Ctx}{f:Nat}{shs:List Sh}{obs:List (Nat×Ob)}{res:Ty}{ds:List D}{d:D}(h:ej C f shs obs res ds d)(hP:C'.P=C.P)(eU:C'.cap=C.cap)(tj:C'.glob=C.glob):ej C' f shs obs res ds d:=by
 unfold ej at h ⊢;split at h
 .exact xG.ctx h hP eU tj
 .exact uk.ctx h hP eU tj
def afv {shs:List Sh}{obs:List (Nat×Ob)}(h:∀x,x∈obs->x.2≠.tr):ME shs obs=none:=by
 unfold ME;split
 .exact absurd rfl (h (1,.tr) (by simp))
 .rfl
def ej.of {C:Ctx}{f:Nat}{shs:List Sh}{obs:List (Nat×Ob)}{res:Ty}{ds:List D}{d:D}(ht:∀x,x∈obs->x.2≠.tr)(h:uk C f shs obs res ds d):ej C f shs obs res ds d:=by
 unfold ej;rw[afv ht];exact h
def ej.plain {C:Ctx}{f:Nat}{shs:List Sh}{obs:List (Nat×Ob)}{res:Ty}{ds:List D}{d:D}(hp:zo shs obs=true)(h:ej C f shs obs res ds d):uk C f shs obs res ds d:=by
 unfold ej at h;rw[afv λx hx e=>?_] at h
 .exact h
 .simp only[zo,ao] at hp;have:=cN.1 hp.2 x hx;rw[e] at this;cases this
def du (C:Ctx)(Z:aS):Prop:=∀f ds d,Z f ds=some d->∀s,C.sig f=some s->(rQ s.mode=false->ff C f s ds d)/\∀shs obs,s.mode=.ob shs obs->ej C f shs obs s.res ds d
def oS:List Ty->Ty->Option (List Ty)
 |[.fn ys .bool],.tup []=>some ys
 |_,_=>none
def dN (C:Ctx):Prop:=(∀f cs,C.cap f=some cs->oS cs.args cs.res=none->C.sig f=some ⟨cs.args++cs.caps,cs.res,.dat⟩)/\∀f s,C.sig f=some s->∃fn,C.P.funcs[f]?=some fn/\fn.body.isSome=true/\(fn.name== "runtime.NumGoroutine")=false
def Jj (S:St):List AgC->List Nat
 |[]=>[]
 |.obj j ver::l=>bif Nat.beq ver (S.ver j)&&lM (S.o j) then j::Jj S l else Jj S l
 |_::l=>Jj S l
def dq (S:St)(gs:List (Nat×Bool)):List Operand->List Nat
 |[]=>[]
 |x::xs=>
  match gL S gs x with
  |.obj j ver=>bif Nat.beq ver (S.ver j)&&lM (S.o j) then j::dq S gs xs else dq S gs xs
  |.agg l=>Jj S l++dq S gs xs
  |_=>dq S gs xs
def uK (gs:List (Nat×Bool))(s:Sh):Sh:=
 match gs with
 |[]=>s
 |_=>.opt gs s
def St.fzs (S:St)(js:List Nat):St:=js.foldl St.fz S
def mG:List RC->List Ty
 |[]=>[]
 |.dat t::l=>t::mG l
 |.row _ e::l=>.slice e.rol::mG l
def QX (fr:List Nat)(dst:Nat)(s:Sig):Option Sig:=
 match s.mode with
 |.rows l=>bif !(fr.any (Nat.beq (2000000+dst)))&&Ty.beq s.res (.agg (mG l)) then some {s with mode:=.dat} else some s
 |_=>some s
def NS:∀{l:List RC} {i:Nat} {t:Ty},(mG l)[i]?=some t->(l[i]?=some (.dat t))\/∃T e,l[i]?=some (.row T e)/\t=.slice e.rol
 |[],i,t,h=>by simp[mG] at h
 |.dat u::l,0,t,h=>by simp[mG] at h;subst h;exact .inl rfl
 |.row T e::l,0,t,h=>by simp[mG] at h;exact .inr ⟨T,e,rfl,h.symm⟩
 |.dat u::l,i+1,t,h=>by simpa using NS (l:=l) (i:=i) (by simpa [mG] using h)
 |.row T e::l,i+1,t,h=>by simpa using NS (l:=l) (i:=i) (by simpa [mG] using h)
def VK:∀(l:List RC),(mG l).length=l.length
 |[]=>rfl
 |.dat _::l=>by simp[mG,VK l]
 |.row ..::l=>by simp[mG,VK l]
def ff.asDat {C:Ctx}{f:Nat}{s:Sig}{ds:List D}{d:D}{l:List RC}(hm:s.mode=.rows l)(hr:s.res=.agg (mG l))(h:ff C f s ds d):ff C f {s with mode:=.dat} ds d:=by
 intro V w args h1 h2 h3;refine(h V w args h1 h2 h3).mono λe w' hh=>?_;obtain⟨v,V',rfl,hle,ar,hb,dp,cQ,fX⟩:=hh;simp only[lx,hm] at fX;obtain⟨vs,ds,ow,rfl,rfl,l1,l2,Ck,rM⟩:=fX
 have hex:∀i,∃cs:List Value,∀T e,l[i]?=some (.row T e)->∃xs,ds.getD i .none=.list xs/\w'.ownsRow w.heap.size T e.size (vs.getD i undef) xs.length cs/\dh C.cap V' e cs xs/\∀k,(vs.getD i undef).ownBlock=some k->ow k=some i:=λi=>by
  cases hl:l[i]? with
  |none=>exact⟨[],λ_ _ h=>by cases h⟩
  |some c=>
   cases c with
   |dat t=>exact⟨[],λ_ _ h=>by cases h⟩
   |row T e=>
    obtain⟨cs,xs,g1,g2,g3,g4⟩:=Ck i _ hl;exact⟨cs,λT' e' h=>by cases h;exact⟨xs,g1,g2,g3,g4⟩⟩
 let cs:Nat->List Value:=λi=>Classical.choose (hex i)
 have cH:∀i T e,l[i]?=some (.row T e)->∃xs,ds.getD i .none=.list xs/\w'.ownsRow w.heap.size T e.size (vs.getD i undef) xs.length (cs i)/\dh C.cap V' e (cs i) xs/\∀k,(vs.getD i undef).ownBlock=some k->ow k=some i:=λi=>aaj (hex i)
 let rR:Nat->Nat->Bool:=λi k=>decide ((vs.getD i undef).ownBlock=some k)&&(match l[i]? with|some (.row ..)=>true|_=>false)
 let τ:Im:={c:=λk o=>match ow k with|some i=>(bif rR i k then(cs i)[o]? else none)|none=>V'.c k o,m:=λk=>match ow k with|some i=>(bif rR i k then some mH else none)|none=>V'.m k}
 have iI:V'.le τ:=by
  refine⟨λk o x hx=>?_,λk x hx=>?_⟩
  .cases hk:ow k with
   |none=>simp only[τ,hk];exact hx
   |some i=>have:=(rM k i hk).2.2.1 o;rw[this] at hx;cases hx
  .cases hk:ow k with
   |none=>simp only[τ,hk];exact hx
   |some i=>have:=(rM k i hk).2.2.2;rw[this] at hx;cases hx
 have cW:∀i k,rR i k=true->∃T e,l[i]?=some (.row T e)/\(vs.getD i undef).ownBlock=some k:=λi k hk=>by
  simp only[rR,ao,decide_eq_true_eq] at hk;obtain⟨bD,cE⟩:=hk;split at cE
  .rename_i T e hl;exact⟨T,e,hl,bD⟩
  .cases cE
 refine⟨_,τ,rfl,hle.trans iI,⟨λk o x hx=>?_,λk x hx=>?_,λk o x hx=>?_⟩,hb,λk o x hx=>?_,λk x hx=>?_,?_⟩
 .simp only[τ] at hx;split at hx
  .rename_i i hi;cases hr:rR i k with
   |false=>rw[hr] at hx;cases hx
   |true=>
    rw[hr,zyy] at hx;obtain⟨T,e,hl,ja⟩:=cW i k hr;obtain⟨xs,g1,g2,g3,g4⟩:=cH i T e hl;have:=g2.cells ja o x hx;rw[sO] at this;simpa using this
  .exact ar.c k o x hx
 .simp only[τ] at hx;split at hx
  .rename_i i hi;cases hr:rR i k with
   |false=>rw[hr] at hx;cases hx
   |true=>
    rw[hr,zyy] at hx;cases hx;obtain⟨T,e,hl,ja⟩:=cW i k hr;obtain⟨xs,g1,g2,g3,g4⟩:=cH i T e hl;obtain⟨QU,T',fz,e'⟩:=aht g2 ja;exact .inr (.inr ⟨rfl,QU,T',fz,e'⟩)
  .exact ar.m k x hx
 .simp only[τ] at hx;split at hx
  .rename_i i hi;cases hr:rR i k with
   |false=>rw[hr] at hx;cases hx
   |true=>
    obtain⟨T,e,hl,ja⟩:=cW i k hr;obtain⟨xs,g1,g2,g3,g4⟩:=cH i T e hl;exact .inr (ahu g2 ja o)
  .exact ar.f k o x hx
 .simp only[τ] at hx;split at hx
  .rename_i i hi;exact .inr (rM k i hi).1
  .exact dp k o x hx
 .simp only[τ] at hx;split at hx
  .rename_i i hi;exact .inr (rM k i hi).1
  .exact cQ k x hx
 .simp only[lx,hr];have hlen:=VK l;refine .agg (mG l) vs ds (by omega) (by omega) (λi t hi=>?_) (λi t hi=>?_)
  .rcases NS hi with hl|⟨T,e,hl,rfl⟩
   .exact(Ck i _ hl).2.mono iI
   .obtain⟨xs,g1,g2,⟨us,g3,g4⟩,g5⟩:=cH i T e hl;rw[g1];rcases g2.2 with⟨e1,e2⟩|⟨g,cap,cur,e1,e2,e3,e4,e5,e6,e7⟩
    .rw[e1];have:xs=[]:=Pl e2;subst this;exact .nil _
    .rw[e1];have ja:(vs.getD i undef).ownBlock=some g:=by rw[e1];rfl
     refine .slice e.rol g 0 xs.length cap xs us rfl e4 e5 (λi x hx=>((g3 i x hx).mono iI).unf_rol) (λj m u hj hu=>?_) (λ_=>by
      have hR:rR i g=true:=by simp only[rR,ja,hl];simp
      simp only[τ,g5 g ja,hR,zyy])
     rw[Ty.rol_size];have hR:rR i g=true:=by simp only[rR,ja,hl];simp
     simp only[τ,g5 g ja,hR,zyy,fw];exact g4 j m u hj hu
  .rcases NS hi with hl|⟨T,e,hl,rfl⟩
   .exact(Ck i _ hl).1
   .rfl
def amp {C:Ctx}{fr:List Nat}{dst f:Nat}{s s':Sig}{ds:List D}{d:D}(hs:QX fr dst s=some s')(hm:s'.mode=.dat)(h:rQ s.mode=false->ff C f s ds d):ff C f s' ds d:=by
 unfold QX at hs;split at hs
 .rename_i l hl;cases hb:(!(fr.any (Nat.beq (2000000+dst)))&&Ty.beq s.res (.agg (mG l)))<;>simp only[hb,zyy,zyx] at hs
  .cases hs;rw[hl] at hm;cases hm
  .cases hs;simp only[ao] at hb;exact ff.asDat hl (Ty.beq_eq _ _ hb.2) (h (by rw[hl];rfl))
 .cases hs;exact h (by rw[hm];rfl)
def BG (C:Ctx)(S:St)(gs:List (Nat×Bool))(dst:Nat)(f:Nat)(args:List Operand):Option (St×Sh×List PI):=
 ((C.sig f).bind (QX C.fr dst)).bind λs=>
   match s.mode with
   |.dat=>
    (qJ C (S.fzs (dq S gs args)) gs args).bind λu=>
      bif Ty.subs u.1 s.args then some (bif s.res.pure then S else S.fzs (dq S gs args),.dat s.res,[.call gs dst f u.2]) else Option.none
   |_=>Option.none
def ER (C:Ctx)(S:St)(dst:Nat)(f:Nat)(args:List Operand):ls:=
 (C.sig f).bind λs=>
    match s.mode with
    |.row T e=>
     (qJ C (S.fzs (dq S [] args)) [] args).bind λu=>
       bif Ty.subs u.1 s.args then some (mkObj (bif e.pure then S else S.fzs (dq S [] args)) dst (.row T e),[.call [] dst f u.2,.setO dst (.r dst),.setR dst (.con .none)]) else Option.none
    |_=>Option.none
def jE (dst:Nat)(l:List RC)(j:Nat):Option (Nat×TypeId×Ty):=
 bif Nat.beq (j%4096) dst&&Nat.ble 4096 j then(match l[j/4096-1]? with|some (.row T e)=>some (j/4096-1,T,e)|_=>Option.none) else Option.none
def aiu {dst i:Nat}{l:List RC}{T:TypeId}{e:Ty}(hd:dst<4096)(h:l[i]?=some (.row T e)):jE dst l (gX dst i)=some (i,T,e):=by
 unfold jE gX;have e1:(4096*(i+1)+dst)%4096=dst:=by omega
 have e2:(4096*(i+1)+dst)/4096-1=i:=by omega
 have e3:Nat.ble 4096 (4096*(i+1)+dst)=true:=Nat.ble_eq_true_of_le (by omega);rw[e1,e2,e3,h,ki];rfl
def awn {dst i j:Nat}{l:List RC}{T:TypeId}{e:Ty}(h:jE dst l j=some (i,T,e)):j=gX dst i/\l[i]?=some (.row T e):=by
 unfold jE at h;cases hb:(Nat.beq (j%4096) dst&&Nat.ble 4096 j)<;>simp only[hb,zyy,zyx] at h
 .cases h
 simp only[ao] at hb;have h1:=ay hb.1;have h2:=jI hb.2;split at h
 .rename_i hl;cases h;exact⟨by unfold gX;omega,hl⟩
 .cases h
def St.newRows (S:St)(dst:Nat)(l:List RC):St:=⟨S.r,λj=>match jE dst l j with|some x=>.row x.2.1 x.2.2|Option.none=>S.o j,λj=>match jE dst l j with|some _=>S.ver j+1|Option.none=>S.ver j⟩
def ph (S:St)(dst:Nat):List RC->Nat->List AgC
 |[],_=>[]
 |.dat t::l,i=>.dat t::ph S dst l (i+1)
 |.row ..::l,i=>.obj (gX dst i) (S.ver (gX dst i)+1)::ph S dst l (i+1)
def De (dst:Nat):List RC->Nat->List PI
 |[],_=>[]
 |.dat _::l,i=>De dst l (i+1)
 |.row ..::l,i=>.setO (gX dst i) (.cell (.r dst) i)::De dst l (i+1)
def ES (C:Ctx)(S:St)(dst:Nat)(f:Nat)(args:List Operand):ls:=
 (C.sig f).bind λs=>
    match s.mode with
    |.rows l=>
     (qJ C (S.fzs (dq S [] args)) [] args).bind λu=>
       bif Ty.subs u.1 s.args&&Nat.blt dst 4096 then
         some (((S.fzs (dq S [] args)).newRows dst l).setR dst (.agg (ph (S.fzs (dq S [] args)) dst l 0)),.call [] dst f u.2::De dst l 0) else Option.none
    |_=>Option.none
def aiv (S:St)(dst:Nat):∀(l:List RC) (i:Nat),(ph S dst l i).length=l.length/\∀(n:Nat) (c:AgC),(ph S dst l i)[n]?=some c->(∃t,l[n]?=some (.dat t)/\c=.dat t)\/∃T e,l[n]?=some (.row T e)/\c=.obj (gX dst (i+n)) (S.ver (gX dst (i+n))+1)
 |[],i=>⟨rfl,λn c h=>by simp[ph] at h⟩
 |x::l,i=>by
  obtain⟨h1,h2⟩:=aiv S dst l (i+1);have e:∀n,i+1+n=i+(n+1):=λn=>by omega
  cases x with
  |dat t=>
   refine⟨by simp[ph,h1],λn c h=>?_⟩;cases n with
   |zero=>simp[ph] at h;exact .inl ⟨t,rfl,h.symm⟩
   |succ n=>simp only[ph,I0] at h ⊢;have:=h2 n c h;rwa [e] at this
  |row T y=>
   refine⟨by simp[ph,h1],λn c h=>?_⟩;cases n with
   |zero=>simp[ph] at h;exact .inr ⟨T,y,rfl,by rw[iU];exact h.symm⟩
   |succ n=>simp only[ph,I0] at h ⊢;have:=h2 n c h;rwa [e] at this
def VJ (Z:aS)(dst:Nat):∀(l:List RC) (i:Nat) (O O':Env),PI.runs Z (De dst l i) O=some O'->O'.r=O.r/\(∀j,(∀(n:Nat) (T:TypeId) (e:Ty),l[n]?=some (.row T e)->j≠gX dst (i+n))->O'.o j=O.o j)/\
 ∀(n:Nat) (T:TypeId) (e:Ty),l[n]?=some (.row T e)->O'.o (gX dst (i+n))=(O.r dst).c (i+n)
 |[],i,O,O',h=>by
  simp only[De,PI.runs,aZ] at h;subst h;exact⟨rfl,λ_ _=>rfl,λn T e h=>by simp at h⟩
 |x::l,i,O,O',h=>by
  have e:∀n,i+1+n=i+(n+1):=λn=>by omega
  cases x with
  |dat t=>
   obtain⟨h1,h2,h3⟩:=VJ Z dst l (i+1) O O' h;refine⟨h1,λj hj=>h2 j λn T y hn=>by rw[e];exact hj (n+1) T y (by simpa using hn),λn T y hn=>?_⟩;cases n with
   |zero=>simp at hn
   |succ n=>have:=h3 n T y (by simpa using hn);rwa [e] at this
  |row T0 y0=>
   simp only[De,PI.runs,PI.run,pE] at h;obtain⟨h1,h2,h3⟩:=VJ Z dst l (i+1) _ O' h;refine⟨h1,λj hj=>?_,λn T y hn=>?_⟩
   .rw[h2 j λn T y hn=>by rw[e];exact hj (n+1) T y (by simpa using hn)];exact bB _ _ (by have:=hj 0 T0 y0 rfl;rwa [iU] at this)
   .cases n with
    |zero=>
     rw[iU,h2 _ λn T y hn=>by unfold gX;omega];exact aN _ _ _
    |succ n=>have:=h3 n T y (by simpa using hn);rwa [e] at this
def EP (C:Ctx)(S:St)(dst:Nat)(f:Nat)(args:List Operand):ls:=
 (C.sig f).bind λs=>
    match s.mode,args with
    |.ob shs obs,x::xs=>
     match ME shs obs,gL S [] x with
     |some m,.obj j ver=>
      match S.o j with
      |.row T e=>
       bif Nat.beq ver (S.ver j)&&(Nat.beq T m.1&&Ty.beq e m.2.1) then
            (qJ C S [] xs).bind λu=>
             bif Ty.subs u.1 m.2.2 then some ((S.newO j (.row T e)).setR dst (.obj j (S.ver j+1)),[.call [] dst f (.o j::u.2),.setO j (.r dst),.setR dst (.con .none)]) else Option.none
       else Option.none
      |_=>Option.none
     |_,_=>Option.none
    |_,_=>Option.none
def yq (C:Ctx)(S:St)(gs:List (Nat×Bool))(dst:Nat)(x:Operand)(args:List Operand):Option (St×Sh×List PI):=
 match use C S gs x with
 |some (.fn aa r,e)=>
  match oS aa r with
  |some _=>Option.none
  |Option.none=>
  (qJ C (S.fzs (dq S gs args)) gs args).bind λu=>
    bif Ty.subs u.1 aa then some (bif r.pure then S else S.fzs (dq S gs args),.dat r,[.callc gs dst e u.2]) else Option.none
 |_=>Option.none
def rC:∀(js:List Nat) (S:St),(S.fzs js).ver=S.ver/\(S.fzs js).r=S.r
 |[],S=>⟨rfl,rfl⟩
 |j::js,S=>by
  obtain⟨h1,h2⟩:=rC js (S.fz j);obtain⟨k1,k2⟩:=Ld S j;exact⟨h1.trans k1,h2.trans k2⟩
section
variable {C:Ctx} {S:St} {O:Env} {V:Im} {own:Nat->Option Nat} {hv:Nat->Value} {w0:World} {σ0:Base} {A:Nat->Prop} {a:Act} {w:World} {gs:List (Nat×Bool)} {Z:aS} {dst:Nat}
def Inv.fzs:∀(js:List Nat) {S:St} {V:Im} {own:Nat->Option Nat},Inv C S O V own hv w0 σ0 A a w->∃V' own',V.le V'/\Inv C (S.fzs js) O V' own' hv w0 σ0 A a w
 |[],S,V,own,h=>⟨V,own,.refl V,h⟩
 |j::js,S,V,own,h=>by
  obtain⟨σ1,dt,hle,h1⟩:=h.fz j;obtain⟨σ2,jB,iI,h2⟩:=Inv.fzs js h1;exact⟨σ2,jB,hle.trans iI,h2⟩
def Inv.world (h:Inv C S O V own hv w0 σ0 A a w){V':Im}{w':World}(hle:V.le V')(ar:V'.ok w')(hb:Below w.heap.size w w')(dp:∀k o x,V'.c k o=some x->V.c k o=some x\/w.heap.size<=k)
 (cQ:∀k x,V'.m k=some x->V.m k=some x\/w.heap.size<=k):Inv C S O V' own hv w0 σ0 A a w':=by
 have aI:=h.below.size;refine h.step (λ_=>False) rfl hle ar (λk o x hx=>(dp k o x hx).imp id (λe=>⟨by omega,.inr e⟩)) (λk x hx=>(cQ k x hx).imp id (λe=>⟨by omega,.inr e⟩)) (hb.mono aI) (.refl S hv) (λj _=>⟨rfl,rfl,rfl,λk hk=>⟨hk,hb.block k (h.owns k j hk).2.1⟩⟩) (λ_ hf=>hf.elim) (λk j hk=>?_) (λ_=>id) (λt=>.inl ⟨rfl,rfl,rfl⟩) (λ_ _=>rfl) (λk hk _=>hb.block k hk) (λk i hk=>.inl ⟨i,hk⟩) (λ_ hf=>hf.elim);obtain⟨g1,g2,g3,g4⟩:=h.owns k j hk;refine⟨g1,by have:=hb.size;omega,λo=>?_,?_⟩
 .cases hc:V'.c k o with
  |none=>rfl
  |some x=>rcases dp k o x hc with e|e
           .rw[g3 o] at e;cases e
           .omega
 .cases hc:V'.m k with
  |none=>rfl
  |some x=>rcases cQ k x hc with e|e
           .rw[g4] at e;cases e
           .omega
def CtxOK.mono {C:Ctx}{V V':Im}(h:CtxOK C V)(hle:V.le V'):CtxOK C V':=⟨λg x hx=>(h.glob g x hx).mono hle,λg x hx=>hle.m _ _ (h.mg g x hx)⟩
def DE (h:Inv C S O V own hv w0 σ0 A a w)(hC:CtxOK C σ0)(hg:holds gs O=true){xs:List Operand}{u:List Ty×List PE}{ts:List Ty}(hu:qJ C S gs xs=some u)(hs:Ty.subs u.1 ts=true):qL C V ts (xs.map a.eval) (PE.evs O u.2):=by
 obtain⟨l1,l2,aK⟩:=ajL h hC hg _ _ hu;have hl:=Ty.subs_len _ _ hs;refine⟨by rw[ef];omega,by rw[PE.evs_eq,ef];omega,λi t hi=>?_⟩;obtain⟨s,eh,cA⟩:=Ty.subs_get _ _ hs i t hi;exact(aK i s eh).sub cA
def Is {o:Oper}{f:Nat}{args:Array Operand}{ts:Array TypeId}(aY:dN C){s:Sig}(hs:C.sig f=some s)(ho:o.op=.call {callee:=.value (.func f),args:=args,argTypes:=ts}):
 (execOp a.eval o).run C.P w=.ok (.enter f (args.map a.eval)) w:=by
 obtain⟨fn,h1,h2,h3⟩:=aY.2 f s hs;obtain⟨bd,gU⟩:=aaK.1 h2;have h4:¬fn.name= "runtime.NumGoroutine" :=by simpa using h3
 simp[execOp,ho,resolve,Act.eval,Deferred.ofValue,invoke,callFunc,h1,gU,h4]
def ai7 {o:Oper}{x:Operand}{f:Nat}{vs:List Value}{args:Array Operand}{ts:Array TypeId}(aY:dN C){s:Sig}(hs:C.sig f=some s)(hx:a.eval x=.func (.func f) #[] vs.toArray)(ho:o.op=.call {callee:=.value x,args:=args,argTypes:=ts}):
 (execOp a.eval o).run C.P w=.ok (.enter f (args.map a.eval++vs.toArray)) w:=by
 obtain⟨fn,h1,h2,h3⟩:=aY.2 f s hs;obtain⟨bd,gU⟩:=aaK.1 h2;have h4:¬fn.name= "runtime.NumGoroutine" :=by simpa using h3
 simp[execOp,ho,resolve,hx,Deferred.ofValue,invoke,callFunc,h1,gU,h4]
def abi (h:Inv C S O V own hv w0 σ0 A a w)(hC:CtxOK C σ0)(ht:¬A dst)(af:dst<a.tmps.size)(eC:∀g,g∈gs->A g.1)(hg:holds gs O=true){f:Nat}{s:Sig}{js:List Nat}{vals:List Value}{ds:List D}{d:D}(lH:s.mode=.dat)(hfn:ff C f s ds d)
 (ju:∀σ1 dt,V.le σ1->Inv C (S.fzs js) O σ1 dt hv w0 σ0 A a w->qL C σ1 s.args vals ds) {K:Act->World->Prop} {Q:Exit->Act->World->Prop}
 (hK:∀a' w',Good C w0 σ0 ((bif s.res.pure then S else S.fzs js).setR dst (uK gs (.dat s.res))) (O.setR dst d) (λu=>A u\/u=dst) a' w'->a'.tmps.size=a.tmps.size->K a' w'):
 Calls C.P f vals.toArray w (λe lj=>match e with|.returned v=>K (a.put (some dst) v) lj|.panicked chain=>Q (.panic chain) a lj|.outgrown=>LetsOut Q):=by
 obtain⟨σ1,dt,mf,h1⟩:=Inv.fzs js h;have cY:=hfn σ1 w vals.toArray h1.ok (hC.mono h1.le) (by simpa using ju σ1 dt mf h1);refine cY.mono λe w' hh=>?_;obtain⟨v,V',rfl,hle,ar,hb,dp,cQ,fX⟩:=hh;simp only[lx,lH] at fX;refine hK _ _ ?_ (size_put _ _ _);have hh:holds gs (O.setR dst d)=true:=by rw[F0 (t:=dst) (d:=d) λg hm e=>ht (by rw[<-e];exact eC g hm)];exact hg
 have put:∀{S2:St} {σ2:Im} {jB:Nat->Option Nat},Inv C S2 O σ2 jB hv w0 σ0 A a w'->Rep C.cap σ2 s.res v d->Good C w0 σ0 (S2.setR dst (uK gs (.dat s.res))) (O.setR dst d) (λu=>A u\/u=dst) (a.put (some dst) v) w':=by
  intro S2 σ2 jB h2 hr;cases gs with
  |nil=>exact⟨_,_,_,h2.setReg ht (s:=.dat s.res) hr af (λ_ _ e=>by cases e)⟩
  |cons g bM=>
   refine⟨_,_,_,h2.setReg ht (s:=.opt (g::bM) (.dat s.res)) ⟨λ_=>hr,λe=>absurd (hh.symm.trans e) (by decide)⟩ af (λgs s e=>?_)⟩;cases e;exact⟨eC,λ_ _ e=>by cases e⟩
 cases hp:s.res.pure with
 |true=>
  simp only[zyy];exact put (h.world (.refl V) (h.ok.below hb) hb (λ_ _ _ hx=>.inl hx) (λ_ _ hx=>.inl hx)) (fX.pure hp)
 |false=>
  simp only[zyx];exact put (h1.world hle ar hb dp cQ) fX
def Er {o:Oper}{f:Nat}{args:Array Value}{K:Act->World->Prop}{Q:Exit->Act->World->Prop}(hd:o.dst=some dst)(hx:(execOp a.eval o).run C.P w=.ok (.enter f args) w)
 (h:Calls C.P f args w (λe lj=>match e with|.returned v=>K (a.put (some dst) v) lj|.panicked chain=>Q (.panic chain) a lj|.outgrown=>LetsOut Q)):o.wp C.P a w K Q:=by
 simp only[Oper.wp,hx,Oper.upon,hd];refine h.mono λe lj hh=>?_;cases e<;>exact hh
def am6 (h:Inv C S O V own hv w0 σ0 A a w)(hC:CtxOK C σ0)(aY:dN C)(hΦ:du C Z)(ht:¬A dst)(af:dst<a.tmps.size)(eC:∀g,g∈gs->A g.1)(hg:holds gs O=true){f:Nat}{args:Array Operand}{ts:Array TypeId}{r:St×Sh×List PI}
 (hr:BG C S gs dst f args.toList=some r) {o:Oper} (hd:o.dst=some dst) (ho:o.op=.call {callee:=.value (.func f),args:=args,argTypes:=ts}):bS C w0 σ0 Z S O A a w o (r.1.setR dst (uK gs r.2.1),r.2.2):=by
 simp only[BG,az] at hr;obtain⟨s,⟨s0,hs,L8⟩,hr⟩:=hr;split at hr
 case h_2=>cases hr
 rename_i lH;simp only[az] at hr;obtain⟨u,hu,hr⟩:=hr;cases cg:Ty.subs u.1 s.args<;>simp only[cg,zyy,zyx] at hr
 .cases hr
 cases hr;intro O' ak K Q hK;simp only[PI.runs,PI.run,hg,zyy,az,aB] at ak;obtain⟨ρ1,⟨d,bu,rfl⟩,ak⟩:=ak;cases ak;have hfn:=amp L8 lH (hΦ f _ d bu s0 hs).1;refine Er hd (Is aY hs ho) ?_;have kD:args.map a.eval=(args.toList.map a.eval).toArray:=by apply uh;rw[vu]
 rw[kD];have ky:(λu=>A u\/o.dst=some u)=(λu=>A u\/u=dst):=by funext u;rw[hd];simp[eq_comm]
 rw[ky] at hK;exact abi h hC ht af eC hg (js:=dq S gs args.toList) lH hfn (λσ1 dt _ h1=>DE h1 hC hg hu cg) hK
def amY (h:Inv C S O V own hv w0 σ0 A a w)(hC:CtxOK C σ0)(aY:dN C)(hΦ:du C Z)(ht:¬A dst)(af:dst<a.tmps.size)(eC:∀g,g∈gs->A g.1)(hg:holds gs O=true){x:Operand}{args:Array Operand}{ts:Array TypeId}{r:St×Sh×List PI}
 (hr:yq C S gs dst x args.toList=some r) {o:Oper} (hd:o.dst=some dst) (ho:o.op=.call {callee:=.value x,args:=args,argTypes:=ts}):bS C w0 σ0 Z S O A a w o (r.1.setR dst (uK gs r.2.1),r.2.2):=by
 unfold yq at hr;split at hr
 case h_2=>cases hr
 rename_i aa r0 e hu0;split at hr
 case h_1=>cases hr
 rename_i R8;simp only[az] at hr;obtain⟨u,hu,hr⟩:=hr;cases cg:Ty.subs u.1 aa<;>simp only[cg,zyy,zyx] at hr
 .cases hr
 cases hr;have hx:=cv h hC hg hu0;intro O' ak K Q hK;simp only[PI.runs,PI.run,hg,zyy,az] at ak;obtain⟨ρ1,qe,ak⟩:=ak;cases ak;split at qe
 case h_2=>cases qe
 rename_i f caps bL;simp only[aB] at qe;obtain⟨d,bu,rfl⟩:=qe;rw[bL] at hx;generalize fV:a.eval x=xv at hx;generalize br:Ty.fn aa r0=ty at hx;cases hx with
 |fn f cs vs ds hc h1 h2 aK=>
  cases br;have hs:=aY.1 f cs hc R8;have hfn:=(hΦ f _ d bu _ hs).1 rfl;refine Er hd (ai7 aY hs fV ho) ?_;have kD:args.map a.eval++vs.toArray=(args.toList.map a.eval++vs).toArray:=by apply uh;simp
  rw[kD];have ky:(λu=>A u\/o.dst=some u)=(λu=>A u\/u=dst):=by funext u;rw[hd];simp[eq_comm]
  rw[ky] at hK;refine abi h hC ht af eC hg (js:=dq S gs args.toList) (s:=⟨cs.args++cs.caps,cs.res,.dat⟩) rfl hfn (λσ1 dt mf i1=>?_) hK;obtain⟨g1,g2,g3⟩:=DE i1 hC hg hu cg;refine⟨by simp only[mM,g1,h1],by simp only[mM,g2,h2],λi t hi=>?_⟩;rw[lZ] at hi;split at hi
  .rename_i af;have:=g3 i t hi;rw[aE,aE,nP (by omega),nP (by omega)];simpa [aE] using this
  .rename_i gV;have:=(aK _ t hi).mono mf;rw[aE,aE,nQ (by omega),nQ (by omega),g1,g2];simpa [aE] using this
def am2 (h:Inv C S O V own hv w0 σ0 A a w)(hC:CtxOK C σ0)(aY:dN C)(hΦ:du C Z)(ht:¬A dst)(af:dst<a.tmps.size){f:Nat}{args:Array Operand}{ts:Array TypeId}{r:St×List PI}
 (hr:ER C S dst f args.toList=some r) {o:Oper} (hd:o.dst=some dst) (ho:o.op=.call {callee:=.value (.func f),args:=args,argTypes:=ts}):bS C w0 σ0 Z S O A a w o r:=by
 simp only[ER,az] at hr;obtain⟨s,hs,hr⟩:=hr;split at hr
 case h_2=>cases hr
 rename_i T e lH;simp only[az] at hr;obtain⟨u,hu,hr⟩:=hr;cases cg:Ty.subs u.1 s.args<;>simp only[cg,zyy,zyx] at hr
 .cases hr
 cases hr;intro O' ak K Q hK;have FH:holds ([]:List (Nat×Bool)) O=true:=rfl;simp only[PI.runs,PI.run,FH,zyy,az,aB] at ak;obtain⟨ρ1,⟨d,bu,rfl⟩,ρ2,g2,ρ3,g3,g4⟩:=ak;cases g2;cases g3;cases g4;have hfn:=(hΦ f _ d bu s hs).1 (by rw[lH];rfl);obtain⟨σ1,dt,mf,h1⟩:=Inv.fzs (dq S [] args.toList) h;have kD:args.map a.eval=(args.toList.map a.eval).toArray:=by apply uh;rw[vu]
 refine Er hd (Is aY hs ho) ?_;rw[kD];have cY:=hfn σ1 w (args.toList.map a.eval).toArray h1.ok (hC.mono h1.le) (by simpa using DE h1 hC rfl hu cg);refine cY.mono λe' w' hh=>?_;obtain⟨v,V',rfl,hle,ar,hb,dp,cQ,fX⟩:=hh;simp only[lx,lH] at fX;obtain⟨cells,xs,rfl,bp,cU,oG⟩:=fX;refine hK _ _ ?_ (size_put _ _ _);have ky:(λu=>A u\/o.dst=some u)=(λu=>A u\/u=dst):=by funext u;rw[hd];simp[eq_comm]
 rw[ky];have main:∀{S2:St} {σ1 σ2:Im} {jB:Nat->Option Nat},Inv C S2 O σ1 jB hv w0 σ0 A a w->σ1.le σ2->σ2.ok w'->(∀k o x,σ2.c k o=some x->σ1.c k o=some x\/w.heap.size<=k)->(∀k x,σ2.m k=some x->σ1.m k=some x\/w.heap.size<=k)->dh C.cap σ2 e cells xs->(∀k,v.ownBlock=some k->(∀o,σ2.c k o=none)/\σ2.m k=none)->
  Good C w0 σ0 (mkObj S2 dst (.row T e)) ((O.setO dst (.list xs)).setR dst .none) (λu=>A u\/u=dst) (a.put (some dst) v) w':=by
  intro S2 σ1 σ2 jB h2 iI SD aq3 aq6 aqg aql;have aI:=h1.below.size
  have mi:=h2.newOσ dst (.row T e) (.list xs) v (λk=>decide (v.ownBlock=some k)) iI SD aq3 aq6 hb (λk hk=>bp.lt k (by simpa using hk)) (λk hk=>aql k (by simpa using hk)) ⟨cells,xs,by simp[Env.setO,aN],by
        rw[aN];refine⟨bp.1,?_⟩;rcases bp.2 with e1|⟨g,cap,cur,e1,e2,e3⟩
        .exact .inl e1
        .exact .inr ⟨g,cap,cur,e1,by omega,e3⟩,aqg,λk hk=>by rw[aN] at hk;simp[fM,hk]⟩
  have L4:=mi.setObj ht (j:=dst) (v:=v) (aN _ _ _) af;have e:(S2.newO dst (.row T e)).ver dst=S2.ver dst+1:=aN _ _ _;rw[e] at L4;exact⟨_,_,_,L4⟩
 have eρ:((O.setR dst (.list xs)).setO dst ((PE.r dst).ev (O.setR dst (.list xs)))).setR dst ((PE.con D.none).ev ((O.setR dst (.list xs)).setO dst ((PE.r dst).ev (O.setR dst (.list xs)))))=(O.setO dst (.list xs)).setR dst .none:=by
  have:∀d1 d2:D,bW (bW O.r dst d1) dst d2=bW O.r dst d2:=by
   intro d1 d2;funext i;simp only[fp];split<;>rfl
  simp[Env.setR,Env.setO,PE.ev,aN,this]
 show Good C w0 σ0 _ _ _ _ _;rw[eρ];cases hp:e.pure with
 |true=>
  simp only[zyy];refine main h (.refl V) (h.ok.below hb) (λ_ _ _ hx=>.inl hx) (λ_ _ hx=>.inl hx) ?_ (λk hk=>?_)
  .obtain⟨vs,k1,k2⟩:=cU;exact⟨vs,λi x hx=>(k1 i x hx).pure hp,k2⟩
  .obtain⟨f1,f2⟩:=oG k hk;refine⟨λo=>?_,?_⟩
   .cases hc:V.c k o with
    |none=>rfl
    |some x=>have:=hle.c _ _ _ (mf.c _ _ _ hc);rw[f1 o] at this;cases this
   .cases hc:V.m k with
    |none=>rfl
    |some x=>have:=hle.m _ _ (mf.m _ _ hc);rw[f2] at this;cases this
 |false=>
  simp only[zyx];exact main h1 hle ar dp cQ cU oG
def am4 (h:Inv C S O V own hv w0 σ0 A a w)(hC:CtxOK C σ0)(aY:dN C)(hΦ:du C Z)(ht:¬A dst)(af:dst<a.tmps.size){f:Nat}{args:Array Operand}{ts:Array TypeId}{r:St×List PI}
 (hr:ES C S dst f args.toList=some r) {o:Oper} (hd:o.dst=some dst) (ho:o.op=.call {callee:=.value (.func f),args:=args,argTypes:=ts}):bS C w0 σ0 Z S O A a w o r:=by
 simp only[ES,az] at hr;obtain⟨s,hs,hr⟩:=hr;split at hr
 case h_2=>cases hr
 rename_i l lH;simp only[az] at hr;obtain⟨u,hu,hr⟩:=hr;cases cg:(Ty.subs u.1 s.args&&Nat.blt dst 4096)<;>simp only[cg,zyy,zyx] at hr
 .cases hr
 cases hr;simp only[ao,pC] at cg;obtain⟨cg,B7⟩:=cg;intro O' ak K Q hK;have FH:holds ([]:List (Nat×Bool)) O=true:=rfl;simp only[PI.runs,PI.run,FH,zyy,az,aB] at ak;obtain⟨ρ1,⟨d,bu,rfl⟩,ak⟩:=ak;have hfn:=(hΦ f _ d bu s hs).1 (by rw[lH];rfl);obtain⟨σ1,dt,mf,h1⟩:=Inv.fzs (dq S [] args.toList) h;generalize S.fzs (dq S [] args.toList)=S1 at hu h1 hK ⊢;have kD:args.map a.eval=(args.toList.map a.eval).toArray:=by apply uh;rw[vu]
 refine Er hd (Is aY hs ho) ?_;rw[kD];have cY:=hfn σ1 w (args.toList.map a.eval).toArray h1.ok (hC.mono h1.le) (by simpa using DE h1 hC rfl hu cg);refine cY.mono λe' w' hh=>?_;obtain⟨v,V',rfl,hle,ar,hb,dp,cQ,fX⟩:=hh;simp only[lx,lH] at fX;obtain⟨vs,ds,ow,rfl,rfl,l1,l2,Ck,rM⟩:=fX;refine hK _ _ ?_ (size_put _ _ _);have ky:(λu=>A u\/o.dst=some u)=(λu=>A u\/u=dst):=by funext u;rw[hd];simp[eq_comm]
 rw[ky];obtain⟨r1,r2,r3⟩:=VJ Z dst l 0 _ O' ak;simp only[fw] at r2 r3;have aiP:(O.setR dst (.agg ds)).r dst=.agg ds:=aN _ _ _;rw[aiP] at r3;have aI:=h1.below.size
 let W:Nat->Prop:=λj=>∃x,jE dst l j=some x
 let own':Nat->Option Nat:=λk=>match ow k with
  |some i=>some (gX dst i)
  |none=>match dt k with
   |some j=>match jE dst l j with|some _=>none|none=>some j
   |none=>none
 let hv':Nat->Value:=λj=>match jE dst l j with|some x=>vs.getD x.1 undef|none=>hv j
 have Sq:∀j,¬W j->jE dst l j=none:=λj hj=>by
  cases e:jE dst l j with
  |none=>rfl
  |some x=>exact absurd ⟨x,e⟩ hj
 have fW:∀j,¬W j->O'.o j=O.o j:=λj hj=>r2 j λn T e hn e1=>hj ⟨(n,T,e),by rw[e1];exact aiu B7 hn⟩
 have rJ:∀k j,dt k=some j->ow k=none:=λk j hk=>by
  cases e:ow k with
  |none=>rfl
  |some i=>have:=rM k i e;have:=h1.owns k j hk;omega
 have th:Compat S1 hv ((S1.newRows dst l).setR dst (.agg (ph S1 dst l 0))) hv':=⟨λj=>by
  show S1.ver j<=(match jE dst l j with|some _=>S1.ver j+1|none=>S1.ver j);split
  .exact Nat.le_succ _
  .exact aX _,λj e=>by
  have e:(match jE dst l j with|some _=>S1.ver j+1|none=>S1.ver j)=S1.ver j:=e;show(match jE dst l j with|some x=>vs.getD x.1 undef|none=>hv j)=hv j;cases hj:jE dst l j with
  |none=>rfl
  |some x=>rw[hj] at e;simp only at e;omega⟩
 refine⟨V',own',hv',?_⟩
 refine h1.step (w':=w') W rfl hle ar (λk o x hx=>(dp k o x hx).imp id λe=>⟨by omega,.inr e⟩) (λk x hx=>(cQ k x hx).imp id λe=>⟨by omega,.inr e⟩) (hb.mono aI) th
  (λj hj=>⟨?_,fW j hj,?_,λk hk=>⟨?_,hb.block k (h1.owns k j hk).2.1⟩⟩) (λj hj=>?_) (λk i hk=>?_) (λ_=>.inl) (λt=>?_) (λt hA=>?_) (λk hk _=>hb.block k hk) (λk i hk=>?_) (λj hj=>?_)
 .show(match jE dst l j with|some x=>Ob.row x.2.1 x.2.2|none=>S1.o j)=S1.o j;rw[Sq j hj]
 .show(match jE dst l j with|some x=>vs.getD x.1 undef|none=>hv j)=hv j;rw[Sq j hj]
 .show own' k=some j;simp only[own',rJ k j hk,hk,Sq j hj]
 .obtain⟨⟨i,T,e⟩,hx⟩:=hj;obtain⟨rfl,hi⟩:=awn hx;show bY C _ O' V' own' hv' w' w0.heap.size (gX dst i) (match jE dst l (gX dst i) with|some x=>Ob.row x.2.1 x.2.2|none=>S1.o (gX dst i));rw[hx];obtain⟨cells,xs,g1,g2,g3,g4⟩:=Ck i _ hi;have e2:hv' (gX dst i)=vs.getD i undef:=by simp only[hv',hx]
  refine⟨cells,xs,?_,?_,g3,λk hk=>?_⟩
  .rw[r3 i T e hi];simpa [D.c,D.cells] using g1
  .rw[e2];refine⟨g2.1,?_⟩;rcases g2.2 with e1|⟨g,cap,cur,e1,e3,e4⟩
   .exact .inl e1
   .exact .inr ⟨g,cap,cur,e1,by omega,e4⟩
  .rw[e2] at hk;simp only[own',g4 k hk]
 .simp only[own'] at hk;split at hk
  .rename_i i' df;have:=rM k i' df;exact⟨by omega,this.2.1,this.2.2.1,this.2.2.2⟩
  .split at hk
   .rename_i j hj;obtain⟨g1,g2,g3,g4⟩:=h1.owns k j hj;refine⟨g1,by have:=hb.size;omega,λo=>?_,?_⟩
    .cases hc:V'.c k o with
     |none=>rfl
     |some x=>rcases dp k o x hc with e|e
              .rw[g3 o] at e;cases e
              .omega
    .cases hc:V'.m k with
     |none=>rfl
     |some x=>rcases cQ k x hc with e|e
              .rw[g4] at e;cases e
              .omega
   .cases hk
 .by_cases hu:t=dst
  .subst hu;refine .inr ⟨?_,λgs s e=>?_⟩
   .rw[zZ];have e3:O'.r t=.agg ds:=by rw[r1];exact aiP
    simp only[St.setR,aN,af,and_self,if_true,e3];obtain⟨q1,q2⟩:=aiv S1 t l 0;refine⟨vs,ds,rfl,rfl,by omega,by omega,λi c hc=>?_⟩;rcases q2 i c hc with⟨ty,hl,rfl⟩|⟨T,e,hl,rfl⟩
    .exact Ck i _ hl
    .rw[fw];have hx:=aiu B7 hl;refine⟨?_,λ_=>?_⟩
     .show S1.ver (gX t i)+1<=(match jE t l (gX t i) with|some _=>S1.ver (gX t i)+1|none=>S1.ver (gX t i));rw[hx];exact aX _
     .simp only[hv',hx]
   .simp only[St.setR,aN] at e;cases e
  .refine .inl ⟨bB _ _ hu,?_,?_⟩
   .rw[zZ];simp[hu]
   .rw[r1];exact bB _ _ hu
 .rw[r1];exact bB _ _ (λe=>ht (e▸hA))
 .simp only[own'] at hk;split at hk
  .rename_i i' df;exact .inr (rM k i' df).1
  .split at hk
   .rename_i j hj;exact .inl ⟨j,hj⟩
   .cases hk
 .obtain⟨x,hx⟩:=hj;show(match jE dst l j with|some x=>Ob.row x.2.1 x.2.2|none=>S1.o j)≠.tr;rw[hx];intro e;cases e
def am0 (h:Inv C S O V own hv w0 σ0 A a w)(hC:CtxOK C σ0)(aY:dN C)(hΦ:du C Z)(ht:¬A dst)(af:dst<a.tmps.size){f:Nat}{args:Array Operand}{ts:Array TypeId}{r:St×List PI}
 (hr:EP C S dst f args.toList=some r) {o:Oper} (hd:o.dst=some dst) (ho:o.op=.call {callee:=.value (.func f),args:=args,argTypes:=ts}):bS C w0 σ0 Z S O A a w o r:=by
 simp only[EP,az] at hr;obtain⟨s,hs,hr⟩:=hr;split at hr
 case h_2=>cases hr
 rename_i shs obs x xs lH ju;split at hr
 case h_2=>cases hr
 rename_i m j ver mh jV;split at hr
 case h_2=>cases hr
 rename_i T e eo;cases hb:(Nat.beq ver (S.ver j)&&(Nat.beq T m.1&&Ty.beq e m.2.1))<;>simp only[hb,zyy,zyx] at hr
 .cases hr
 simp only[ao] at hb;have dF:=ay hb.1;have hT:=ay hb.2.1;have he:=Ty.beq_eq _ _ hb.2.2;simp only[az] at hr;obtain⟨u,hu,hr⟩:=hr;cases cg:Ty.subs u.1 m.2.2<;>simp only[cg,zyy,zyx] at hr
 .cases hr
 cases hr;intro O' ak K Q hK;have FH:holds ([]:List (Nat×Bool)) O=true:=rfl;simp only[PI.runs,PI.run,FH,zyy,az,aB] at ak;obtain⟨ρ1,⟨d,bu,rfl⟩,ρ2,g2,ρ3,g3,g4⟩:=ak;cases g2;cases g3;cases g4;have hfn:=(hΦ f _ d bu s hs).2 shs obs lH;unfold ej at hfn;rw[mh] at hfn;simp only at hfn;rw[<-hT,<-he] at hfn;have ct:=(ua h (gs:=[]) rfl x).1;rw[jV] at ct;have ct:=ct.2 dF;have bj:=h.objs j;rw[eo] at bj;obtain⟨cells,ys,h1,h2,h3,h4⟩:=bj;have kD:args.map a.eval=(a.eval x::xs.map a.eval).toArray:=by apply uh;rw[vu,ju];rfl
 refine Er hd (Is aY hs ho) ?_;rw[kD,ct];have aI:=h.below.size
 have cY:=hfn w0.heap.size V w (hv j) (xs.map a.eval) ys cells (PE.evs O u.2) (by simp[PE.evs,PE.ev,h1]) h.ok (hC.mono h.le) aI h2 h3 (λk hk=>by
  have:=h.owns k j (h4 k hk);exact this.2) (DE h hC rfl hu cg)
 refine cY.mono λe' w' hh=>?_;obtain⟨v',fc,dj,rfl,rfl,pX,rJ,ark,aqf,hblk⟩:=hh;refine hK _ _ ?_ (size_put _ _ _);have ky:(λu=>A u\/o.dst=some u)=(λu=>A u\/u=dst):=by funext u;rw[hd];simp[eq_comm]
 rw[ky]
 have Tb:=h.updO j (.row T e) (.list fc) v' (λk=>decide (v'.ownBlock=some k)) pX (λk hk au=>rJ k hk (λe=>au (h4 k e))) (λk hk=>by
  have bf:v'.ownBlock=some k:=by simpa using hk
  exact⟨(hblk k bf).1.imp (h4 k) id,(hblk k bf).2⟩)
  ⟨dj,fc,by simp[Env.setO,aN],by rw[aN];exact ark,aqf,λk hk=>by rw[aN] at hk;simp[fM,hk]⟩
 have h9:=Tb.setObj ht (j:=j) (v:=v') (aN _ _ _) af;have e1:(S.newO j (.row T e)).ver j=S.ver j+1:=aN _ _ _;rw[e1] at h9;have eρ:((O.setR dst (.list fc)).setO j ((PE.r dst).ev (O.setR dst (.list fc)))).setR dst ((PE.con D.none).ev ((O.setR dst (.list fc)).setO j ((PE.r dst).ev (O.setR dst (.list fc)))))=(O.setO j (.list fc)).setR dst .none:=by
  have:∀d1 d2:D,bW (bW O.r dst d1) dst d2=bW O.r dst d2:=by
   intro d1 d2;funext i;simp only[fp];split<;>rfl
  simp[Env.setR,Env.setO,PE.ev,aN,this]
 show Good C w0 σ0 _ _ _ _ _;rw[eρ];exact⟨_,_,_,h9⟩
end
def jm:Nat:=1000000013
abbrev px:=Sh×Option (Ty×PE)
def Jh (C:Ctx)(S:St)(x:Operand):px:=(gL S [] x,use C S [] x)
def abk (c:Nat×Nat):px:=(.ptr c.1 c.2 0,none)
def cM:List Nat->List Nat->Nat->Option Nat
 |i::is,j::js,k=>bif Nat.beq i k then some j else cM is js k
 |_,_,_=>none
def avg:Sh->Sh->List (Nat×Nat)
 |.obj i _,.obj j _=>[(i,j)]
 |.ptr i _ _,.ptr j _ _=>[(i,j)]
 |.fclo _ a,.fclo _ b=>(a.zip b).map λx=>(x.1.1,x.2.1)
 |_,_=>[]
def U5:List Sh->List Sh->List (Nat×Nat)
 |a::aa,b::bs=>avg a b++U5 aa bs
 |_,_=>[]
def avf:Ob->Ob->List (Nat×Nat)
 |.box _ a,.box _ b=>U5 a b
 |_,_=>[]
def ae4:List (Nat×Nat)->Nat->Nat
 |[],_=>jm
 |x::l,i=>bif Nat.beq x.1 i then x.2 else ae4 l i
def aus (S:St)(obs:List (Nat×Ob))(p:List (Nat×Nat)):List (Nat×Nat):=p++p.flatMap λx=>avf (ei obs x.1) (S.o x.2)
def acg (S:St)(shs:List Sh)(obs:List (Nat×Ob))(acts:List px):List Nat:=obs.map λo=>ae4 (aus S obs (U5 shs (acts.map (·.1)))) o.1
section
variable (ver:Nat->Nat) (is js:List Nat)
def Ip:List (Nat×Nat)->Option (List (Nat×Nat))
 |[]=>some []
 |x::l=>bif Nat.beq x.2 0 then(cM is js x.1).bind λj=>(Ip l).map λr=>(j,ver j)::r else none
def lh:Sh->Option Sh
 |.dat t=>some (.dat t)
 |.none=>some .none
 |.obj i v=>bif Nat.beq v 0 then(cM is js i).map λj=>.obj j (ver j) else none
 |.ptr i v off=>bif Nat.beq v 0 then(cM is js i).map λj=>.ptr j (ver j) off else none
 |.fclo f caps=>(Ip ver is js caps).map (.fclo f)
 |_=>none
def Iq:List Sh->Option (List Sh)
 |[]=>some []
 |s::l=>(lh ver is js s).bind λa=>(Iq l).map (a::·)
def sC:Ob->Option Ob
 |.row T e=>some (.row T e)
 |.mp a b=>some (.mp a b)
 |.box ag shs=>(Iq ver is js shs).map (.box ag)
 |_=>none
end
def E8 (c:Sh):Sh->Bool
 |.none=>true
 |.dat b=>match c with|.dat a=>Ty.sub a b|_=>false
 |x=>Sh.beq c x
def BR:List Sh->List Sh->Bool
 |[],[]=>true
 |a::aa,b::bs=>E8 a b&&BR aa bs
 |_,_=>false
def BQ:Ob->Ob->Bool
 |.box x a,.box y b=>(x==y)&&BR a b
 |.row T a,.row U b=>Nat.beq T U&&Ty.beq a b
 |.mp a b,.mp c d=>Ty.beq a c&&Ty.beq b d
 |_,_=>false
def sZ (S:St)(is js:List Nat):List (Nat×Ob)->List Nat->Bool
 |[],[]=>true
 |o::obs,j::jl=>(match sC S.ver is js o.2 with|some x=>BQ (S.o j) x|none=>false)&&sZ S is js obs jl
 |_,_=>false
def E7 (S:St)(is js:List Nat)(a:px)(s:Sh):Option PE:=
 match s with
 |.dat t=>(match a.2 with|some x=>bif Ty.sub x.1 t then some x.2 else none|none=>none)
 |.none=>some (.con .none)
 |s=>(match lh S.ver is js s with|some x=>bif Sh.beq a.1 x then some (.con .none) else none|none=>none)
def vP (S:St)(is js:List Nat):List px->List Sh->Option (List PE)
 |[],[]=>some []
 |a::aa,s::ss=>(E7 S is js a s).bind λe=>(vP S is js aa ss).map (e::·)
 |_,_=>none
def rk:List Sh->List Nat
 |[]=>[]
 |.obj i _::l=>i::rk l
 |.ptr i _ _::l=>i::rk l
 |.fclo _ c::l=>c.map (·.1)++rk l
 |_::l=>rk l
def aC (l:List Nat)(x:Nat):Bool:=l.any (Nat.beq x)
def xr (ver:Nat->Nat)(shs:List Sh)(is js:List Nat):Nat->Nat:=λj=>match cM js is j with|some i=>bif aC (rk shs) i then ver j else ver j+1|none=>ver j
def St.handed (S:St)(shs:List Sh)(obs:List (Nat×Ob))(is js:List Nat):St:=
 ⟨S.r,λj=>match cM js is j with|some i=>(match sC (xr S.ver shs is js) is js (ei obs i) with|some o=>o|none=>.dead)|none=>S.o j,xr S.ver shs is js⟩
def BT (S:St):List Operand->List Sh->List Nat
 |x::xs,s::ss=>(bif qg s then dq S [] [x] else[])++BT S xs ss
 |_,_=>[]
def Iw:List Nat->Nat->List PI
 |[],_=>[]
 |j::js,k=>.setO j (.tget (.o jm) k)::Iw js (k+1)
def Q3 (S:St)(res:Ty)(f:Nat)(shs:List Sh)(obs:List (Nat×Ob))(acts:List px)(is js:List Nat):Option (St×Ty×List PI):=
 (vP S is js acts shs).bind λes=>
    bif zo shs obs&&(hZ is&&hZ js&&sZ S is js obs js&&qh (S.o jm)&& !aC js jm) then some (S.handed shs obs is js,res,.mcall jm f (es++js.map .o)::Iw js 1) else none
def Q4 (C:Ctx)(S:St)(res:Ty)(f:Nat)(shs:List Sh)(obs:List (Nat×Ob))(acts:List px):Option (St×Ty×List PI):=
 Q3 S res f shs obs acts (obs.map (·.1)) (acg S shs obs acts)
def sT (C:Ctx)(S:St)(f:Nat)(args:List Operand)(caps:List (Nat×Nat)):Option (St×Ty×List PI):=
 (C.sig f).bind λs=>
    match s.mode with
    |.ob shs obs=>Q4 C (S.fzs (BT S args shs)) s.res f shs obs (args.map (Jh C (S.fzs (BT S args shs)))++caps.map abk)
    |_=>none
def ael {l:List Nat}{x:Nat}:aC l x=true↔x∈l:=by
 unfold aC;rw[xL];exact⟨λ⟨y,hy,h⟩=>by rw[ay h];exact hy,λh=>⟨x,h,ki x⟩⟩
def aeZ:∀{is js:List Nat} {i j:Nat},cM is js i=some j->∃k:Nat,is[k]?=some i/\js[k]?=some j
 |[],_,i,j,h=>by cases h
 |_::_,[],i,j,h=>by cases h
 |x::is,y::js,i,j,h=>by
  simp only[cM] at h;cases hb:Nat.beq x i<;>simp only[hb,zyy,zyx] at h
  .obtain⟨k,h1,h2⟩:=aeZ h;exact⟨k+1,h1,h2⟩
  .cases h;exact⟨0,by rw[ay hb];rfl,rfl⟩
def Mv:∀{is js:List Nat} {i j k:Nat},is.Nodup->is[k]?=some i->js[k]?=some j->cM is js i=some j
 |[],_,i,j,k,_,h,_=>by simp at h
 |_::_,[],i,j,k,_,_,h=>by simp at h
 |x::is,y::js,i,j,k,hn,h1,h2=>by
  simp only[cM];cases k with
  |zero=>simp at h1 h2;subst h1 h2;rw[ki];rfl
  |succ k=>
   simp at h1 h2;have au:x≠i:=λe=>by subst e;exact(pB.1 hn).1 (kh h1)
   rw[fy au];exact Mv (pB.1 hn).2 h1 h2
def Mw {is js:List Nat}(h2:js.Nodup){i j:Nat}(h:cM is js i=some j):cM js is j=some i:=by
 obtain⟨k,g1,g2⟩:=aeZ h;exact Mv h2 g2 g1
def asO (obs:List (Nat×Ob))(f:Nat->D):∀{is js:List Nat} {i j:Nat},is=obs.map (·.1)->cM is js i=some j->oV obs (js.map f) i=f j:=by
 induction obs with
 |nil=>intro is js i j h1 h2;subst h1;cases h2
 |cons x l ih=>
  intro is js i j h1 h2;subst h1;cases js with
  |nil=>cases h2
  |cons y js=>
   simp only[iS,cM] at h2;simp only[iS,oV];cases hb:Nat.beq x.1 i<;>simp only[hb,zyy,zyx] at h2 ⊢
   .exact ih rfl h2
   .cases h2;rfl
def aeV:∀{obs:List (Nat×Ob)} {js:List Nat} {os:List D} {i j:Nat},os.length=obs.length->cM (obs.map (·.1)) js i=some j->∃k:Nat,js[k]?=some j/\oV obs os i=os.getD k .none
 |[],_,_,i,j,_,h=>by cases h
 |_::_,[],_,i,j,_,h=>by cases h
 |_::_,_::_,[],i,j,hl,h=>by simp at hl
 |x::obs,y::js,o::os,i,j,hl,h=>by
  simp only[iS,cM] at h;simp only[oV];cases hb:Nat.beq x.1 i<;>simp only[hb,zyy,zyx] at h ⊢
  .obtain⟨k,h1,h2⟩:=aeV (obs:=obs) (js:=js) (os:=os) (by simpa using hl) h;exact⟨k+1,h1,by simpa using h2⟩
  .cases h;exact⟨0,rfl,rfl⟩
def ae2:∀{obs:List (Nat×Ob)} {js:List Nat} {i:Nat},js.length=obs.length->cM (obs.map (·.1)) js i=none->ei obs i=.dead
 |[],_,i,_,_=>rfl
 |x::obs,[],i,hl,h=>by simp at hl
 |x::obs,y::js,i,hl,h=>by
  simp only[iS,cM] at h;simp only[ei];cases hb:Nat.beq x.1 i<;>simp only[hb,zyy,zyx] at h ⊢
  .exact ae2 (by simpa using hl) h
  .cases h
def acm {S:St}{is js:List Nat}:∀{obs:List (Nat×Ob)} {jl:List Nat},sZ S is js obs jl=true->jl.length=obs.length
 |[],[],_=>rfl
 |[],_::_,h=>by simp[sZ] at h
 |_::_,[],h=>by simp[sZ] at h
 |o::obs,j::jl,h=>by simp only[sZ,ao] at h;simp[acm h.2]
def ack {S:St}{is js:List Nat}:∀{obs:List (Nat×Ob)} {jl:List Nat},sZ S is js obs jl=true->∀{i j:Nat},cM (obs.map (·.1)) jl i=some j->∃x,sC S.ver is js (ei obs i)=some x/\BQ (S.o j) x=true
 |[],_,_,i,j,h=>by cases h
 |_::_,[],_,i,j,h=>by cases h
 |o::obs,y::jl,hf,i,j,h=>by
  simp only[sZ,ao] at hf;simp only[iS,cM] at h;simp only[ei];cases hb:Nat.beq o.1 i<;>simp only[hb,zyy,zyx] at h ⊢
  .exact ack hf.2 h
  .cases h;have h1:=hf.1;split at h1
   .rename_i x hx;exact⟨x,hx,h1⟩
   .cases h1
def acn:∀{a b:List Sh},BR a b=true->a.length=b.length/\∀(i:Nat) (y:Sh),b[i]?=some y->∃x,a[i]?=some x/\E8 x y=true
 |[],[],_=>⟨rfl,λi y h=>by simp at h⟩
 |[],_::_,h=>by simp[BR] at h
 |_::_,[],h=>by simp[BR] at h
 |a::aa,b::bs,h=>by
  simp only[BR,ao] at h;obtain⟨g1,g2⟩:=acn h.2;refine⟨by simp[g1],λi y hy=>?_⟩;cases i with
  |zero=>simp at hy;subst hy;exact⟨a,rfl,h.1⟩
  |succ i=>simp at hy;simpa using g2 i y hy
def WI {ver:Nat->Nat}{is js:List Nat}:∀{a b:List Sh},Iq ver is js a=some b->b.length=a.length/\∀(i:Nat) (x:Sh),a[i]?=some x->∃y,b[i]?=some y/\lh ver is js x=some y
 |[],b,h=>by simp only[Iq,aZ] at h;subst h;exact⟨rfl,λi x h=>by simp at h⟩
 |s::l,b,h=>by
  simp only[Iq,az,aB] at h;obtain⟨y,hy,r,hr,rfl⟩:=h;obtain⟨g1,g2⟩:=WI hr;refine⟨by simp[g1],λi x hx=>?_⟩;cases i with
  |zero=>simp at hx;subst hx;exact⟨y,rfl,hy⟩
  |succ i=>simp at hx;simpa using g2 i x hx
def On {ver:Nat->Nat}{is js:List Nat}:∀{a b:List (Nat×Nat)},Ip ver is js a=some b->b.length=a.length/\∀(i x v:Nat),a[i]?=some (x,v)->∃j,b[i]?=some (j,ver j)/\cM is js x=some j/\v=0
 |[],b,h=>by simp only[Ip,aZ] at h;subst h;exact⟨rfl,λi x v h=>by simp at h⟩
 |s::l,b,h=>by
  simp only[Ip] at h;cases hb:Nat.beq s.2 0<;>simp only[hb,zyy,zyx] at h
  .cases h
  simp only[az,aB] at h;obtain⟨y,hy,r,hr,rfl⟩:=h;obtain⟨g1,g2⟩:=On hr;refine⟨by simp[g1],λi x v hx=>?_⟩;cases i with
  |zero=>simp at hx;subst hx;exact⟨y,rfl,hy,ay hb⟩
  |succ i=>simp at hx;simpa using g2 i x v hx
def WH {ver:Nat->Nat}{is js:List Nat}{s x:Sh}(h:lh ver is js s=some x):(∀gs s',s≠.opt gs s')/\∀gs s',x≠.opt gs s':=by
 cases s<;>simp only[lh] at h
 case none=>cases h;exact⟨(λ_ _ e=>by cases e),(λ_ _ e=>by cases e)⟩
 case dat=>cases h;exact⟨(λ_ _ e=>by cases e),(λ_ _ e=>by cases e)⟩
 case obj i v=>
  cases hb:Nat.beq v 0<;>simp only[hb,zyy,zyx] at h
  .cases h
  simp only[aB] at h;obtain⟨j,_,rfl⟩:=h;exact⟨(λ_ _ e=>by cases e),(λ_ _ e=>by cases e)⟩
 case ptr i v off=>
  cases hb:Nat.beq v 0<;>simp only[hb,zyy,zyx] at h
  .cases h
  simp only[aB] at h;obtain⟨j,_,rfl⟩:=h;exact⟨(λ_ _ e=>by cases e),(λ_ _ e=>by cases e)⟩
 case fclo f caps=>
  simp only[aB] at h;obtain⟨j,_,rfl⟩:=h;exact⟨(λ_ _ e=>by cases e),(λ_ _ e=>by cases e)⟩
 all_goals cases h
section
variable {C:Ctx} {S S1:St} {O ρ1:Env} {V σ1:Im} {own dt:Nat->Option Nat} {hv aL:Nat->Value} {w0:World} {σ0:Base} {A:Nat->Prop} {a:Act} {w w1:World} {Z:aS} {dst:Nat}
 {is js:List Nat} {shs:List Sh} {obs:List (Nat×Ob)} {ρf:Env}
def aiV (hσ:Im.leR C.cap V σ1){eW:Nat->Value}(fZ:∀i j,cM is js i=some j->eW i=hv j){s x:Sh}(hr:lh S.ver is js s=some x){v:Value}{d:D}(h:aG C S O V hv x v d):aG C (fi shs obs) ρf σ1 eW s v d:=by
 cases s<;>simp only[lh] at hr
 case none=>trivial
 case dat=>cases hr;exact hσ.rep h
 case obj i ver=>
  cases hb:Nat.beq ver 0<;>simp only[hb,zyy,zyx] at hr
  .cases hr
  simp only[aB] at hr;obtain⟨j,hj,rfl⟩:=hr;exact⟨by rw[ay hb];exact jK _,λ_=>by rw[fZ i j hj];exact h.2 rfl⟩
 case ptr i ver off=>
  cases hb:Nat.beq ver 0<;>simp only[hb,zyy,zyx] at hr
  .cases hr
  simp only[aB] at hr;obtain⟨j,hj,rfl⟩:=hr;exact⟨by rw[ay hb];exact jK _,λ_=>by rw[fZ i j hj];exact h.2 rfl⟩
 case fclo f caps=>
  simp only[aB] at hr;obtain⟨c,hc,rfl⟩:=hr;obtain⟨g1,g2⟩:=On hc;obtain⟨vs,h1,h2,h3⟩:=h;refine⟨vs,h1,by omega,λi x ver hi=>?_⟩;obtain⟨j,e1,e2,e3⟩:=g2 i x ver hi;exact⟨by rw[e3];exact jK _,λ_=>by rw[fZ x j e2];exact(h3 i j _ e1).2 rfl⟩
 all_goals cases hr
def awK (hσ:V.le σ1){eW:Nat->Value}(fZ:∀i j,cM is js i=some j->eW i=aL j){s x:Sh}(hr:lh S1.ver is js s=some x){v:Value}{d:D}(h:aG C (fi shs obs) ρf V eW s v d):aG C S1 ρ1 σ1 aL x v d:=by
 cases s<;>simp only[lh] at hr
 case none=>cases hr;trivial
 case dat=>cases hr;exact Rep.mono hσ h
 case obj i ver=>
  cases hb:Nat.beq ver 0<;>simp only[hb,zyy,zyx] at hr
  .cases hr
  simp only[aB] at hr;obtain⟨j,hj,rfl⟩:=hr;exact⟨aX _,λ_=>by rw[<-fZ i j hj];exact h.2 (ay hb)⟩
 case ptr i ver off=>
  cases hb:Nat.beq ver 0<;>simp only[hb,zyy,zyx] at hr
  .cases hr
  simp only[aB] at hr;obtain⟨j,hj,rfl⟩:=hr;exact⟨aX _,λ_=>by rw[<-fZ i j hj];exact h.2 (ay hb)⟩
 case fclo f caps=>
  simp only[aB] at hr;obtain⟨c,hc,rfl⟩:=hr;obtain⟨g1,g2⟩:=On hc;obtain⟨vs,h1,h2,h3⟩:=h;refine⟨vs,h1,by omega,λi j ver hi=>?_⟩;have af:i<caps.length:=by have:=(eu.1 hi).1;omega
  obtain⟨j',e1,e2,e3⟩:=g2 i _ _ (aU af);rw[hi] at e1;cases e1;exact⟨aX _,λ_=>by rw[<-fZ _ j e2];exact(h3 i _ _ (aU af)).2 e3⟩
 all_goals cases hr
def an0 {c x:Sh}(hf:E8 c x=true){v:Value}{d:D}(h:aG C S O V hv c v d):aG C S O V hv x v d:=by
 cases x with
 |none=>trivial
 |dat b=>
  simp only[E8] at hf;split at hf
  .exact Rep.sub h hf
  .cases hf
 |_=>simp only[E8] at hf;rw[Sh.beq_eq _ _ hf] at h;exact h
def auD (hσ:Im.leR C.cap V σ1){eW:Nat->Value}{GP:Nat->Option Nat}(fZ:∀i j,cM is js i=some j->eW i=hv j)(bp:∀k j i,own k=some j->cM js is j=some i->GP k=some i)(bo:js.Nodup){i j N:Nat}(dw:cM is js i=some j)(hρ:ρf.o i=O.o j){ob x:Ob}
 (hr:sC S.ver is js ob=some x) (hf:BQ (S.o j) x=true) (h:bY C S O V own hv w N j (S.o j)):bY C (fi shs obs) ρf σ1 GP eW w N i ob:=by
 have kA:=Mw bo dw;cases ob<;>simp only[sC] at hr
 case row T e=>
  cases hr;cases ho:S.o j<;>rw[ho] at hf h<;>simp only[BQ,ao] at hf<;>try (cases hf;done)
  obtain⟨cells,xs,h1,h2,h3,h4⟩:=h;rw[ay hf.1,Ty.beq_eq _ _ hf.2] at*;exact⟨cells,xs,by rw[hρ];exact h1,by rw[fZ i j dw];exact h2,h3.monoR hσ,λk hk=>bp k j i (h4 k (by rw[<-fZ i j dw];exact hk)) kA⟩
 case mp kt et=>
  cases hr;cases ho:S.o j<;>rw[ho] at hf h<;>simp only[BQ,ao] at hf<;>try (cases hf;done)
  obtain⟨k,arr,clock,es,h1,h2,h3,h4,h5,h6,h7⟩:=h;rw[Ty.beq_eq _ _ hf.1,Ty.beq_eq _ _ hf.2] at*;exact⟨k,arr,clock,es,by rw[fZ i j dw];exact h1,bp k j i h2 kA,h3,by rw[hρ];exact h4,h5,h6,λn e p he hp=>⟨hσ.rep (h7 n e p he hp).1,hσ.rep (h7 n e p he hp).2⟩⟩
 case box ag cs=>
  simp only[aB] at hr;obtain⟨QU,cH,rfl⟩:=hr;cases ho:S.o j<;>rw[ho] at hf h<;>simp only[BQ,ao] at hf<;>try (cases hf;done)
  obtain⟨k,vs,T,ds,h1,h2,h3,h4,h5,h6,h7⟩:=h;obtain⟨l1,g1⟩:=acn hf.2;obtain⟨l2,g2⟩:=WI cH;refine⟨k,vs,T,ds,by rw[fZ i j dw];exact h1,bp k j i h2 kA,h3,by omega,by rw[hρ];exact h5,by omega,λn s hs=>?_⟩;obtain⟨y,hy,Gd⟩:=g2 n s hs;obtain⟨z,hz,B9⟩:=g1 n y hy;exact⟨(WH Gd).1,aiV hσ fZ Gd (an0 B9 (h7 n z hz).2)⟩
 all_goals cases hr
def auE (hσ:V.le σ1){eW:Nat->Value}{GP:Nat->Option Nat}(fZ:∀i j,cM is js i=some j->eW i=aL j)(bp:∀k i j,GP k=some i->cM is js i=some j->dt k=some j){i j N:Nat}(dw:cM is js i=some j)(hρ:ρ1.o j=ρf.o i){ob x:Ob}
 (hr:sC S1.ver is js ob=some x) (h:bY C (fi shs obs) ρf V GP eW w N i ob):bY C S1 ρ1 σ1 dt aL w N j x:=by
 cases ob<;>simp only[sC] at hr
 case row T e=>
  cases hr;obtain⟨cells,xs,h1,h2,h3,h4⟩:=h;exact⟨cells,xs,by rw[hρ];exact h1,by rw[<-fZ i j dw];exact h2,h3.mono hσ,λk hk=>bp k i j (h4 k (by rw[fZ i j dw];exact hk)) dw⟩
 case mp kt et=>
  cases hr;obtain⟨k,arr,clock,es,h1,h2,h3,h4,h5,h6,h7⟩:=h;exact⟨k,arr,clock,es,by rw[<-fZ i j dw];exact h1,bp k i j h2 dw,h3,by rw[hρ];exact h4,h5,h6,λn e p he hp=>⟨(h7 n e p he hp).1.mono hσ,(h7 n e p he hp).2.mono hσ⟩⟩
 case box ag cs=>
  simp only[aB] at hr;obtain⟨QU,cH,rfl⟩:=hr;obtain⟨k,vs,T,ds,h1,h2,h3,h4,h5,h6,h7⟩:=h;obtain⟨l2,g2⟩:=WI cH;refine⟨k,vs,T,ds,by rw[<-fZ i j dw];exact h1,bp k i j h2 dw,h3,by omega,by rw[hρ];exact h5,by omega,λn s hs=>?_⟩;have af:n<cs.length:=by have:=(eu.1 hs).1;omega
  obtain⟨y,hy,Gd⟩:=g2 n _ (aU af);rw[hs] at hy;cases hy;exact⟨(WH Gd).2,awK hσ fZ Gd (h7 n _ (aU af)).2⟩
 all_goals cases hr
def awJ {ver:Nat->Nat}{ob x:Ob}(hr:sC ver is js ob=some x):x≠.tr:=by
 cases ob<;>simp only[sC] at hr
 case row=>cases hr;intro e;cases e
 case mp=>cases hr;intro e;cases e
 case box=>
  simp only[aB] at hr;obtain⟨_,_,rfl⟩:=hr;intro e;cases e
 all_goals cases hr
def CtxOK.noM (h:CtxOK C V):CtxOK C V.noM:=⟨λg x hx=>(h.glob g x hx).noM,λg x hx=>by
 have:=h.mg g x hx;have au:V.m g≠some cC:=λe'=>by rw[this] at e';exact xd (ur e')
 simp only[Im.noM,if_neg au,this]⟩
def DL (C:Ctx)(S:St)(O:Env)(V:Im)(hv:Nat->Value)(x:px)(v:Value)(d:D):Prop:=aG C S O V hv x.1 v d/\∀y,x.2=some y->Rep C.cap V y.1 v (y.2.ev O)
def acj:∀{acts:List px} {shs:List Sh} {es:List PE},vP S is js acts shs=some es->acts.length=shs.length/\es.length=shs.length/\∀(t:Nat) (s:Sh),shs[t]?=some s->∃x e,acts[t]?=some x/\es[t]?=some e/\E7 S is js x s=some e
 |[],[],es,h=>by simp only[vP,aZ] at h;subst h;exact⟨rfl,rfl,λt s h=>by simp at h⟩
 |[],_::_,es,h=>by simp[vP] at h
 |_::_,[],es,h=>by simp[vP] at h
 |x::acts,s::shs,es,h=>by
  simp only[vP,az,aB] at h;obtain⟨e,he,r,hr,rfl⟩:=h;obtain⟨g1,g2,g3⟩:=acj hr;refine⟨by simp[g1],by simp[g2],λt s' hs=>?_⟩;cases t with
  |zero=>simp at hs;subst hs;exact⟨x,e,rfl,rfl,he⟩
  |succ t=>simp at hs;simpa using g3 t s' hs
def anY (hσ:Im.leR C.cap V σ1){eW:Nat->Value}(fZ:∀i j,cM is js i=some j->eW i=hv j){x:px}{s:Sh}{e:PE}(hf:E7 S is js x s=some e){v:Value}{d:D}(h:DL C S O V hv x v d):aG C (fi shs obs) ρf σ1 eW s v (e.ev O):=by
 have gen:∀s,(match lh S.ver is js s with|some y=>bif Sh.beq x.1 y then some (PE.con .none) else none|none=>none)=some e->qg s=false->aG C (fi shs obs) ρf σ1 eW s v (e.ev O):=by
  intro s hm hd;split at hm
  .rename_i y hy;cases hb:Sh.beq x.1 y<;>simp only[hb,zyy,zyx] at hm
   .cases hm
   have h1:=h.1;rw[Sh.beq_eq _ _ hb] at h1;have:=aiV (shs:=shs) (obs:=obs) (ρf:=ρf) hσ fZ hy h1;cases s with
   |dat t=>cases hd
   |opt gs s'=>exact absurd rfl ((WH hy).1 gs s')
   |eptr j ver size off=>simp[lh] at hy
   |agg l=>simp[lh] at hy
   |_=>exact this
  .cases hm
 unfold E7 at hf;split at hf
 .rename_i t;split at hf
  .rename_i y hy;cases hb:Ty.sub y.1 t<;>simp only[hb,zyy,zyx] at hf
   .cases hf
   cases hf;exact hσ.rep ((h.2 y hy).sub hb)
  .cases hf
 .trivial
 .rename_i kQ rL;refine gen _ hf ?_;cases s<;>first|rfl|exact absurd rfl (kQ _)
def amG {eW Td:Nat->Value}{V V':Im}{ρf Of':Env}{args:Nat->Value}{ds ds':Nat->D}(h1:∀(t:Nat) (s:Sh),shs[t]?=some s->aG C (fi shs obs) ρf V eW s (args t) (ds t))(h2:∀(t:Nat) (s:Sh),shs[t]?=some s->qg s=false->aG C (fi shs obs) Of' V' Td s (args t) (ds' t))
 (hz:∀s,s∈shs->∃x,lh S.ver is js s=some x) {i:Nat} (hi:i∈rk shs):Td i=eW i:=by
 have key:∀(l:List Sh),(∀s,s∈l->∃t:Nat,shs[t]?=some s)->i∈rk l->Td i=eW i:=by
  intro l
  induction l with
  |nil=>intro _ h;cases h
  |cons s l ih=>
   intro hl hi;obtain⟨t,ht⟩:=hl s (fR ..);have tp:∀s,s∈l->∃t:Nat,shs[t]?=some s:=λs hs=>hl s (fq _ hs);obtain⟨x,hx⟩:=hz s (kh ht);have a1:=h1 t s ht;have a2:=h2 t s ht;cases s<;>simp only[rk] at hi
   case obj j ver=>
        simp only[lh] at hx;cases hb:Nat.beq ver 0<;>simp only[hb,zyy,zyx] at hx
        .cases hx
        rcases cB.1 hi with e|e
        .subst e;rw[<-(a1.2 (ay hb)),<-((a2 rfl).2 (ay hb))]
        .exact ih tp e
   case ptr j ver off=>
        simp only[lh] at hx;cases hb:Nat.beq ver 0<;>simp only[hb,zyy,zyx] at hx
        .cases hx
        rcases cB.1 hi with e|e
        .subst e;obtain⟨k1,e1,e2⟩:=a1.2 (ay hb);obtain⟨k2,e3,e4⟩:=(a2 rfl).2 (ay hb);rw[e2] at e4;cases e4;rw[e1,e3]
        .exact ih tp e
   case fclo f caps=>
        simp only[lh,aB] at hx;obtain⟨c,hc,_⟩:=hx;obtain⟨_,g2⟩:=On hc;rcases dC.1 hi with e|e
        .obtain⟨y,hy,e1⟩:=cr.1 e;subst e1;obtain⟨m,hm⟩:=Ap hy;obtain⟨vs,b1,b2,b3⟩:=a1;obtain⟨Ab,c1,c2,c3⟩:=a2 rfl;rw[b1] at c1;have jd:vs=Ab:=by simpa using c1
         subst jd;obtain⟨_,_,_,tF⟩:=g2 m y.1 y.2 hm;rw[<-(b3 m y.1 y.2 hm).2 tF,<-(c3 m y.1 y.2 hm).2 tF]
        .exact ih tp e
   all_goals exact ih tp hi
 exact key shs (λs hs=>Ap hs) hi
end
section
variable {C:Ctx} {S:St} {O:Env} {V:Im} {own:Nat->Option Nat} {hv:Nat->Value} {w0:World} {σ0:Base} {A:Nat->Prop} {a:Act} {w:World} {Z:aS} {dst:Nat}
 {is js:List Nat} {shs:List Sh} {obs:List (Nat×Ob)}
def Below.weak {B:Nat}{w w':World}(h:Below 0 w w')(hk:∀k,k<B->w'.heap[k]?=w.heap[k]?):Below B w w':=⟨h.os,h.tape,h.output,h.size,hk⟩
def qs (js is:List Nat)(own:Nat->Option Nat):Nat->Option Nat:=λk=>(own k).bind (cM js is)
def GO (js is:List Nat)(own own':Nat->Option Nat):Nat->Option Nat:=λk=>
 match own' k with
 |some i=>cM is js i
 |none=>match own k with|some j=>(match cM js is j with|some _=>none|none=>some j)|none=>none
def handed (h:Inv C S O V own hv w0 σ0 A a w)(hC:CtxOK C σ0)(F5:zo shs obs=true)(FK:is=obs.map (·.1))(adF:is.Nodup)(LW:js.Nodup)(LK:sZ S is js obs js=true){acts:List px}{es:List PE}(jT:vP S is js acts shs=some es)
 (LG:S.o jm=.dead) (L9:jm∉js) {vals:List Value} (hvl:vals.length=acts.length) (apJ:∀(t:Nat) (x:px),acts[t]?=some x->∃d,DL C S O V hv x (vals.getD t undef) d) {f:Nat} {res:Ty} {d:D}
 (hfn:uk C f shs obs res (es.map (PE.ev O)++js.map O.o) d):
 Calls C.P f vals.toArray w λe w'=>∃v dr os,e=.returned v/\d=.tup (dr::os)/\os.length=js.length/\
  ∀O':Env,O'.r=O.r->(∀(k j:Nat),js[k]?=some j->O'.o j=os.getD k .none)->(∀j,j∉js->j≠jm->O'.o j=O.o j)->
   ∃σ1 dt aL,Inv C (S.handed shs obs is js) O' σ1 dt aL w0 σ0 A a w'/\Rep C.cap σ1 res v dr:=by
 obtain⟨al1,al2,ju⟩:=acj jT;have fF:=acm LK;have wj:w0.heap.size<=w.heap.size:=h.below.size;obtain⟨tr,fx,cx,hf,uW⟩:=h.frame
 let eW:Nat->Value:=λi=>match cM is js i with|some j=>hv j|none=>undef
 have fZ:∀i j,cM is js i=some j->eW i=hv j:=λi j e=>by simp only[eW,e]
 have adv:Im.leR C.cap V V.noM:=⟨Rep.noM,λ_ _ _ e=>e⟩
 have FX:∀k x,V.noM.m k=some x->V.m k=some x/\x≠cC:=by
  intro k x e;by_cases hd:V.m k=some cC
  .simp[Im.noM,hd] at e
  .simp only[Im.noM,if_neg hd] at e;exact⟨e,λe2=>hd (by rw[e,e2])⟩
 have jS:(es.map (PE.ev O)++js.map O.o).drop shs.length=js.map O.o:=by rw[List.drop_append];simp[al2]
 have aqr:∀t e,es[t]?=some e->(es.map (PE.ev O)++js.map O.o).getD t .none=e.ev O:=λt e he=>by
  have af:=(eu.1 he).1;rw[aE,nP (by simpa using af),bX,he];rfl
 have ary:∀s,s∈shs->∃x,lh S.ver is js s=some x:=by
  intro s hs;obtain⟨t,ht⟩:=Ap hs;obtain⟨x,e,_,_,he⟩:=ju t s ht;unfold E7 at he;split at he
  .exact⟨_,rfl⟩
  .exact⟨_,rfl⟩
  .split at he
   .rename_i y hy;exact⟨y,hy⟩
   .cases he
 have adp:∀t,aG C (fi shs obs) (lQ obs (es.map (PE.ev O)++js.map O.o) ((es.map (PE.ev O)++js.map O.o).drop shs.length)) V.noM eW (shs.getD t .none) (vals.toArray.getD t undef) ((es.map (PE.ev O)++js.map O.o).getD t .none):=by
  intro t;cases hs:shs[t]? with
  |none=>rw[aE,hs];trivial
  |some s=>
   obtain⟨x,e,hx,he,yH⟩:=ju t s hs;obtain⟨d',apK⟩:=apJ t x hx;rw[aE (l:=shs),hs,aqr t e he];have e1:vals.toArray.getD t undef=vals.getD t undef:=by simp[fe,aE]
   rw[e1];exact anY adv fZ yH apK
 have aqE:∀i,bY C (fi shs obs) (lQ obs (es.map (PE.ev O)++js.map O.o) ((es.map (PE.ev O)++js.map O.o).drop shs.length)) V.noM (qs js is own) eW w w0.heap.size i (ei obs i):=by
  intro i;cases dw:cM is js i with
  |none=>subst FK;rw[ae2 fF dw];trivial
  |some j=>
   subst FK;obtain⟨x,hx,LL⟩:=ack LK dw;refine auD adv fZ (λk j' i' hk hl=>by simp only[qs,hk,pE,hl]) LW dw ?_ hx LL (h.objs j);show oV obs _ i=_;rw[jS];exact asO obs O.o rfl dw
 have cY:=hfn w0.heap.size V.noM (qs js is own) eW w vals.toArray (λk=>(∃j,own k=some j/\cM js is j=none)\/V.m k=some cC\/(cx k)) F5 ⟨h.ok.c,λk x e=>h.ok.m k x (FX k x e).1,h.ok.f⟩ ((hC.mono h.le).noM)
  (λk e=>(FX k _ e).2 rfl) wj (by simp;omega) (λk i hk=>by
    simp only[qs,az] at hk;obtain⟨j,hj,_⟩:=hk;obtain⟨g1,g2,g3,g4⟩:=h.owns k j hj;exact⟨g1,g2,g3,by by_cases e:V.m k=some cC<;>simp[Im.noM,e,g4]⟩) (λk hk=>by
    rcases hk with⟨j,hj,hn⟩|hk|hk
    .obtain⟨g1,g2,g3,g4⟩:=h.owns k j hj;exact⟨g2,by simp[qs,hj,hn],g3,by by_cases e:V.m k=some cC<;>simp[Im.noM,e,g4]⟩
    .have FT:=h.ok.m k _ hk;have hn:own k=none:=by
      cases e:own k with
      |none=>rfl
      |some j=>rw[(h.owns k j e).2.2.2] at hk;cases hk
     refine⟨FT.lt,by simp[qs,hn],λo=>?_,by simp[Im.noM,hk]⟩;cases e:V.c k o with
     |none=>exact e
     |some x=>
      have c1:=h.ok.c k o x e;rcases FT with⟨m1,_⟩|⟨_,m2⟩|⟨m3,_⟩
      .exact absurd rfl m1
      .simp[World.cell?,m2] at c1
      .exact absurd m3.symm xd
    .have lE:=σ0.sub _ _ _ _ hf.F k hk;have hn:own k=none:=by
      cases e:own k with
      |none=>rfl
      |some j=>exact absurd lE (hf.own k j e)
     refine⟨σ0.lt _ _ _ _ hf.F k lE,by simp[qs,hn],λo=>?_,?_⟩
     .cases e:V.c k o with
      |none=>exact e
      |some x=>exact absurd hk (hf.c k o x e)
     .cases e:V.m k with
      |none=>simp[Im.noM,e]
      |some x=>exact absurd hk (hf.m k x e)) adp aqE
 refine cY.mono λe w' hh=>?_;obtain⟨v,V',own',hv',dr,os,rfl,hd,SF,hle,ar,hb,iJ,dp,cQ,v8,adQ,rJ,SC,fX⟩:=hh;refine⟨v,dr,os,rfl,hd,by omega,λO' ml ng yW=>?_⟩;have FY:∀k,k<w.heap.size->own k=none->w'.heap[k]?=w.heap[k]?:=λk hk hn=>iJ k hk (by simp[qs,hn]);have arj:∀k j,own k=some j->cM js is j=none->w'.heap[k]?=w.heap[k]?:=λk j hk hn=>iJ k (h.owns k j hk).2.1 (by simp[qs,hk,hn])
 have ac5:∀k o x,V.c k o=some x->own k=none:=λk o x e=>by
  cases e1:own k with
  |none=>rfl
  |some j=>rw[(h.owns k j e1).2.2.1 o] at e;cases e
 have adE:∀k x,V.m k=some x->own k=none:=λk x e=>by
  cases e1:own k with
  |none=>rfl
  |some j=>rw[(h.owns k j e1).2.2.2] at e;cases e
 have adJ:V.ok w':=⟨λk o x e=>by rw[World.cell?_of_block (FY k (h.lt e) (ac5 k o x e))];exact h.ok.c k o x e,λk x e=>(h.ok.m k x e).keep (FY k (h.ltm e) (adE k x e)),h.ok.fz λk o x e=>FY k (h.lt e) (ac5 k o x e)⟩
 have mf:V.le (V'.plus V):=Im.plus_le2 ar adJ;have iI:V'.le (V'.plus V):=Im.plus_le1 V' V;have cH:∀k o x,(V'.plus V).c k o=some x->V'.c k o=some x:=λk o x e=>(Im.plus_c e).elim id (λe=>hle.c k o x e)
 have Ce:∀k x,(V'.plus V).m k=some x->V'.m k=some x\/(V.m k=some x/\x=cC):=λk x e=>(Im.plus_m e).elim .inl (λe=>by
  by_cases hd:x=cC
  .exact .inr ⟨e,hd⟩
  .refine .inl (hle.m k x ?_);have:V.m k≠some cC:=λe2=>hd (by rw[e] at e2;cases e2;rfl);simp only[Im.noM,if_neg this,e])
 let aL:Nat->Value:=λj=>match cM js is j with|some i=>hv' i|none=>hv j
 have ar8:∀i j,cM is js i=some j->hv' i=aL j:=λi j e=>by simp only[aL,Mw LW e]
 have ap8:∀i,i∈rk shs->hv' i=eW i:=λi hi=>amG (S:=S) (is:=is) (js:=js) (args:=λt=>vals.toArray.getD t undef) (ds:=λt=>(es.map (PE.ev O)++js.map O.o).getD t .none) (ds':=λt=>(es.map (PE.ev O)++js.map O.o).getD t .none) (λt s hs=>by
  have:=adp t;rw[aE (l:=shs),hs] at this;exact this) (λt s hs hd=>rJ t s hs hd) ary hi
 have th:Compat S hv (S.handed shs obs is js) aL:=by
  refine⟨λj=>?_,λj e=>?_⟩
  .show S.ver j<=xr S.ver shs is js j;unfold xr;split
   .cases aC (rk shs) _<;>simp
   .exact aX _
  .change xr S.ver shs is js j=S.ver j at e;show aL j=hv j;simp only[aL];unfold xr at e;split at e
   .rename_i i hi;cases hb:aC (rk shs) i<;>rw[hb] at e
    .simp at e
    .try simp only[hi]
     rw[ap8 i (ael.1 hb),fZ i j (Mw adF hi)]
   .rename_i hi;try simp only[hi]
 have oG:∀k j,GO js is own own' k=some j->(k<w.heap.size->own k≠none)/\w0.heap.size<=k/\k<w'.heap.size/\(∀o,V'.c k o=none)/\V'.m k=none/\V.m k≠some cC:=by
  intro k j hk;simp only[GO] at hk;split at hk
  .rename_i i hi;obtain⟨g1,g2,g3,g4,g5⟩:=adQ k i hi;have g6:k<w.heap.size->own k≠none:=λaf e=>g5 af (by simp[qs,e]);refine⟨g6,g1,g2,g3,g4,λe=>?_⟩;exact g6 (h.ltm e) (adE k _ e)
  .split at hk
   .rename_i j' bC;split at hk
    .cases hk
    .rename_i hn;obtain⟨g1,g2,g3,g4⟩:=h.owns k j' bC;have dR:(∃j,own k=some j/\cM js is j=none)\/V.m k=some cC\/(cx k):=.inl ⟨j',bC,hn⟩;refine⟨λ_ e=>(by rw[bC] at e;cases e),g1,lu g2 hb.size,λo=>?_,?_,λe=>?_⟩
     .cases e:V'.c k o with
      |none=>rfl
      |some x=>exact absurd dR (dp k o x e).2
     .cases e:V'.m k with
      |none=>rfl
      |some x=>exact absurd dR (cQ k x e).2
     .rw[g4] at e;cases e
   .cases hk
 refine⟨V'.plus V,GO js is own own',aL,⟨h.defers.mono mf,Im.plus_ok ar adJ,h.le.trans mf,h.old,λk o x e=>?_,λk x e=>?_,h.below.trans (Below.weak hb λk hk=>?_),h.bw,λk j hk=>?_,λt=>?_,λj=>?_,h.opts,?_⟩,fX.mono iI⟩
 .rcases(dp k o x (cH k o x e)).1 with e1|e1
  .exact h.newc k o x e1
  .exact .inr e1
 .rcases Ce k x e with e1|e1
  .rcases(cQ k x e1).1 with e2|e2
   .exact h.newm k x (FX k x e2).1
   .exact .inr e2
  .exact h.newm k x e1.1
 .have cE:k<w0.heap.size:=lu hk h.bw;refine FY k (by omega) ?_;cases e:own k with
  |none=>rfl
  |some j=>have:=(h.owns k j e).1;omega
 .obtain⟨_,g1,g2,g3,g4,g5⟩:=oG k j hk;refine⟨g1,g2,λo=>?_,?_⟩
  .cases e:(V'.plus V).c k o with
   |none=>rfl
   |some x=>have:=cH k o x e;rw[g3 o] at this;cases this
  .cases e:(V'.plus V).m k with
   |none=>rfl
   |some x=>
    rcases Ce k x e with e1|e1
    .rw[g4] at e1;cases e1
    .exact absurd (by rw[e1.1,e1.2]) g5
 .show aG C _ O' _ aL (S.r t) _ (O'.r t);rw[ml]
  exact aG.mono mf th (λgs s e=>by
   unfold holds;rw[ml]) (λgs s e=>(h.opts t gs s e).2) (h.regs t)
 .show bY C _ O' _ _ aL w' _ j (match cM js is j with|some i=>(match sC (xr S.ver shs is js) is js (ei obs i) with|some o=>o|none=>.dead)|none=>S.o j);split
  .rename_i i hi;have dw:=Mw adF hi;split
   .rename_i x hx;refine auE (S1:=S.handed shs obs is js) iI ar8 (λk i' j' hk hl=>by simp only[GO,hk,hl]) dw ?_ hx (SC i);subst FK;obtain⟨k,bD,cE⟩:=aeV (os:=os) SF dw;show O'.o j=oV obs os i;rw[cE];exact ng k j bD
   .trivial
  .rename_i hn
   have Su:j∉js:=λhm=>by
        obtain⟨k,hk⟩:=Ap hm;have af:k<is.length:=by
         have:=(eu.1 hk).1;rw[FK,ef];omega
        have:=Mv LW hk (aU af);rw[hn] at this;cases this
   by_cases LQ:j=jm
   .subst LQ;rw[LG];trivial
   .refine(h.objs j).mono mf th (by show aL j=hv j;simp only[aL,hn]) (yW j Su LQ) (λk hk=>⟨?_,arj k j hk hn⟩);have:own' k=none:=by
     cases e:own' k with
     |none=>rfl
     |some i=>exact absurd (by simp[qs,hk,hn]) ((adQ k i e).2.2.2.2 (h.owns k j hk).2.1)
    simp only[GO,this,hk,hn]
 .refine⟨tr,fx,cx,⟨σ0.keep _ _ _ _ _ hf.F hb λk hk=>?_,λk j hk lE=>?_,λk o x e hc=>?_,λk x e hc=>?_,λk e hB hk=>?_⟩,λj hj=>?_⟩
  .refine FY k (σ0.lt _ _ _ _ hf.F k hk) ?_;cases e:own k with
   |none=>rfl
   |some j=>exact absurd hk (hf.own k j e)
  .have af:=σ0.lt _ _ _ _ hf.F k lE;have:=(oG k j hk).1 af;cases e:own k with
   |none=>exact this e
   |some j'=>exact hf.own k j' e lE
  .exact(dp k o x (cH k o x e)).2 (.inr (.inr hc))
  .rcases Ce k x e with e1|e1
   .exact(cQ k x e1).2 (.inr (.inr hc))
   .exact hf.m k x e1.1 hc
  .rcases Ce k _ e with e1|e1
   .have af:=σ0.lt _ _ _ _ hf.F k hk;refine v8 k e1 hB af ?_;have:own k=none:=by
     cases e:own k with
     |none=>rfl
     |some j=>exact absurd hk (hf.own k j e)
    simp[qs,this]
   .exact hf.d k e1.1 hB hk
  .change (match cM js is j with|some i=>(match sC (xr S.ver shs is js) is js (ei obs i) with|some o=>o|none=>.dead)|none=>S.o j)=.tr at hj;split at hj
   .rename_i i hi;split at hj
    .rename_i x hx;exact absurd hj (awJ hx)
    .cases hj
   .rename_i hn
    have Su:j∉js:=λhm=>by
     obtain⟨k,hk⟩:=Ap hm;have af:k<is.length:=by
         have:=(eu.1 hk).1;rw[FK,ef];omega
     have:=Mv LW hk (aU af);rw[hn] at this;cases this
    have LQ:j≠jm:=λe=>by subst e;rw[LG] at hj;cases hj
    rw[yW j Su LQ];exact uW j hj
def aje:∀(js:List Nat) (k:Nat) {O O':Env} {l:List D},PI.runs Z (Iw js k) O=some O'->O.o jm=.tup l->jm∉js->js.Nodup->
 O'.r=O.r/\(∀(i j:Nat),js[i]?=some j->O'.o j=l.getD (k+i) .none)/\∀j,j∉js->O'.o j=O.o j
 |[],k,O,O',l,h,hs,hn,hd=>by
  simp only[Iw,PI.runs,aZ] at h;subst h;exact⟨rfl,λi j e=>by simp at e,λ_ _=>rfl⟩
 |x::js,k,O,O',l,h,hs,hn,hd=>by
  simp only[Iw,PI.runs,PI.run,pE,PE.ev,hs,D.tget] at h;simp only[cB,not_or] at hn;have gw:=pB.1 hd;obtain⟨g1,g2,g3⟩:=aje js (k+1) h (by simp only[Env.setO];rw[bB _ _ hn.1];exact hs) hn.2 gw.2;refine⟨g1,λi j e=>?_,λj hj=>?_⟩
  .cases i with
   |zero=>simp at e;subst e;rw[g3 _ gw.1];simp[Env.setO,aN]
   |succ i=>simp at e;rw[g2 i j e];congr 1;omega
  .simp only[cB,not_or] at hj;rw[g3 j hj.2];simp only[Env.setO];exact bB _ _ hj.1
def akG (h:Inv C S O V own hv w0 σ0 A a w)(hC:CtxOK C σ0)(x:Operand):∃d,DL C S O V hv (Jh C S x) (a.eval x) d:=by
 cases x with
 |tmp t=>
  refine⟨O.r t,?_,λy hy=>cv (gs:=[]) h hC rfl hy⟩;have:=(nD (gs:=[]) h rfl t).1;simpa [Act.eval,Jh,gL] using this
 |_=>exact⟨.none,trivial,λy hy=>cv (gs:=[]) h hC rfl hy⟩
def abT (h:Inv C S O V own hv w0 σ0 A a w)(hC:CtxOK C σ0)(hΦ:du C Z){f:Nat}{args:List Operand}{caps:List (Nat×Nat)}{vs:List Value}(jd:vs.length=caps.length)
 (eU:∀(i j ver:Nat),caps[i]?=some (j,ver)->ver<=S.ver j/\(ver=S.ver j->vs.getD i undef=hv j)) (rD:∀(i j ver:Nat),caps[i]?=some (j,ver)->ver=S.ver j->∃k,hv j=.pointer (some ⟨k,0,none⟩)) {r:St×Ty×List PI} (hr:sT C S f args caps=some r)
 {ρ1:Env} (ak:PI.runs Z r.2.2 O=some ρ1):
 Calls C.P f (args.map a.eval++vs).toArray w λe w'=>∃v σ1 dt aL,e=.returned v/\Inv C r.1 ρ1 σ1 dt aL w0 σ0 A a w'/\Rep C.cap σ1 r.2.1 v ((ρ1.o jm).tget 0):=by
 simp only[sT,az] at hr;obtain⟨s,hs,hr⟩:=hr;split at hr
 case h_2=>cases hr
 rename_i shs obs lH;obtain⟨σ2,jB,iI,h2⟩:=Inv.fzs (BT S args shs) h;have dF:=(rC (BT S args shs) S).1;generalize S.fzs (BT S args shs)=S2 at hr h2 dF;unfold Q4 Q3 at hr;generalize acg S2 shs obs (args.map (Jh C S2)++caps.map abk)=js at hr;simp only[az] at hr;obtain⟨es,jT,hr⟩:=hr;cases hb:(zo shs obs&&(hZ (obs.map (·.1))&&hZ js&&sZ S2 (obs.map (·.1)) js obs js&&qh (S2.o jm)&& !aC js jm))<;>simp only[hb,zyy,zyx] at hr
 .cases hr
 cases hr;simp only[ao,kK] at hb;obtain⟨b0,⟨⟨⟨b1,b2⟩,b3⟩,b4⟩,b5⟩:=hb;have kQ:=qn b1;have rL:=qn b2;have LG:S2.o jm=.dead:=by
  cases e:S2.o jm<;>rw[e] at b4<;>first|rfl|cases b4
 have L9:jm∉js:=λhm=>by rw[ael.2 hm] at b5;cases b5
 simp only[PI.runs,PI.run,az,aB] at ak;obtain⟨ρ2,⟨d,hd,rfl⟩,ak⟩:=ak;rw[PE.evs_eq,nR,nS] at hd;have e1:js.map (PE.ev O∘PE.o)=js.map O.o:=rfl;rw[e1] at hd;have hfn:=((hΦ f _ d hd s hs).2 shs obs lH).plain b0
 have cY:=handed h2 hC b0 rfl kQ rL b3 jT LG L9 (vals:=args.map a.eval++vs) (by simp[jd]) (λt x hx=>by
  rw[lZ] at hx;split at hx
  .rename_i af;rw[ef] at af;rw[bX,aU af] at hx;cases hx;have:(args.map a.eval++vs).getD t undef=a.eval args[t]:=by
        rw[aE,nP (by simpa using af),bX,aU af];rfl
   rw[this];exact akG h2 hC _
  .rename_i gV;rw[ef] at gV hx;rw[bX,aB] at hx;obtain⟨c,hc,rfl⟩:=hx;obtain⟨j,ver⟩:=c;have ct:(args.map a.eval++vs).getD t undef=vs.getD (t-args.length) undef:=by
        rw[aE,nQ (by simpa using gV),ef,aE]
   obtain⟨g1,g2⟩:=eU _ j ver hc;refine⟨.none,⟨by rw[dF];exact g1,λe=>?_⟩,λy hy=>by cases hy⟩;rw[dF] at e;obtain⟨k,hk⟩:=rD _ j ver hc e;exact⟨k,hk,by rw[ct,g2 e,hk]⟩) (hfn:=hfn)
 refine cY.mono λe w' hh=>?_;obtain⟨v,dr,os,rfl,rfl,SF,kz⟩:=hh;obtain⟨g1,g2,g3⟩:=aje js 1 (l:=dr::os) ak (by simp[Env.setO,aN]) L9 rL
 obtain⟨σ1,dt,aL,hinv,bI⟩:=kz ρ1 g1 (λk j hk=>by
  have:=g2 k j hk;rw[Av] at this;simpa using this) (λj hj au=>by rw[g3 j hj];simp only[Env.setO];exact bB _ _ au)
 refine⟨v,σ1,dt,aL,rfl,hinv,?_⟩;rw[g3 jm L9];simpa [Env.setO,aN,D.tget] using bI
def rZ (S:St)(dst:Option Nat)(r:St×Ty×List PI):St×List PI:=
 match dst with
 |some d=>(r.1.setR d (.dat r.2.1),r.2.2++[.setR d (.tget (.o jm) 0)])
 |none=>(r.1,r.2.2)
def aw1 {a b:List PI}{O:Env}:PI.runs Z (a++b) O=(PI.runs Z a O).bind (PI.runs Z b):=by
 induction a generalizing O with
 |nil=>simp[PI.runs]
 |cons x a ih=>
  simp only[IZ,PI.runs];cases x.run Z O with
  |none=>rfl
  |some ρ1=>simp[ih]
def abh {o:Oper}{f:Nat}{vals:List Value}(ht:∀d,o.dst=some d->¬A d/\d<a.tmps.size){r:St×Ty×List PI}(hx:(execOp a.eval o).run C.P w=.ok (.enter f vals.toArray) w)
 (hc:∀ρ1,PI.runs Z r.2.2 O=some ρ1->Calls C.P f vals.toArray w λe w'=>∃v σ1 dt aL,e=.returned v/\Inv C r.1 ρ1 σ1 dt aL w0 σ0 A a w'/\Rep C.cap σ1 r.2.1 v ((ρ1.o jm).tget 0)):bS C w0 σ0 Z S O A a w o (rZ S o.dst r):=by
 intro O' ak K Q hK;simp only[Oper.wp,hx,Oper.upon];cases hd:o.dst with
 |none=>
  rw[hd] at ak hK;refine(hc O' ak).mono λe w' hh=>?_;obtain⟨v,σ1,dt,aL,rfl,hinv,bI⟩:=hh;refine hK _ _ ⟨σ1,dt,aL,?_⟩ rfl;have:(λu=>A u\/(none:Option Nat)=some u)=A:=by funext u;simp
  rw[this];exact hinv
 |some d=>
  rw[hd] at ak hK;obtain⟨t1,t2⟩:=ht d hd;simp only[rZ,aw1,az] at ak;obtain⟨ρ1,h1,h2⟩:=ak;simp[PI.runs,PI.run,PE.ev] at h2;subst h2;refine(hc ρ1 h1).mono λe w' hh=>?_;obtain⟨v,σ1,dt,aL,rfl,hinv,bI⟩:=hh;refine hK _ _ ⟨σ1,dt,aL,?_⟩ (size_put _ _ _);have:(λu=>A u\/some d=some u)=(λu=>A u\/u=d):=by funext u;simp[eq_comm]
  rw[this];exact hinv.setReg t1 (s:=.dat r.2.1) bI t2 (λ_ _ e=>by cases e)
def abU (h:Inv C S O V own hv w0 σ0 A a w)(hC:CtxOK C σ0)(aY:dN C)(hΦ:du C Z){f:Nat}{args:Array Operand}{ts:Array TypeId}{r:St×Ty×List PI}{o:Oper}(ht:∀d,o.dst=some d->¬A d/\d<a.tmps.size)
 (hr:sT C S f args.toList []=some r) (ho:o.op=.call {callee:=.value (.func f),args:=args,argTypes:=ts}):bS C w0 σ0 Z S O A a w o (rZ S o.dst r):=by
 have hs:∃s,C.sig f=some s:=by
  simp only[sT,az] at hr;obtain⟨s,hs,_⟩:=hr;exact⟨s,hs⟩
 obtain⟨s,hs⟩:=hs;have hx:=Is (a:=a) (w:=w) aY hs ho;have kD:args.map a.eval=(args.toList.map a.eval++[]).toArray:=by apply uh;simp
 rw[kD] at hx;exact abh ht hx λρ1 ak=>abT h hC hΦ (vs:=[]) rfl (λi j ver e=>by simp at e) (λi j ver e=>by simp at e) hr ak
def AF (S:St):List (Nat×Nat)->Bool
 |[]=>true
 |c::l=>Nat.beq c.2 (S.ver c.1)&&(match S.o c.1 with|.box ..=>true|_=>false)&&AF S l
def abm (h:Inv C S O V own hv w0 σ0 A a w):∀{l:List (Nat×Nat)},AF S l=true->∀(i j ver:Nat),l[i]?=some (j,ver)->ver=S.ver j/\∃k,hv j=.pointer (some ⟨k,0,none⟩)
 |[],_,i,j,ver,e=>by simp at e
 |c::l,hl,i,j,ver,e=>by
  simp only[AF,ao] at hl;cases i with
  |zero=>
   simp at e;subst e;refine⟨ay hl.1.1,?_⟩;have h1:=hl.1.2;have h2:=h.objs j;split at h1
   .rename_i ag shs eo;simp only at eo;rw[eo] at h2;obtain⟨k,cs,T,ds,g1,_⟩:=h2;exact⟨k,g1⟩
   .cases h1
  |succ i=>simp at e;exact abm h hl.2 i j ver e
def BH (C:Ctx)(S:St)(t:Nat)(args:List Operand):Option (St×Ty×List PI):=
 match nC S [] t with
 |.fclo f caps=>bif AF S caps then sT C S f args caps else none
 |_=>none
def abS (h:Inv C S O V own hv w0 σ0 A a w)(hC:CtxOK C σ0)(aY:dN C)(hΦ:du C Z){t:Nat}{args:Array Operand}{ts:Array TypeId}{r:St×Ty×List PI}{o:Oper}(ht:∀d,o.dst=some d->¬A d/\d<a.tmps.size)
 (hr:BH C S t args.toList=some r) (ho:o.op=.call {callee:=.value (.tmp t),args:=args,argTypes:=ts}):bS C w0 σ0 Z S O A a w o (rZ S o.dst r):=by
 unfold BH at hr;split at hr
 case h_2=>cases hr
 rename_i f caps jV;cases hb:AF S caps<;>simp only[hb,zyy,zyx] at hr
 .cases hr
 have gy:=(nD (gs:=[]) h rfl t).1;rw[jV] at gy;obtain⟨vs,h1,h2,h3⟩:=gy;have hs:∃s,C.sig f=some s:=by
  simp only[sT,az] at hr;obtain⟨s,hs,_⟩:=hr;exact⟨s,hs⟩
 obtain⟨s,hs⟩:=hs;have hx:=ai7 (a:=a) (w:=w) (vs:=vs) (x:=.tmp t) aY hs (by simpa [Act.eval] using h1) ho;have kD:args.map a.eval++vs.toArray=(args.toList.map a.eval++vs).toArray:=by apply uh;simp
 rw[kD] at hx;exact abh ht hx λρ1 ak=>abT h hC hΦ h2 h3 (λi j ver e _=>(abm h hb i j ver e).2) hr ak
def Et (S:St):List Operand->Option (List (Nat×Nat))
 |[]=>some []
 |x::xs=>
  match x with
  |.tmp t=>
   match nC S [] t with
   |.ptr j ver off=>bif Nat.beq ver (S.ver j)&&Nat.beq off 0 then(Et S xs).map λr=>(j,ver)::r else none
   |_=>none
  |_=>none
def EW (C:Ctx)(S:St)(dst:Nat)(fn:Fn)(first caps:Array Operand):Option (St×List PI):=
 match fn,first.toList with
 |.func f,[]=>
  match C.sig f with
  |some s=>bif rQ s.mode then(Et S caps.toList).map λc=>(S.setR dst (.fclo f c),[.setR dst (.con .none)]) else none
  |none=>none
 |_,_=>none
def abn (h:Inv C S O V own hv w0 σ0 A a w):∀{l:List Operand} {c:List (Nat×Nat)},Et S l=some c->c.length=l.length/\∀(i j ver:Nat),c[i]?=some (j,ver)->ver<=S.ver j/\(ver=S.ver j->(l.map a.eval).getD i undef=hv j)
 |[],c,e=>by simp only[Et,aZ] at e;subst e;exact⟨rfl,λi j ver e=>by simp at e⟩
 |x::xs,c,e=>by
  simp only[Et] at e;split at e
  case h_2=>cases e
  rename_i t;split at e
  case h_2=>cases e
  rename_i j ver off jV;cases hb:(Nat.beq ver (S.ver j)&&Nat.beq off 0)<;>simp only[hb,zyy,zyx] at e
  .cases e
  simp only[ao] at hb;simp only[aB] at e;obtain⟨r,hr,rfl⟩:=e;obtain⟨g1,g2⟩:=abn h hr;have gy:=(nD (gs:=[]) h rfl t).1;rw[jV] at gy;refine⟨by simp[g1],λi j' nJ e=>?_⟩;cases i with
  |zero=>
   simp at e;obtain⟨rfl,rfl⟩:=e;refine⟨gy.1,λe=>?_⟩;obtain⟨k,k1,k2⟩:=gy.2 e;have e0:off=0:=ay hb.2;subst e0;rw[k1,<-k2];simp[Act.eval]
  |succ i=>simp at e;simpa using g2 i j' nJ e
def anf (h:Inv C S O V own hv w0 σ0 A a w)(ht:¬A dst)(af:dst<a.tmps.size){fn:Fn}{first caps:Array Operand}{r:St×List PI}{o:Oper}(hr:EW C S dst fn first caps=some r)(hd:o.dst=some dst)(ho:o.op=.makeFunc fn first caps):bS C w0 σ0 Z S O A a w o r:=by
 unfold EW at hr;split at hr
 case h_2=>cases hr
 rename_i f FE;split at hr
 case h_2=>cases hr
 rename_i s hs;cases hb:rQ s.mode<;>simp only[hb,zyy,zyx] at hr
 .cases hr
 simp only[aB] at hr;obtain⟨c,hc,rfl⟩:=hr;obtain⟨g1,g2⟩:=abn h hc;have R1:first=#[]:=by rw[<-vt];simpa using FE
 refine bS.value hd λO' ak=>⟨.func (.func f) #[] (caps.toList.map a.eval).toArray,w,?_,?_⟩
 .subst R1;have e9:caps.map a.eval=(caps.toList.map a.eval).toArray:=by apply uh;rw[vu]
  simp[execOp,ho,Instr.makeFunc,e9]
 .have hρ:O'=O.setR dst .none:=by simp[PI.runs,PI.run,PE.ev] at ak;exact ak.symm
  subst hρ;exact⟨_,_,_,h.setReg ht (s:=.fclo f c) ⟨_,rfl,by simp[g1],g2⟩ af (λ_ _ e=>by cases e)⟩
end
end Cx
