/-
  Calls.
-/
import Derived.Test.YtibbcfbmjlehcaaGreatDoorGAC
set_option linter.defProp false
set_option linter.unusedSimpArgs false
set_option linter.unusedVariables false
noncomputable section
namespace Cx
open Go Go.RowKit
open Classical in
def Im.noM (V:Im):Im:=⟨V.c,λk=>if V.m k=some cE then none else V.m k⟩
def Rep.noM {cap:Nat->Option CSig}{V:Im}{t:Ty}{v:Value}{d:D}(h:Rep cap V t v d):Rep cap V.noM t v d:=by
 induction h with
 |int k n h1 h2=>exact .int k n h1 h2
 |bool b=>exact .bool b
 |str s h=>exact .str s h
 |agg ts vs ds h1 h2 _ ho ih=>exact .agg ts vs ds h1 h2 ih ho
 |tup ts vs ds h1 h2 _ ih=>exact .tup ts vs ds h1 h2 ih
 |nil e=>exact .nil e
 |emp e a=>exact .emp e a
 |nils e=>exact .nils e
 |nsl0 e=>exact .nsl0 e
 |nsl e k o n c xs _ hx ih=>exact .nsl e k o n c xs ih hx
 |slice e k o n c xs vs hn hc hm _ hv hz ih=>
  refine .slice e k o n c xs vs hn hc hm ih hv λe=>?_;have:=hz e;have au:V.m k≠some cE:=λe'=>by rw[this] at e';exact xr (uH e')
  simp only[Im.noM,if_neg au,this]
 |mapnil kt et=>exact .mapnil kt et
 |map kt et r ix es hm hl hx hk _ ls GM=>
  refine .map kt et r ix es ?_ hl hx ls GM;have au:V.m r≠some cE:=λe=>by rw[hm] at e;cases e;exact G2 hl hk rfl
  simp only[Im.noM,if_neg au,hm]
 |ref t k o v d _ hv ih=>exact .ref t k o v d ih hv
 |fn f cs vs ds hc h1 h2 _ ih=>exact .fn f cs vs ds hc h1 h2 ih
 |fnnil aa r=>exact .fnnil aa r
def Im.plus (V τ:Im):Im:=⟨λk o=>(V.c k o).or (τ.c k o),λk=>(V.m k).or (τ.m k)⟩
def Im.plus_le1 (V τ:Im):V.le (V.plus τ):=⟨λk o v h=>by simp[Im.plus,h],λk v h=>by simp[Im.plus,h]⟩
def qz.det {w:World}{k:Nat}{x y:List (Value×Value)}(h:qz w k x)(g:qz w k y):x=y:=by
 rcases h with⟨_,a,c,h1,h2⟩|⟨h1,h2⟩|⟨h1,_,_,_,h2⟩<;>rcases g with⟨_,a',c',g1,g2⟩|⟨g1,g2⟩|⟨g1,_,_,_,g2⟩
 .rw[h1] at g1;cases g1;rw[<-h2,<-g2]
 .rw[h1] at g2;cases g2
 .rw[h1] at g2;cases g2
 .rw[h2] at g1;cases g1
 .rw[h1,g1]
 .rw[h2] at g2;cases g2
 .rw[h2] at g1;cases g1
 .rw[h2] at g2;cases g2
 .rw[h1,g1]
def Im.plus_le2 {V τ:Im}{w:World}(h:V.ok w)(g:τ.ok w):τ.le (V.plus τ):=by
 refine⟨λk o v e=>?_,λk v e=>?_⟩
 .show(V.c k o).or (τ.c k o)=some v;cases hc:V.c k o with
  |none=>simpa using e
  |some u=>have:=(h.c k o u hc).symm.trans (g.c k o v e);simpa using this
 .show(V.m k).or (τ.m k)=some v;cases hc:V.m k with
  |none=>simpa using e
  |some u=>simpa using(h.m k u hc).det (g.m k v e)
def Im.plus_ok {V τ:Im}{w:World}(h:V.ok w)(g:τ.ok w):(V.plus τ).ok w:=by
 refine⟨λk o v e=>?_,λk v e=>?_,λk o v e=>?_⟩
 .change (V.c k o).or (τ.c k o)=some v at e;cases hc:V.c k o with
  |none=>rw[hc] at e;exact g.c k o v (by simpa using e)
  |some u=>rw[hc] at e;simp at e;subst e;exact h.c k o u hc
 .change (V.m k).or (τ.m k)=some v at e;cases hc:V.m k with
  |none=>rw[hc] at e;exact g.m k v (by simpa using e)
  |some u=>rw[hc] at e;simp at e;subst e;exact h.m k u hc
 .change (V.c k o).or (τ.c k o)=some _ at e;cases hc:V.c k o with
  |none=>rw[hc] at e;exact g.f k o v (by simpa using e)
  |some u=>rw[hc] at e;simp at e;subst e;exact h.f k o v hc
def Im.plus_c {V τ:Im}{k o:Nat}{v:Value}(h:(V.plus τ).c k o=some v):V.c k o=some v\/τ.c k o=some v:=by
 change (V.c k o).or (τ.c k o)=some v at h;cases hc:V.c k o with
 |none=>rw[hc] at h;exact .inr (by simpa using h)
 |some u=>rw[hc] at h;exact .inl (by simpa using h)
def Im.plus_m {V τ:Im}{k:Nat}{v:List (Value×Value)}(h:(V.plus τ).m k=some v):V.m k=some v\/τ.m k=some v:=by
 change (V.m k).or (τ.m k)=some v at h;cases hc:V.m k with
 |none=>rw[hc] at h;exact .inr (by simpa using h)
 |some u=>rw[hc] at h;exact .inl (by simpa using h)
def Ty.pureT:Ty->Bool
 |.int _|.bool|.str|.nils _=>true
 |_=>false
def Ty.pure:Ty->Bool
 |.tup ts=>ts.all Ty.pureT
 |.agg ts=>ts.all Ty.pureT
 |t=>Ty.pureT t
def Rep.pureT {cap:Nat->Option CSig}{V τ:Im}{t:Ty}{v:Value}{d:D}(h:Rep cap V t v d)(hp:t.pureT=true):Rep cap τ t v d:=by
 cases h<;>simp[Ty.pureT] at hp<;>constructor<;>assumption
def Rep.pure {cap:Nat->Option CSig}{V τ:Im}{t:Ty}{v:Value}{d:D}(h:Rep cap V t v d)(hp:t.pure=true):Rep cap τ t v d:=by
 cases h with
 |agg ts vs ds h1 h2 h ho=>exact .agg ts vs ds h1 h2 (λi t hi=>(h i t hi).pureT (cQ.1 hp t (ko hi))) ho
 |tup ts vs ds h1 h2 h=>exact .tup ts vs ds h1 h2 (λi t hi=>(h i t hi).pureT (cQ.1 hp t (ko hi)))
 |int k n h1 h2=>exact .int k n h1 h2
 |bool b=>exact .bool b
 |str s h=>exact .str s h
 |nils e=>exact .nils e
 |_=>simp[Ty.pure,Ty.pureT] at hp
def aa9 (C:Ctx)(V':Im)(B:Nat)(w':World)(ow:Nat->Option Nat)(i:Nat):RC->Value->D->Prop
 |.dat t,v,d=>t.one=true/\Rep C.cap V' t v d
 |.row T e,v,d=>∃cells xs,d=.list xs/\w'.ownsRow B T e.size v xs.length cells/\dz C.cap V' e cells xs/\∀k,v.ownBlock=some k->ow k=some i
def mq (C:Ctx)(s:Sig)(V':Im)(w w':World)(v:Value)(d:D):Prop:=
 match s.mode with
 |.dat=>Rep C.cap V' s.res v d
 |.it _=>True
 |.ob ..=>True
 |.rows l=>∃(vs:List Value) (ds:List D) (ow:Nat->Option Nat),v=.agg vs.toArray/\d=.agg ds/\vs.length=l.length/\ds.length=l.length/\(∀(i:Nat) (c:RC),l[i]?=some c->aa9 C V' w.heap.size w' ow i c (vs.getD i undef) (ds.getD i .none))/\
   ∀k i,ow k=some i->w.heap.size<=k/\k<w'.heap.size/\(∀o,V'.c k o=none)/\V'.m k=none
 |.row T e=>∃cells xs,d=.list xs/\w'.ownsRow w.heap.size T e.size v xs.length cells/\dz C.cap V' e cells xs/\∀k,v.ownBlock=some k->(∀o,V'.c k o=none)/\V'.m k=none
def q7 (C:Ctx)(V:Im)(ts:List Ty)(args:List Value)(ds:List D):Prop:=
 args.length=ts.length/\ds.length=ts.length/\∀(i:Nat) (t:Ty),ts[i]?=some t->Rep C.cap V t (args.getD i undef) (ds.getD i .none)
def iW (C:Ctx)(f:Nat)(s:Sig)(ds:List D)(d:D):Prop:=
 ∀(V:Im) (w:World) (args:Array Value),V.ok w->CtxOK C V->q7 C V s.args args.toList ds->
  Calls C.P f args w λe w'=>∃v V',e=.returned v/\V.le V'/\V'.ok w'/\Below w.heap.size w w'/\
   (∀k o x,V'.c k o=some x->V.c k o=some x\/w.heap.size<=k)/\(∀k x,V'.m k=some x->V.m k=some x\/w.heap.size<=k)/\mq C s V' w w' v d
def ej:List (Nat×Ob)->Nat->Ob
 |[],_=>.dead
 |x::l,j=>bif Nat.beq x.1 j then x.2 else ej l j
def pv:List (Nat×Ob)->List D->Nat->D
 |x::l,d::ds,j=>bif Nat.beq x.1 j then d else pv l ds j
 |_,_,_=>.none
def fi (shs:List Sh)(obs:List (Nat×Ob)):St:=⟨λt=>shs.getD t .none,λj=>ej obs j,λ_=>0⟩
def ma (obs:List (Nat×Ob))(ds os:List D):Env:=⟨λt=>ds.getD t .none,λj=>pv obs os j⟩
def qx:Sh->Bool
 |.dat _=>true
 |_=>false
def sk:Mode->Bool
 |.ob ..=>true
 |_=>false
def vt:Sh->Bool
 |.none|.dat _|.obj ..|.ptr ..|.fclo ..=>true
 |_=>false
def Nx:Ob->Bool
 |.row ..|.mp ..=>true
 |.box _ shs=>shs.all vt
 |_=>false
def zE (shs:List Sh)(obs:List (Nat×Ob)):Bool:=shs.all vt&&obs.all λx=>Nx x.2
def MV:List Sh->List (Nat×Ob)->Option (TypeId×Ty×List Ty)
 |.obj 0 0::l,[(0,.row T e),(1,.tr)]=>(ab6 l).map λts=>(T,e,ts)
 |_,_=>none
def xS (C:Ctx)(f:Nat)(T:TypeId)(e:Ty)(ts:List Ty)(ds:List D)(d:D):Prop:=
 ∀(N:Nat) (V:Im) (w:World) (v:Value) (args:List Value) (xs:List D) (cells:List Value) (ds':List D),ds=.list xs::ds'->V.ok w->CtxOK C V->N<=w.heap.size->w.ownsRow N T e.size v xs.length cells->dz C.cap V e cells xs->
  (∀k,v.ownBlock=some k->k<w.heap.size/\(∀o,V.c k o=none)/\V.m k=none)->q7 C V ts args ds'->
  Calls C.P f (v::args).toArray w λx w'=>∃v' fu dh,x=.returned v'/\d=.list fu/\Below N w w'/\(∀k,k<w.heap.size->v.ownBlock≠some k->w'.heap[k]?=w.heap[k]?)/\
   w'.ownsRow N T e.size v' fu.length dh/\dz C.cap V e dh fu/\∀k,v'.ownBlock=some k->(v.ownBlock=some k\/w.heap.size<=k)/\k<w'.heap.size
def uF (C:Ctx)(f:Nat)(shs:List Sh)(obs:List (Nat×Ob))(res:Ty)(ds:List D)(d:D):Prop:=
 ∀(N:Nat) (V:Im) (own:Nat->Option Nat) (hv:Nat->Value) (w:World) (args:Array Value) (cx:Nat->Prop),zE shs obs=true->V.ok w->CtxOK C V->(∀k,V.m k≠some cE)->N<=w.heap.size->args.size=shs.length->
  (∀k j,own k=some j->N<=k/\k<w.heap.size/\(∀o,V.c k o=none)/\V.m k=none)->
  (∀k,cx k->k<w.heap.size/\own k=none/\(∀o,V.c k o=none)/\V.m k=none)->
  (∀t,aG C (fi shs obs) (ma obs ds (ds.drop shs.length)) V hv (shs.getD t .none) (args.getD t undef) (ds.getD t .none))->
  (∀j,bZ C (fi shs obs) (ma obs ds (ds.drop shs.length)) V own hv w N j (ej obs j))->
  Calls C.P f args w λe w'=>∃v V' own' hv' dr os,e=.returned v/\d=.tup (dr::os)/\os.length=obs.length/\V.le V'/\V'.ok w'/\Below 0 w w'/\
   (∀k,k<w.heap.size->own k=none->w'.heap[k]?=w.heap[k]?)/\
   (∀k o x,V'.c k o=some x->(V.c k o=some x\/N<=k)/\¬cx k)/\(∀k x,V'.m k=some x->(V.m k=some x\/N<=k)/\¬cx k)/\(∀k,V'.m k=some cE->N<=k->k<w.heap.size->own k≠none)/\
   (∀k j,own' k=some j->N<=k/\k<w'.heap.size/\(∀o,V'.c k o=none)/\V'.m k=none/\(k<w.heap.size->own k≠none))/\
   (∀(t:Nat) (sh:Sh),shs[t]?=some sh->qx sh=false->aG C (fi shs obs) (ma obs ds os) V' hv' sh (args.getD t undef) (ds.getD t .none))/\
   (∀j,bZ C (fi shs obs) (ma obs ds os) V' own' hv' w' N j (ej obs j))/\Rep C.cap V' res v dr
def aG.ctx {C C':Ctx}(eV:C'.cap=C.cap){S:St}{O:Env}{V:Im}{hv:Nat->Value}{s:Sh}(hp:vt s=true){v:Value}{d:D}(h:aG C S O V hv s v d):aG C' S O V hv s v d:=by
 cases s with
 |dat t=>show Rep C'.cap V t v d;rw[eV];exact h
 |opt gs s=>cases hp
 |eptr j ver a b=>cases hp
 |yv=>cases hp
 |agg l=>cases hp
 |_=>exact h
def bZ.ctx {C C':Ctx}(eV:C'.cap=C.cap){S:St}{O:Env}{V:Im}{own:Nat->Option Nat}{hv:Nat->Value}{w:World}{N j:Nat}{ob:Ob}(hp:Nx ob=true\/ob=.dead)(h:bZ C S O V own hv w N j ob):bZ C' S O V own hv w N j ob:=by
 rcases hp with hp|rfl
 .cases ob with
  |row T e=>obtain⟨cells,xs,h1,h2,h3,h4⟩:=h;exact⟨cells,xs,h1,h2,by rw[eV];exact h3,h4⟩
  |mp kt et=>obtain⟨k,arr,clock,es,h1,h2,h3,h4,h5,h6,h7⟩:=h;exact⟨k,arr,clock,es,h1,h2,h3,h4,h5,h6,by rw[eV];exact h7⟩
  |box ag shs=>
   obtain⟨k,cs,T,ds,h1,h2,h3,h4,h5,h6,h7⟩:=h;exact⟨k,cs,T,ds,h1,h2,h3,h4,h5,h6,λi s hs=>⟨(h7 i s hs).1,(h7 i s hs).2.ctx eV (cQ.1 hp s (ko hs))⟩⟩
  |_=>cases hp
 .trivial
def afD {obs:List (Nat×Ob)}(h:(obs.all λx=>Nx x.2)=true)(j:Nat):Nx (ej obs j)=true\/ej obs j=.dead:=by
 induction obs with
 |nil=>exact .inr rfl
 |cons x l ih=>
  simp only[sZ,ao] at h;simp only[ej];cases hb:Nat.beq x.1 j
  .exact ih h.2
  .exact .inl h.1
def uF.ctx {C C':Ctx}{f:Nat}{shs:List Sh}{obs:List (Nat×Ob)}{res:Ty}{ds:List D}{d:D}(h:uF C f shs obs res ds d)(hP:C'.P=C.P)(eV:C'.cap=C.cap)(tO:C'.glob=C.glob):uF C' f shs obs res ds d:=by
 intro N V own hv w args cx hp ar hC bp hN aI bA dR h1 h2;have aV:=hp;simp only[zE,ao] at aV;have tT:∀t s,shs[t]?=some s->vt s=true:=λt s hs=>cQ.1 aV.1 s (ko hs);have hC':CtxOK C V:=⟨λg x hx=>by have:=hC.glob g x (by rw[tO];exact hx);rwa [eV] at this,λg x hx=>hC.mg g x (by rw[tO];exact hx)⟩
 have:=h N V own hv w args cx hp ar hC' bp hN aI bA dR (λt=>by
  cases hs:shs[t]? with
  |none=>rw[aF,hs];trivial
  |some s=>have:=h1 t;rw[aF,hs] at this ⊢;exact this.ctx eV.symm (tT t s hs)) (λj=>(h2 j).ctx eV.symm (afD aV.2 j))
 rw[hP];refine this.mono λe w' hh=>?_;obtain⟨v,V',own',hv',dr,os,g1,g2,g3,g4,g5,g6,g7,g8,g9,g10,g11,g12,g13,g14⟩:=hh;exact⟨v,V',own',hv',dr,os,g1,g2,g3,g4,g5,g6,g7,g8,g9,g10,g11,λt sh hs hd=>(g12 t sh hs hd).ctx eV (tT t sh hs),λj=>(g13 j).ctx eV (afD aV.2 j),by rw[eV];exact g14⟩
def dz.cap {c c':Nat->Option CSig}(hc:c'=c){V:Im}{e:Ty}{cells:List Value}{xs:List D}(h:dz c V e cells xs):dz c' V e cells xs:=hc▸h
def xS.ctx {C C':Ctx}{f:Nat}{T:TypeId}{e:Ty}{ts:List Ty}{ds:List D}{d:D}(h:xS C f T e ts ds d)(hP:C'.P=C.P)(eV:C'.cap=C.cap)(tO:C'.glob=C.glob):xS C' f T e ts ds d:=by
 intro N V w v args xs cells ds' h1 h2 h3 h4 h5 h6 h7 h8;rw[hP];refine(h N V w v args xs cells ds' h1 h2 ⟨λg x hx=>by have:=h3.glob g x (by rw[tO];exact hx);rwa [eV] at this,λg x hx=>h3.mg g x (by rw[tO];exact hx)⟩ h4 h5 (h6.cap eV.symm) h7 ⟨h8.1,h8.2.1,λi t hi=>by have:=h8.2.2 i t hi;rwa [eV] at this⟩).mono λx w' hh=>?_;obtain⟨v',fu,dh,g1,g2,g3,g4,g5,g6,g7⟩:=hh;exact⟨v',fu,dh,g1,g2,g3,g4,g5,g6.cap eV,g7⟩
def eB (C:Ctx)(f:Nat)(shs:List Sh)(obs:List (Nat×Ob))(res:Ty)(ds:List D)(d:D):Prop:=
 match MV shs obs with
 |some m=>xS C f m.1 m.2.1 m.2.2 ds d
 |none=>uF C f shs obs res ds d
def eB.ctx {C C':Ctx}{f:Nat}{shs:List Sh}{obs:List (Nat×Ob)}{res:Ty}{ds:List D}{d:D}(h:eB C f shs obs res ds d)(hP:C'.P=C.P)(eV:C'.cap=C.cap)(tO:C'.glob=C.glob):eB C' f shs obs res ds d:=by
 unfold eB at h ⊢;split at h
 .exact xS.ctx h hP eV tO
 .exact uF.ctx h hP eV tO
def af5 {shs:List Sh}{obs:List (Nat×Ob)}(h:∀x,x∈obs->x.2≠.tr):MV shs obs=none:=by
 unfold MV;split
 .exact absurd rfl (h (1,.tr) (by simp))
 .rfl
def eB.of {C:Ctx}{f:Nat}{shs:List Sh}{obs:List (Nat×Ob)}{res:Ty}{ds:List D}{d:D}(ht:∀x,x∈obs->x.2≠.tr)(h:uF C f shs obs res ds d):eB C f shs obs res ds d:=by
 unfold eB;rw[af5 ht];exact h
def eB.plain {C:Ctx}{f:Nat}{shs:List Sh}{obs:List (Nat×Ob)}{res:Ty}{ds:List D}{d:D}(hp:zE shs obs=true)(h:eB C f shs obs res ds d):uF C f shs obs res ds d:=by
 unfold eB at h;rw[af5 λx hx e=>?_] at h
 .exact h
 .simp only[zE,ao] at hp;have:=cQ.1 hp.2 x hx;rw[e] at this;cases this
def du (C:Ctx)(Z:aT):Prop:=∀f ds d,Z f ds=some d->∀s,C.sig f=some s->(sk s.mode=false->iW C f s ds d)/\∀shs obs,s.mode=.ob shs obs->eB C f shs obs s.res ds d
def pk:List Ty->Ty->Option (List Ty)
 |[.fn ys .bool],.tup []=>some ys
 |_,_=>none
def dN (C:Ctx):Prop:=(∀f cs,C.cap f=some cs->pk cs.args cs.res=none->C.sig f=some ⟨cs.args++cs.caps,cs.res,.dat⟩)/\∀f s,C.sig f=some s->∃fn,C.P.funcs[f]?=some fn/\fn.body.isSome=true/\(fn.name== "runtime.NumGoroutine")=false
def JA (S:St):List AgC->List Nat
 |[]=>[]
 |.obj j ver::l=>bif Nat.beq ver (S.ver j)&&l5 (S.o j) then j::JA S l else JA S l
 |_::l=>JA S l
def dq (S:St)(gs:List (Nat×Bool)):List Operand->List Nat
 |[]=>[]
 |x::xs=>
  match gN S gs x with
  |.obj j ver=>bif Nat.beq ver (S.ver j)&&l5 (S.o j) then j::dq S gs xs else dq S gs xs
  |.agg l=>JA S l++dq S gs xs
  |_=>dq S gs xs
def uW (gs:List (Nat×Bool))(s:Sh):Sh:=
 match gs with
 |[]=>s
 |_=>.opt gs s
def St.fzs (S:St)(js:List Nat):St:=js.foldl St.fz S
def mQ:List RC->List Ty
 |[]=>[]
 |.dat t::l=>t::mQ l
 |.row _ e::l=>.slice e.rol::mQ l
def Rf (fr:List Nat)(dst:Nat)(s:Sig):Option Sig:=
 match s.mode with
 |.rows l=>bif !(fr.any (Nat.beq (2000000+dst)))&&Ty.beq s.res (.agg (mQ l)) then some {s with mode:=.dat} else some s
 |_=>some s
def N5:∀{l:List RC} {i:Nat} {t:Ty},(mQ l)[i]?=some t->(l[i]?=some (.dat t))\/∃T e,l[i]?=some (.row T e)/\t=.slice e.rol
 |[],i,t,h=>by simp[mQ] at h
 |.dat u::l,0,t,h=>by simp[mQ] at h;subst h;exact .inl rfl
 |.row T e::l,0,t,h=>by simp[mQ] at h;exact .inr ⟨T,e,rfl,h.symm⟩
 |.dat u::l,i+1,t,h=>by simpa using N5 (l:=l) (i:=i) (by simpa [mQ] using h)
 |.row T e::l,i+1,t,h=>by simpa using N5 (l:=l) (i:=i) (by simpa [mQ] using h)
def V0:∀(l:List RC),(mQ l).length=l.length
 |[]=>rfl
 |.dat _::l=>by simp[mQ,V0 l]
 |.row ..::l=>by simp[mQ,V0 l]
def iW.asDat {C:Ctx}{f:Nat}{s:Sig}{ds:List D}{d:D}{l:List RC}(hm:s.mode=.rows l)(hr:s.res=.agg (mQ l))(h:iW C f s ds d):iW C f {s with mode:=.dat} ds d:=by
 intro V w args h1 h2 h3;refine(h V w args h1 h2 h3).mono λe w' hh=>?_;obtain⟨v,V',rfl,hle,ar,hb,dp,cT,ga⟩:=hh;simp only[mq,hm] at ga;obtain⟨vs,ds,ow,rfl,rfl,l1,l2,CB,sc⟩:=ga
 have hex:∀i,∃cs:List Value,∀T e,l[i]?=some (.row T e)->∃xs,ds.getD i .none=.list xs/\w'.ownsRow w.heap.size T e.size (vs.getD i undef) xs.length cs/\dz C.cap V' e cs xs/\∀k,(vs.getD i undef).ownBlock=some k->ow k=some i:=λi=>by
  cases hl:l[i]? with
  |none=>exact⟨[],λ_ _ h=>by cases h⟩
  |some c=>
   cases c with
   |dat t=>exact⟨[],λ_ _ h=>by cases h⟩
   |row T e=>
    obtain⟨cs,xs,g1,g2,g3,g4⟩:=CB i _ hl;exact⟨cs,λT' e' h=>by cases h;exact⟨xs,g1,g2,g3,g4⟩⟩
 let cs:Nat->List Value:=λi=>Classical.choose (hex i)
 have cI:∀i T e,l[i]?=some (.row T e)->∃xs,ds.getD i .none=.list xs/\w'.ownsRow w.heap.size T e.size (vs.getD i undef) xs.length (cs i)/\dz C.cap V' e (cs i) xs/\∀k,(vs.getD i undef).ownBlock=some k->ow k=some i:=λi=>aaF (hex i)
 let sl:Nat->Nat->Bool:=λi k=>decide ((vs.getD i undef).ownBlock=some k)&&(match l[i]? with|some (.row ..)=>true|_=>false)
 let τ:Im:={c:=λk o=>match ow k with|some i=>(bif sl i k then(cs i)[o]? else none)|none=>V'.c k o,m:=λk=>match ow k with|some i=>(bif sl i k then some mR else none)|none=>V'.m k}
 have iM:V'.le τ:=by
  refine⟨λk o x hx=>?_,λk x hx=>?_⟩
  .cases hk:ow k with
   |none=>simp only[τ,hk];exact hx
   |some i=>have:=(sc k i hk).2.2.1 o;rw[this] at hx;cases hx
  .cases hk:ow k with
   |none=>simp only[τ,hk];exact hx
   |some i=>have:=(sc k i hk).2.2.2;rw[this] at hx;cases hx
 have cZ:∀i k,sl i k=true->∃T e,l[i]?=some (.row T e)/\(vs.getD i undef).ownBlock=some k:=λi k hk=>by
  simp only[sl,ao,decide_eq_true_eq] at hk;obtain⟨bG,cu⟩:=hk;split at cu
  .rename_i T e hl;exact⟨T,e,hl,bG⟩
  .cases cu
 refine⟨_,τ,rfl,hle.trans iM,⟨λk o x hx=>?_,λk x hx=>?_,λk o x hx=>?_⟩,hb,λk o x hx=>?_,λk x hx=>?_,?_⟩
 .simp only[τ] at hx;split at hx
  .rename_i i hi;cases hr:sl i k with
   |false=>rw[hr] at hx;cases hx
   |true=>
    rw[hr,zyy] at hx;obtain⟨T,e,hl,jh⟩:=cZ i k hr;obtain⟨xs,g1,g2,g3,g4⟩:=cI i T e hl;have:=g2.cells jh o x hx;rw[uK] at this;simpa using this
  .exact ar.c k o x hx
 .simp only[τ] at hx;split at hx
  .rename_i i hi;cases hr:sl i k with
   |false=>rw[hr] at hx;cases hx
   |true=>
    rw[hr,zyy] at hx;cases hx;obtain⟨T,e,hl,jh⟩:=cZ i k hr;obtain⟨xs,g1,g2,g3,g4⟩:=cI i T e hl;obtain⟨fU,T',fz,e'⟩:=ahZ g2 jh;exact .inr (.inr ⟨rfl,fU,T',fz,e'⟩)
  .exact ar.m k x hx
 .simp only[τ] at hx;split at hx
  .rename_i i hi;cases hr:sl i k with
   |false=>rw[hr] at hx;cases hx
   |true=>
    obtain⟨T,e,hl,jh⟩:=cZ i k hr;obtain⟨xs,g1,g2,g3,g4⟩:=cI i T e hl;exact .inr (ah0 g2 jh o)
  .exact ar.f k o x hx
 .simp only[τ] at hx;split at hx
  .rename_i i hi;exact .inr (sc k i hi).1
  .exact dp k o x hx
 .simp only[τ] at hx;split at hx
  .rename_i i hi;exact .inr (sc k i hi).1
  .exact cT k x hx
 .simp only[mq,hr];have hlen:=V0 l;refine .agg (mQ l) vs ds (by omega) (by omega) (λi t hi=>?_) (λi t hi=>?_)
  .rcases N5 hi with hl|⟨T,e,hl,rfl⟩
   .exact(CB i _ hl).2.mono iM
   .obtain⟨xs,g1,g2,⟨us,g3,g4⟩,g5⟩:=cI i T e hl;rw[g1];rcases g2.2 with⟨e1,e2⟩|⟨g,cap,cur,e1,e2,e3,e4,e5,e6,e7⟩
    .rw[e1];have:xs=[]:=Pv e2;subst this;exact .nil _
    .rw[e1];have jh:(vs.getD i undef).ownBlock=some g:=by rw[e1];rfl
     refine .slice e.rol g 0 xs.length cap xs us rfl e4 e5 (λi x hx=>((g3 i x hx).mono iM).unf_rol) (λj m u hj hu=>?_) (λ_=>by
      have hR:sl i g=true:=by simp only[sl,jh,hl];simp
      simp only[τ,g5 g jh,hR,zyy])
     rw[Ty.rol_size];have hR:sl i g=true:=by simp only[sl,jh,hl];simp
     simp only[τ,g5 g jh,hR,zyy,gu];exact g4 j m u hj hu
  .rcases N5 hi with hl|⟨T,e,hl,rfl⟩
   .exact(CB i _ hl).1
   .rfl
def amW {C:Ctx}{fr:List Nat}{dst f:Nat}{s s':Sig}{ds:List D}{d:D}(hs:Rf fr dst s=some s')(hm:s'.mode=.dat)(h:sk s.mode=false->iW C f s ds d):iW C f s' ds d:=by
 unfold Rf at hs;split at hs
 .rename_i l hl;cases hb:(!(fr.any (Nat.beq (2000000+dst)))&&Ty.beq s.res (.agg (mQ l)))<;>simp only[hb,zyy,zyx] at hs
  .cases hs;rw[hl] at hm;cases hm
  .cases hs;simp only[ao] at hb;exact iW.asDat hl (Ty.beq_eq _ _ hb.2) (h (by rw[hl];rfl))
 .cases hs;exact h (by rw[hm];rfl)
def BX (C:Ctx)(S:St)(gs:List (Nat×Bool))(dst:Nat)(f:Nat)(args:List Operand):Option (St×Sh×List PI):=
 ((C.sig f).bind (Rf C.fr dst)).bind λs=>
   match s.mode with
   |.dat=>
    (qZ C (S.fzs (dq S gs args)) gs args).bind λu=>
      bif Ty.subs u.1 s.args then some (bif s.res.pure then S else S.fzs (dq S gs args),.dat s.res,[.call gs dst f u.2]) else Option.none
   |_=>Option.none
def Fh (C:Ctx)(S:St)(dst:Nat)(f:Nat)(args:List Operand):lK:=
 (C.sig f).bind λs=>
    match s.mode with
    |.row T e=>
     (qZ C (S.fzs (dq S [] args)) [] args).bind λu=>
       bif Ty.subs u.1 s.args then some (mkObj (bif e.pure then S else S.fzs (dq S [] args)) dst (.row T e),[.call [] dst f u.2,.setO dst (.r dst),.setR dst (.con .none)]) else Option.none
    |_=>Option.none
def jL (dst:Nat)(l:List RC)(j:Nat):Option (Nat×TypeId×Ty):=
 bif Nat.beq (j%4096) dst&&Nat.ble 4096 j then(match l[j/4096-1]? with|some (.row T e)=>some (j/4096-1,T,e)|_=>Option.none) else Option.none
def ai3 {dst i:Nat}{l:List RC}{T:TypeId}{e:Ty}(hd:dst<4096)(h:l[i]?=some (.row T e)):jL dst l (ib dst i)=some (i,T,e):=by
 unfold jL ib;have e1:(4096*(i+1)+dst)%4096=dst:=by omega
 have e2:(4096*(i+1)+dst)/4096-1=i:=by omega
 have e3:Nat.ble 4096 (4096*(i+1)+dst)=true:=Nat.ble_eq_true_of_le (by omega);rw[e1,e2,e3,h,kr];rfl
def axg {dst i j:Nat}{l:List RC}{T:TypeId}{e:Ty}(h:jL dst l j=some (i,T,e)):j=ib dst i/\l[i]?=some (.row T e):=by
 unfold jL at h;cases hb:(Nat.beq (j%4096) dst&&Nat.ble 4096 j)<;>simp only[hb,zyy,zyx] at h
 .cases h
 simp only[ao] at hb;have h1:=ay hb.1;have h2:=jP hb.2;split at h
 .rename_i hl;cases h;exact⟨by unfold ib;omega,hl⟩
 .cases h
def St.newRows (S:St)(dst:Nat)(l:List RC):St:=⟨S.r,λj=>match jL dst l j with|some x=>.row x.2.1 x.2.2|Option.none=>S.o j,λj=>match jL dst l j with|some _=>S.ver j+1|Option.none=>S.ver j⟩
def pD (S:St)(dst:Nat):List RC->Nat->List AgC
 |[],_=>[]
 |.dat t::l,i=>.dat t::pD S dst l (i+1)
 |.row ..::l,i=>.obj (ib dst i) (S.ver (ib dst i)+1)::pD S dst l (i+1)
def Dy (dst:Nat):List RC->Nat->List PI
 |[],_=>[]
 |.dat _::l,i=>Dy dst l (i+1)
 |.row ..::l,i=>.setO (ib dst i) (.cell (.r dst) i)::Dy dst l (i+1)
def Fi (C:Ctx)(S:St)(dst:Nat)(f:Nat)(args:List Operand):lK:=
 (C.sig f).bind λs=>
    match s.mode with
    |.rows l=>
     (qZ C (S.fzs (dq S [] args)) [] args).bind λu=>
       bif Ty.subs u.1 s.args&&Nat.blt dst 4096 then
         some (((S.fzs (dq S [] args)).newRows dst l).setR dst (.agg (pD (S.fzs (dq S [] args)) dst l 0)),.call [] dst f u.2::Dy dst l 0) else Option.none
    |_=>Option.none
def ai4 (S:St)(dst:Nat):∀(l:List RC) (i:Nat),(pD S dst l i).length=l.length/\∀(n:Nat) (c:AgC),(pD S dst l i)[n]?=some c->(∃t,l[n]?=some (.dat t)/\c=.dat t)\/∃T e,l[n]?=some (.row T e)/\c=.obj (ib dst (i+n)) (S.ver (ib dst (i+n))+1)
 |[],i=>⟨rfl,λn c h=>by simp[pD] at h⟩
 |x::l,i=>by
  obtain⟨h1,h2⟩:=ai4 S dst l (i+1);have e:∀n,i+1+n=i+(n+1):=λn=>by omega
  cases x with
  |dat t=>
   refine⟨by simp[pD,h1],λn c h=>?_⟩;cases n with
   |zero=>simp[pD] at h;exact .inl ⟨t,rfl,h.symm⟩
   |succ n=>simp only[pD,Jl] at h ⊢;have:=h2 n c h;rwa [e] at this
  |row T y=>
   refine⟨by simp[pD,h1],λn c h=>?_⟩;cases n with
   |zero=>simp[pD] at h;exact .inr ⟨T,y,rfl,by rw[iY];exact h.symm⟩
   |succ n=>simp only[pD,Jl] at h ⊢;have:=h2 n c h;rwa [e] at this
def VZ (Z:aT)(dst:Nat):∀(l:List RC) (i:Nat) (O O':Env),PI.runs Z (Dy dst l i) O=some O'->O'.r=O.r/\(∀j,(∀(n:Nat) (T:TypeId) (e:Ty),l[n]?=some (.row T e)->j≠ib dst (i+n))->O'.o j=O.o j)/\
 ∀(n:Nat) (T:TypeId) (e:Ty),l[n]?=some (.row T e)->O'.o (ib dst (i+n))=(O.r dst).c (i+n)
 |[],i,O,O',h=>by
  simp only[Dy,PI.runs,ba] at h;subst h;exact⟨rfl,λ_ _=>rfl,λn T e h=>by simp at h⟩
 |x::l,i,O,O',h=>by
  have e:∀n,i+1+n=i+(n+1):=λn=>by omega
  cases x with
  |dat t=>
   obtain⟨h1,h2,h3⟩:=VZ Z dst l (i+1) O O' h;refine⟨h1,λj hj=>h2 j λn T y hn=>by rw[e];exact hj (n+1) T y (by simpa using hn),λn T y hn=>?_⟩;cases n with
   |zero=>simp at hn
   |succ n=>have:=h3 n T y (by simpa using hn);rwa [e] at this
  |row T0 y0=>
   simp only[Dy,PI.runs,PI.run,pV] at h;obtain⟨h1,h2,h3⟩:=VZ Z dst l (i+1) _ O' h;refine⟨h1,λj hj=>?_,λn T y hn=>?_⟩
   .rw[h2 j λn T y hn=>by rw[e];exact hj (n+1) T y (by simpa using hn)];exact bC _ _ (by have:=hj 0 T0 y0 rfl;rwa [iY] at this)
   .cases n with
    |zero=>
     rw[iY,h2 _ λn T y hn=>by unfold ib;omega];exact aN _ _ _
    |succ n=>have:=h3 n T y (by simpa using hn);rwa [e] at this
def Fg (C:Ctx)(S:St)(dst:Nat)(f:Nat)(args:List Operand):lK:=
 (C.sig f).bind λs=>
    match s.mode,args with
    |.ob shs obs,x::xs=>
     match MV shs obs,gN S [] x with
     |some m,.obj j ver=>
      match S.o j with
      |.row T e=>
       bif Nat.beq ver (S.ver j)&&(Nat.beq T m.1&&Ty.beq e m.2.1) then
            (qZ C S [] xs).bind λu=>
             bif Ty.subs u.1 m.2.2 then some ((S.newO j (.row T e)).setR dst (.obj j (S.ver j+1)),[.call [] dst f (.o j::u.2),.setO j (.r dst),.setR dst (.con .none)]) else Option.none
       else Option.none
      |_=>Option.none
     |_,_=>Option.none
    |_,_=>Option.none
def yD (C:Ctx)(S:St)(gs:List (Nat×Bool))(dst:Nat)(x:Operand)(args:List Operand):Option (St×Sh×List PI):=
 match use C S gs x with
 |some (.fn aa r,e)=>
  match pk aa r with
  |some _=>Option.none
  |Option.none=>
  (qZ C (S.fzs (dq S gs args)) gs args).bind λu=>
    bif Ty.subs u.1 aa then some (bif r.pure then S else S.fzs (dq S gs args),.dat r,[.callc gs dst e u.2]) else Option.none
 |_=>Option.none
def rO:∀(js:List Nat) (S:St),(S.fzs js).ver=S.ver/\(S.fzs js).r=S.r
 |[],S=>⟨rfl,rfl⟩
 |j::js,S=>by
  obtain⟨h1,h2⟩:=rO js (S.fz j);obtain⟨k1,k2⟩:=Lu S j;exact⟨h1.trans k1,h2.trans k2⟩
section
variable {C:Ctx} {S:St} {O:Env} {V:Im} {own:Nat->Option Nat} {hv:Nat->Value} {w0:World} {σ0:Base} {A:Nat->Prop} {a:Act} {w:World} {gs:List (Nat×Bool)} {Z:aT} {dst:Nat}
def Inv.fzs:∀(js:List Nat) {S:St} {V:Im} {own:Nat->Option Nat},Inv C S O V own hv w0 σ0 A a w->∃V' own',V.le V'/\Inv C (S.fzs js) O V' own' hv w0 σ0 A a w
 |[],S,V,own,h=>⟨V,own,.refl V,h⟩
 |j::js,S,V,own,h=>by
  obtain⟨σ1,dt,hle,h1⟩:=h.fz j;obtain⟨σ2,jI,iM,h2⟩:=Inv.fzs js h1;exact⟨σ2,jI,hle.trans iM,h2⟩
def Inv.world (h:Inv C S O V own hv w0 σ0 A a w){V':Im}{w':World}(hle:V.le V')(ar:V'.ok w')(hb:Below w.heap.size w w')(dp:∀k o x,V'.c k o=some x->V.c k o=some x\/w.heap.size<=k)
 (cT:∀k x,V'.m k=some x->V.m k=some x\/w.heap.size<=k):Inv C S O V' own hv w0 σ0 A a w':=by
 have aI:=h.below.size;refine h.step (λ_=>False) rfl hle ar (λk o x hx=>(dp k o x hx).imp id (λe=>⟨by omega,.inr e⟩)) (λk x hx=>(cT k x hx).imp id (λe=>⟨by omega,.inr e⟩)) (hb.mono aI) (.refl S hv) (λj _=>⟨rfl,rfl,rfl,λk hk=>⟨hk,hb.block k (h.owns k j hk).2.1⟩⟩) (λ_ hf=>hf.elim) (λk j hk=>?_) (λ_=>id) (λt=>.inl ⟨rfl,rfl,rfl⟩) (λ_ _=>rfl) (λk hk _=>hb.block k hk) (λk i hk=>.inl ⟨i,hk⟩) (λ_ hf=>hf.elim);obtain⟨g1,g2,g3,g4⟩:=h.owns k j hk;refine⟨g1,by have:=hb.size;omega,λo=>?_,?_⟩
 .cases hc:V'.c k o with
  |none=>rfl
  |some x=>rcases dp k o x hc with e|e
           .rw[g3 o] at e;cases e
           .omega
 .cases hc:V'.m k with
  |none=>rfl
  |some x=>rcases cT k x hc with e|e
           .rw[g4] at e;cases e
           .omega
def CtxOK.mono {C:Ctx}{V V':Im}(h:CtxOK C V)(hle:V.le V'):CtxOK C V':=⟨λg x hx=>(h.glob g x hx).mono hle,λg x hx=>hle.m _ _ (h.mg g x hx)⟩
def D1 (h:Inv C S O V own hv w0 σ0 A a w)(hC:CtxOK C σ0)(hg:holds gs O=true){xs:List Operand}{u:List Ty×List PE}{ts:List Ty}(hu:qZ C S gs xs=some u)(hs:Ty.subs u.1 ts=true):q7 C V ts (xs.map a.eval) (PE.evs O u.2):=by
 obtain⟨l1,l2,aK⟩:=akl h hC hg _ _ hu;have hl:=Ty.subs_len _ _ hs;refine⟨by rw[ed];omega,by rw[PE.evs_eq,ed];omega,λi t hi=>?_⟩;obtain⟨s,ei,cJ⟩:=Ty.subs_get _ _ hs i t hi;exact(aK i s ei).sub cJ
def IK {o:Oper}{f:Nat}{args:Array Operand}{ts:Array TypeId}(aY:dN C){s:Sig}(hs:C.sig f=some s)(ho:o.op=.call {callee:=.value (.func f),args:=args,argTypes:=ts}):
 (execOp a.eval o).run C.P w=.ok (.enter f (args.map a.eval)) w:=by
 obtain⟨fn,h1,h2,h3⟩:=aY.2 f s hs;obtain⟨bd,gY⟩:=aa7.1 h2;have h4:¬fn.name= "runtime.NumGoroutine" :=by simpa using h3
 simp[execOp,ho,resolve,Act.eval,Deferred.ofValue,invoke,callFunc,h1,gY,h4]
def ajH {o:Oper}{x:Operand}{f:Nat}{vs:List Value}{args:Array Operand}{ts:Array TypeId}(aY:dN C){s:Sig}(hs:C.sig f=some s)(hx:a.eval x=.func (.func f) #[] vs.toArray)(ho:o.op=.call {callee:=.value x,args:=args,argTypes:=ts}):
 (execOp a.eval o).run C.P w=.ok (.enter f (args.map a.eval++vs.toArray)) w:=by
 obtain⟨fn,h1,h2,h3⟩:=aY.2 f s hs;obtain⟨bd,gY⟩:=aa7.1 h2;have h4:¬fn.name= "runtime.NumGoroutine" :=by simpa using h3
 simp[execOp,ho,resolve,hx,Deferred.ofValue,invoke,callFunc,h1,gY,h4]
def abH (h:Inv C S O V own hv w0 σ0 A a w)(hC:CtxOK C σ0)(ht:¬A dst)(af:dst<a.tmps.size)(eD:∀g,g∈gs->A g.1)(hg:holds gs O=true){f:Nat}{s:Sig}{js:List Nat}{vals:List Value}{ds:List D}{d:D}(lV:s.mode=.dat)(hfn:iW C f s ds d)
 (jB:∀σ1 dt,V.le σ1->Inv C (S.fzs js) O σ1 dt hv w0 σ0 A a w->q7 C σ1 s.args vals ds) {K:Act->World->Prop} {Q:Exit->Act->World->Prop}
 (hK:∀a' w',Good C w0 σ0 ((bif s.res.pure then S else S.fzs js).setR dst (uW gs (.dat s.res))) (O.setR dst d) (λu=>A u\/u=dst) a' w'->a'.tmps.size=a.tmps.size->K a' w'):
 Calls C.P f vals.toArray w (λe lH=>match e with|.returned v=>K (a.put (some dst) v) lH|.panicked chain=>Q (.panic chain) a lH|.outgrown=>LetsOut Q):=by
 obtain⟨σ1,dt,mA,h1⟩:=Inv.fzs js h;have da:=hfn σ1 w vals.toArray h1.ok (hC.mono h1.le) (by simpa using jB σ1 dt mA h1);refine da.mono λe w' hh=>?_;obtain⟨v,V',rfl,hle,ar,hb,dp,cT,ga⟩:=hh;simp only[mq,lV] at ga;refine hK _ _ ?_ (size_put _ _ _);have hh:holds gs (O.setR dst d)=true:=by rw[Gl (t:=dst) (d:=d) λg hm e=>ht (by rw[<-e];exact eD g hm)];exact hg
 have put:∀{S2:St} {σ2:Im} {jI:Nat->Option Nat},Inv C S2 O σ2 jI hv w0 σ0 A a w'->Rep C.cap σ2 s.res v d->Good C w0 σ0 (S2.setR dst (uW gs (.dat s.res))) (O.setR dst d) (λu=>A u\/u=dst) (a.put (some dst) v) w':=by
  intro S2 σ2 jI h2 hr;cases gs with
  |nil=>exact⟨_,_,_,h2.setReg ht (s:=.dat s.res) hr af (λ_ _ e=>by cases e)⟩
  |cons g bN=>
   refine⟨_,_,_,h2.setReg ht (s:=.opt (g::bN) (.dat s.res)) ⟨λ_=>hr,λe=>absurd (hh.symm.trans e) (by decide)⟩ af (λgs s e=>?_)⟩;cases e;exact⟨eD,λ_ _ e=>by cases e⟩
 cases hp:s.res.pure with
 |true=>
  simp only[zyy];exact put (h.world (.refl V) (h.ok.below hb) hb (λ_ _ _ hx=>.inl hx) (λ_ _ hx=>.inl hx)) (ga.pure hp)
 |false=>
  simp only[zyx];exact put (h1.world hle ar hb dp cT) ga
def ER {o:Oper}{f:Nat}{args:Array Value}{K:Act->World->Prop}{Q:Exit->Act->World->Prop}(hd:o.dst=some dst)(hx:(execOp a.eval o).run C.P w=.ok (.enter f args) w)
 (h:Calls C.P f args w (λe lH=>match e with|.returned v=>K (a.put (some dst) v) lH|.panicked chain=>Q (.panic chain) a lH|.outgrown=>LetsOut Q)):o.wp C.P a w K Q:=by
 simp only[Oper.wp,hx,Oper.upon,hd];refine h.mono λe lH hh=>?_;cases e<;>exact hh
def anG (h:Inv C S O V own hv w0 σ0 A a w)(hC:CtxOK C σ0)(aY:dN C)(hΦ:du C Z)(ht:¬A dst)(af:dst<a.tmps.size)(eD:∀g,g∈gs->A g.1)(hg:holds gs O=true){f:Nat}{args:Array Operand}{ts:Array TypeId}{r:St×Sh×List PI}
 (hr:BX C S gs dst f args.toList=some r) {o:Oper} (hd:o.dst=some dst) (ho:o.op=.call {callee:=.value (.func f),args:=args,argTypes:=ts}):bT C w0 σ0 Z S O A a w o (r.1.setR dst (uW gs r.2.1),r.2.2):=by
 simp only[BX,az] at hr;obtain⟨s,⟨s0,hs,Mn⟩,hr⟩:=hr;split at hr
 case h_2=>cases hr
 rename_i lV;simp only[az] at hr;obtain⟨u,hu,hr⟩:=hr;cases cj:Ty.subs u.1 s.args<;>simp only[cj,zyy,zyx] at hr
 .cases hr
 cases hr;intro O' ak K Q hK;simp only[PI.runs,PI.run,hg,zyy,az,aB] at ak;obtain⟨ρ1,⟨d,bu,rfl⟩,ak⟩:=ak;cases ak;have hfn:=amW Mn lV (hΦ f _ d bu s0 hs).1;refine ER hd (IK aY hs ho) ?_;have kK:args.map a.eval=(args.toList.map a.eval).toArray:=by apply uC;rw[vK]
 rw[kK];have kF:(λu=>A u\/o.dst=some u)=(λu=>A u\/u=dst):=by funext u;rw[hd];simp[eq_comm]
 rw[kF] at hK;exact abH h hC ht af eD hg (js:=dq S gs args.toList) lV hfn (λσ1 dt _ h1=>D1 h1 hC hg hu cj) hK
def anx (h:Inv C S O V own hv w0 σ0 A a w)(hC:CtxOK C σ0)(aY:dN C)(hΦ:du C Z)(ht:¬A dst)(af:dst<a.tmps.size)(eD:∀g,g∈gs->A g.1)(hg:holds gs O=true){x:Operand}{args:Array Operand}{ts:Array TypeId}{r:St×Sh×List PI}
 (hr:yD C S gs dst x args.toList=some r) {o:Oper} (hd:o.dst=some dst) (ho:o.op=.call {callee:=.value x,args:=args,argTypes:=ts}):bT C w0 σ0 Z S O A a w o (r.1.setR dst (uW gs r.2.1),r.2.2):=by
 unfold yD at hr;split at hr
 case h_2=>cases hr
 rename_i aa r0 e hu0;split at hr
 case h_1=>cases hr
 rename_i Sr;simp only[az] at hr;obtain⟨u,hu,hr⟩:=hr;cases cj:Ty.subs u.1 aa<;>simp only[cj,zyy,zyx] at hr
 .cases hr
 cases hr;have hx:=cB h hC hg hu0;intro O' ak K Q hK;simp only[PI.runs,PI.run,hg,zyy,az] at ak;obtain⟨ρ1,qu,ak⟩:=ak;cases ak;split at qu
 case h_2=>cases qu
 rename_i f caps bM;simp only[aB] at qu;obtain⟨d,bu,rfl⟩:=qu;rw[bM] at hx;generalize fY:a.eval x=xv at hx;generalize bt:Ty.fn aa r0=ty at hx;cases hx with
 |fn f cs vs ds hc h1 h2 aK=>
  cases bt;have hs:=aY.1 f cs hc Sr;have hfn:=(hΦ f _ d bu _ hs).1 rfl;refine ER hd (ajH aY hs fY ho) ?_;have kK:args.map a.eval++vs.toArray=(args.toList.map a.eval++vs).toArray:=by apply uC;simp
  rw[kK];have kF:(λu=>A u\/o.dst=some u)=(λu=>A u\/u=dst):=by funext u;rw[hd];simp[eq_comm]
  rw[kF] at hK;refine abH h hC ht af eD hg (js:=dq S gs args.toList) (s:=⟨cs.args++cs.caps,cs.res,.dat⟩) rfl hfn (λσ1 dt mA i1=>?_) hK;obtain⟨g1,g2,g3⟩:=D1 i1 hC hg hu cj;refine⟨by simp only[mW,g1,h1],by simp only[mW,g2,h2],λi t hi=>?_⟩;rw[mV] at hi;split at hi
  .rename_i af;have:=g3 i t hi;rw[aF,aF,oc (by omega),oc (by omega)];simpa [aF] using this
  .rename_i gZ;have:=(aK _ t hi).mono mA;rw[aF,aF,od (by omega),od (by omega),g1,g2];simpa [aF] using this
def anC (h:Inv C S O V own hv w0 σ0 A a w)(hC:CtxOK C σ0)(aY:dN C)(hΦ:du C Z)(ht:¬A dst)(af:dst<a.tmps.size){f:Nat}{args:Array Operand}{ts:Array TypeId}{r:St×List PI}
 (hr:Fh C S dst f args.toList=some r) {o:Oper} (hd:o.dst=some dst) (ho:o.op=.call {callee:=.value (.func f),args:=args,argTypes:=ts}):bT C w0 σ0 Z S O A a w o r:=by
 simp only[Fh,az] at hr;obtain⟨s,hs,hr⟩:=hr;split at hr
 case h_2=>cases hr
 rename_i T e lV;simp only[az] at hr;obtain⟨u,hu,hr⟩:=hr;cases cj:Ty.subs u.1 s.args<;>simp only[cj,zyy,zyx] at hr
 .cases hr
 cases hr;intro O' ak K Q hK;have F4:holds ([]:List (Nat×Bool)) O=true:=rfl;simp only[PI.runs,PI.run,F4,zyy,az,aB] at ak;obtain⟨ρ1,⟨d,bu,rfl⟩,ρ2,g2,ρ3,g3,g4⟩:=ak;cases g2;cases g3;cases g4;have hfn:=(hΦ f _ d bu s hs).1 (by rw[lV];rfl);obtain⟨σ1,dt,mA,h1⟩:=Inv.fzs (dq S [] args.toList) h;have kK:args.map a.eval=(args.toList.map a.eval).toArray:=by apply uC;rw[vK]
 refine ER hd (IK aY hs ho) ?_;rw[kK];have da:=hfn σ1 w (args.toList.map a.eval).toArray h1.ok (hC.mono h1.le) (by simpa using D1 h1 hC rfl hu cj);refine da.mono λe' w' hh=>?_;obtain⟨v,V',rfl,hle,ar,hb,dp,cT,ga⟩:=hh;simp only[mq,lV] at ga;obtain⟨cells,xs,rfl,bA,dj,oS⟩:=ga;refine hK _ _ ?_ (size_put _ _ _);have kF:(λu=>A u\/o.dst=some u)=(λu=>A u\/u=dst):=by funext u;rw[hd];simp[eq_comm]
 rw[kF];have main:∀{S2:St} {σ1 σ2:Im} {jI:Nat->Option Nat},Inv C S2 O σ1 jI hv w0 σ0 A a w->σ1.le σ2->σ2.ok w'->(∀k o x,σ2.c k o=some x->σ1.c k o=some x\/w.heap.size<=k)->(∀k x,σ2.m k=some x->σ1.m k=some x\/w.heap.size<=k)->dz C.cap σ2 e cells xs->(∀k,v.ownBlock=some k->(∀o,σ2.c k o=none)/\σ2.m k=none)->
  Good C w0 σ0 (mkObj S2 dst (.row T e)) ((O.setO dst (.list xs)).setR dst .none) (λu=>A u\/u=dst) (a.put (some dst) v) w':=by
  intro S2 σ1 σ2 jI h2 iM SV arN arR aqT aqZ;have aI:=h1.below.size
  have mC:=h2.newOσ dst (.row T e) (.list xs) v (λk=>decide (v.ownBlock=some k)) iM SV arN arR hb (λk hk=>bA.lt k (by simpa using hk)) (λk hk=>aqZ k (by simpa using hk)) ⟨cells,xs,by simp[Env.setO,aN],by
        rw[aN];refine⟨bA.1,?_⟩;rcases bA.2 with e1|⟨g,cap,cur,e1,e2,e3⟩
        .exact .inl e1
        .exact .inr ⟨g,cap,cur,e1,by omega,e3⟩,aqT,λk hk=>by rw[aN] at hk;simp[fN,hk]⟩
  have aet:=mC.setObj ht (j:=dst) (v:=v) (aN _ _ _) af;have e:(S2.newO dst (.row T e)).ver dst=S2.ver dst+1:=aN _ _ _;rw[e] at aet;exact⟨_,_,_,aet⟩
 have eρ:((O.setR dst (.list xs)).setO dst ((PE.r dst).ev (O.setR dst (.list xs)))).setR dst ((PE.con D.none).ev ((O.setR dst (.list xs)).setO dst ((PE.r dst).ev (O.setR dst (.list xs)))))=(O.setO dst (.list xs)).setR dst .none:=by
  have:∀d1 d2:D,bX (bX O.r dst d1) dst d2=bX O.r dst d2:=by
   intro d1 d2;funext i;simp only[fq];split<;>rfl
  simp[Env.setR,Env.setO,PE.ev,aN,this]
 show Good C w0 σ0 _ _ _ _ _;rw[eρ];cases hp:e.pure with
 |true=>
  simp only[zyy];refine main h (.refl V) (h.ok.below hb) (λ_ _ _ hx=>.inl hx) (λ_ _ hx=>.inl hx) ?_ (λk hk=>?_)
  .obtain⟨vs,k1,k2⟩:=dj;exact⟨vs,λi x hx=>(k1 i x hx).pure hp,k2⟩
  .obtain⟨f1,f2⟩:=oS k hk;refine⟨λo=>?_,?_⟩
   .cases hc:V.c k o with
    |none=>rfl
    |some x=>have:=hle.c _ _ _ (mA.c _ _ _ hc);rw[f1 o] at this;cases this
   .cases hc:V.m k with
    |none=>rfl
    |some x=>have:=hle.m _ _ (mA.m _ _ hc);rw[f2] at this;cases this
 |false=>
  simp only[zyx];exact main h1 hle ar dp cT dj oS
def anE (h:Inv C S O V own hv w0 σ0 A a w)(hC:CtxOK C σ0)(aY:dN C)(hΦ:du C Z)(ht:¬A dst)(af:dst<a.tmps.size){f:Nat}{args:Array Operand}{ts:Array TypeId}{r:St×List PI}
 (hr:Fi C S dst f args.toList=some r) {o:Oper} (hd:o.dst=some dst) (ho:o.op=.call {callee:=.value (.func f),args:=args,argTypes:=ts}):bT C w0 σ0 Z S O A a w o r:=by
 simp only[Fi,az] at hr;obtain⟨s,hs,hr⟩:=hr;split at hr
 case h_2=>cases hr
 rename_i l lV;simp only[az] at hr;obtain⟨u,hu,hr⟩:=hr;cases cj:(Ty.subs u.1 s.args&&Nat.blt dst 4096)<;>simp only[cj,zyy,zyx] at hr
 .cases hr
 cases hr;simp only[ao,pU] at cj;obtain⟨cj,Cn⟩:=cj;intro O' ak K Q hK;have F4:holds ([]:List (Nat×Bool)) O=true:=rfl;simp only[PI.runs,PI.run,F4,zyy,az,aB] at ak;obtain⟨ρ1,⟨d,bu,rfl⟩,ak⟩:=ak;have hfn:=(hΦ f _ d bu s hs).1 (by rw[lV];rfl);obtain⟨σ1,dt,mA,h1⟩:=Inv.fzs (dq S [] args.toList) h;generalize S.fzs (dq S [] args.toList)=S1 at hu h1 hK ⊢;have kK:args.map a.eval=(args.toList.map a.eval).toArray:=by apply uC;rw[vK]
 refine ER hd (IK aY hs ho) ?_;rw[kK];have da:=hfn σ1 w (args.toList.map a.eval).toArray h1.ok (hC.mono h1.le) (by simpa using D1 h1 hC rfl hu cj);refine da.mono λe' w' hh=>?_;obtain⟨v,V',rfl,hle,ar,hb,dp,cT,ga⟩:=hh;simp only[mq,lV] at ga;obtain⟨vs,ds,ow,rfl,rfl,l1,l2,CB,sc⟩:=ga;refine hK _ _ ?_ (size_put _ _ _);have kF:(λu=>A u\/o.dst=some u)=(λu=>A u\/u=dst):=by funext u;rw[hd];simp[eq_comm]
 rw[kF];obtain⟨r1,r2,r3⟩:=VZ Z dst l 0 _ O' ak;simp only[gu] at r2 r3;have ajp:(O.setR dst (.agg ds)).r dst=.agg ds:=aN _ _ _;rw[ajp] at r3;have aI:=h1.below.size
 let W:Nat->Prop:=λj=>∃x,jL dst l j=some x
 let own':Nat->Option Nat:=λk=>match ow k with
  |some i=>some (ib dst i)
  |none=>match dt k with
   |some j=>match jL dst l j with|some _=>none|none=>some j
   |none=>none
 let hv':Nat->Value:=λj=>match jL dst l j with|some x=>vs.getD x.1 undef|none=>hv j
 have SI:∀j,¬W j->jL dst l j=none:=λj hj=>by
  cases e:jL dst l j with
  |none=>rfl
  |some x=>exact absurd ⟨x,e⟩ hj
 have fZ:∀j,¬W j->O'.o j=O.o j:=λj hj=>r2 j λn T e hn e1=>hj ⟨(n,T,e),by rw[e1];exact ai3 Cn hn⟩
 have rW:∀k j,dt k=some j->ow k=none:=λk j hk=>by
  cases e:ow k with
  |none=>rfl
  |some i=>have:=sc k i e;have:=h1.owns k j hk;omega
 have tN:Compat S1 hv ((S1.newRows dst l).setR dst (.agg (pD S1 dst l 0))) hv':=⟨λj=>by
  show S1.ver j<=(match jL dst l j with|some _=>S1.ver j+1|none=>S1.ver j);split
  .exact Nat.le_succ _
  .exact aZ _,λj e=>by
  have e:(match jL dst l j with|some _=>S1.ver j+1|none=>S1.ver j)=S1.ver j:=e;show(match jL dst l j with|some x=>vs.getD x.1 undef|none=>hv j)=hv j;cases hj:jL dst l j with
  |none=>rfl
  |some x=>rw[hj] at e;simp only at e;omega⟩
 refine⟨V',own',hv',?_⟩
 refine h1.step (w':=w') W rfl hle ar (λk o x hx=>(dp k o x hx).imp id λe=>⟨by omega,.inr e⟩) (λk x hx=>(cT k x hx).imp id λe=>⟨by omega,.inr e⟩) (hb.mono aI) tN
  (λj hj=>⟨?_,fZ j hj,?_,λk hk=>⟨?_,hb.block k (h1.owns k j hk).2.1⟩⟩) (λj hj=>?_) (λk i hk=>?_) (λ_=>.inl) (λt=>?_) (λt hA=>?_) (λk hk _=>hb.block k hk) (λk i hk=>?_) (λj hj=>?_)
 .show(match jL dst l j with|some x=>Ob.row x.2.1 x.2.2|none=>S1.o j)=S1.o j;rw[SI j hj]
 .show(match jL dst l j with|some x=>vs.getD x.1 undef|none=>hv j)=hv j;rw[SI j hj]
 .show own' k=some j;simp only[own',rW k j hk,hk,SI j hj]
 .obtain⟨⟨i,T,e⟩,hx⟩:=hj;obtain⟨rfl,hi⟩:=axg hx;show bZ C _ O' V' own' hv' w' w0.heap.size (ib dst i) (match jL dst l (ib dst i) with|some x=>Ob.row x.2.1 x.2.2|none=>S1.o (ib dst i));rw[hx];obtain⟨cells,xs,g1,g2,g3,g4⟩:=CB i _ hi;have e2:hv' (ib dst i)=vs.getD i undef:=by simp only[hv',hx]
  refine⟨cells,xs,?_,?_,g3,λk hk=>?_⟩
  .rw[r3 i T e hi];simpa [D.c,D.cells] using g1
  .rw[e2];refine⟨g2.1,?_⟩;rcases g2.2 with e1|⟨g,cap,cur,e1,e3,e4⟩
   .exact .inl e1
   .exact .inr ⟨g,cap,cur,e1,by omega,e4⟩
  .rw[e2] at hk;simp only[own',g4 k hk]
 .simp only[own'] at hk;split at hk
  .rename_i i' dg;have:=sc k i' dg;exact⟨by omega,this.2.1,this.2.2.1,this.2.2.2⟩
  .split at hk
   .rename_i j hj;obtain⟨g1,g2,g3,g4⟩:=h1.owns k j hj;refine⟨g1,by have:=hb.size;omega,λo=>?_,?_⟩
    .cases hc:V'.c k o with
     |none=>rfl
     |some x=>rcases dp k o x hc with e|e
              .rw[g3 o] at e;cases e
              .omega
    .cases hc:V'.m k with
     |none=>rfl
     |some x=>rcases cT k x hc with e|e
              .rw[g4] at e;cases e
              .omega
   .cases hk
 .by_cases hu:t=dst
  .subst hu;refine .inr ⟨?_,λgs s e=>?_⟩
   .rw[An];have e3:O'.r t=.agg ds:=by rw[r1];exact ajp
    simp only[St.setR,aN,af,and_self,if_true,e3];obtain⟨q1,q2⟩:=ai4 S1 t l 0;refine⟨vs,ds,rfl,rfl,by omega,by omega,λi c hc=>?_⟩;rcases q2 i c hc with⟨ty,hl,rfl⟩|⟨T,e,hl,rfl⟩
    .exact CB i _ hl
    .rw[gu];have hx:=ai3 Cn hl;refine⟨?_,λ_=>?_⟩
     .show S1.ver (ib t i)+1<=(match jL t l (ib t i) with|some _=>S1.ver (ib t i)+1|none=>S1.ver (ib t i));rw[hx];exact aZ _
     .simp only[hv',hx]
   .simp only[St.setR,aN] at e;cases e
  .refine .inl ⟨bC _ _ hu,?_,?_⟩
   .rw[An];simp[hu]
   .rw[r1];exact bC _ _ hu
 .rw[r1];exact bC _ _ (λe=>ht (e▸hA))
 .simp only[own'] at hk;split at hk
  .rename_i i' dg;exact .inr (sc k i' dg).1
  .split at hk
   .rename_i j hj;exact .inl ⟨j,hj⟩
   .cases hk
 .obtain⟨x,hx⟩:=hj;show(match jL dst l j with|some x=>Ob.row x.2.1 x.2.2|none=>S1.o j)≠.tr;rw[hx];intro e;cases e
def anA (h:Inv C S O V own hv w0 σ0 A a w)(hC:CtxOK C σ0)(aY:dN C)(hΦ:du C Z)(ht:¬A dst)(af:dst<a.tmps.size){f:Nat}{args:Array Operand}{ts:Array TypeId}{r:St×List PI}
 (hr:Fg C S dst f args.toList=some r) {o:Oper} (hd:o.dst=some dst) (ho:o.op=.call {callee:=.value (.func f),args:=args,argTypes:=ts}):bT C w0 σ0 Z S O A a w o r:=by
 simp only[Fg,az] at hr;obtain⟨s,hs,hr⟩:=hr;split at hr
 case h_2=>cases hr
 rename_i shs obs x xs lV jB;split at hr
 case h_2=>cases hr
 rename_i m j ver mB jZ;split at hr
 case h_2=>cases hr
 rename_i T e eo;cases hb:(Nat.beq ver (S.ver j)&&(Nat.beq T m.1&&Ty.beq e m.2.1))<;>simp only[hb,zyy,zyx] at hr
 .cases hr
 simp only[ao] at hb;have dC:=ay hb.1;have hT:=ay hb.2.1;have he:=Ty.beq_eq _ _ hb.2.2;simp only[az] at hr;obtain⟨u,hu,hr⟩:=hr;cases cj:Ty.subs u.1 m.2.2<;>simp only[cj,zyy,zyx] at hr
 .cases hr
 cases hr;intro O' ak K Q hK;have F4:holds ([]:List (Nat×Bool)) O=true:=rfl;simp only[PI.runs,PI.run,F4,zyy,az,aB] at ak;obtain⟨ρ1,⟨d,bu,rfl⟩,ρ2,g2,ρ3,g3,g4⟩:=ak;cases g2;cases g3;cases g4;have hfn:=(hΦ f _ d bu s hs).2 shs obs lV;unfold eB at hfn;rw[mB] at hfn;simp only at hfn;rw[<-hT,<-he] at hfn;have cv:=(uw h (gs:=[]) rfl x).1;rw[jZ] at cv;have cv:=cv.2 dC;have bn:=h.objs j;rw[eo] at bn;obtain⟨cells,ys,h1,h2,h3,h4⟩:=bn;have kK:args.map a.eval=(a.eval x::xs.map a.eval).toArray:=by apply uC;rw[vK,jB];rfl
 refine ER hd (IK aY hs ho) ?_;rw[kK,cv];have aI:=h.below.size
 have da:=hfn w0.heap.size V w (hv j) (xs.map a.eval) ys cells (PE.evs O u.2) (by simp[PE.evs,PE.ev,h1]) h.ok (hC.mono h.le) aI h2 h3 (λk hk=>by
  have:=h.owns k j (h4 k hk);exact this.2) (D1 h hC rfl hu cj)
 refine da.mono λe' w' hh=>?_;obtain⟨v',fu,dh,rfl,rfl,u7,rW,ar3,aqS,hblk⟩:=hh;refine hK _ _ ?_ (size_put _ _ _);have kF:(λu=>A u\/o.dst=some u)=(λu=>A u\/u=dst):=by funext u;rw[hd];simp[eq_comm]
 rw[kF]
 have Tp:=h.updO j (.row T e) (.list fu) v' (λk=>decide (v'.ownBlock=some k)) u7 (λk hk au=>rW k hk (λe=>au (h4 k e))) (λk hk=>by
  have bf:v'.ownBlock=some k:=by simpa using hk
  exact⟨(hblk k bf).1.imp (h4 k) id,(hblk k bf).2⟩)
  ⟨dh,fu,by simp[Env.setO,aN],by rw[aN];exact ar3,aqS,λk hk=>by rw[aN] at hk;simp[fN,hk]⟩
 have h9:=Tp.setObj ht (j:=j) (v:=v') (aN _ _ _) af;have e1:(S.newO j (.row T e)).ver j=S.ver j+1:=aN _ _ _;rw[e1] at h9;have eρ:((O.setR dst (.list fu)).setO j ((PE.r dst).ev (O.setR dst (.list fu)))).setR dst ((PE.con D.none).ev ((O.setR dst (.list fu)).setO j ((PE.r dst).ev (O.setR dst (.list fu)))))=(O.setO j (.list fu)).setR dst .none:=by
  have:∀d1 d2:D,bX (bX O.r dst d1) dst d2=bX O.r dst d2:=by
   intro d1 d2;funext i;simp only[fq];split<;>rfl
  simp[Env.setR,Env.setO,PE.ev,aN,this]
 show Good C w0 σ0 _ _ _ _ _;rw[eρ];exact⟨_,_,_,h9⟩
end
def jw:Nat:=1000000013
abbrev pM:=Sh×Option (Ty×PE)
def Jy (C:Ctx)(S:St)(x:Operand):pM:=(gN S [] x,use C S [] x)
def abJ (c:Nat×Nat):pM:=(.ptr c.1 c.2 0,none)
def cO:List Nat->List Nat->Nat->Option Nat
 |i::is,j::js,k=>bif Nat.beq i k then some j else cO is js k
 |_,_,_=>none
def av4:Sh->Sh->List (Nat×Nat)
 |.obj i _,.obj j _=>[(i,j)]
 |.ptr i _ _,.ptr j _ _=>[(i,j)]
 |.fclo _ a,.fclo _ b=>(a.zip b).map λx=>(x.1.1,x.2.1)
 |_,_=>[]
def Vl:List Sh->List Sh->List (Nat×Nat)
 |a::aa,b::bs=>av4 a b++Vl aa bs
 |_,_=>[]
def av3:Ob->Ob->List (Nat×Nat)
 |.box _ a,.box _ b=>Vl a b
 |_,_=>[]
def afE:List (Nat×Nat)->Nat->Nat
 |[],_=>jw
 |x::l,i=>bif Nat.beq x.1 i then x.2 else afE l i
def avf (S:St)(obs:List (Nat×Ob))(p:List (Nat×Nat)):List (Nat×Nat):=p++p.flatMap λx=>av3 (ej obs x.1) (S.o x.2)
def acJ (S:St)(shs:List Sh)(obs:List (Nat×Ob))(acts:List pM):List Nat:=obs.map λo=>afE (avf S obs (Vl shs (acts.map (·.1)))) o.1
section
variable (ver:Nat->Nat) (is js:List Nat)
def IG:List (Nat×Nat)->Option (List (Nat×Nat))
 |[]=>some []
 |x::l=>bif Nat.beq x.2 0 then(cO is js x.1).bind λj=>(IG l).map λr=>(j,ver j)::r else none
def lF:Sh->Option Sh
 |.dat t=>some (.dat t)
 |.none=>some .none
 |.obj i v=>bif Nat.beq v 0 then(cO is js i).map λj=>.obj j (ver j) else none
 |.ptr i v off=>bif Nat.beq v 0 then(cO is js i).map λj=>.ptr j (ver j) off else none
 |.fclo f caps=>(IG ver is js caps).map (.fclo f)
 |_=>none
def II:List Sh->Option (List Sh)
 |[]=>some []
 |s::l=>(lF ver is js s).bind λa=>(II l).map (a::·)
def sR:Ob->Option Ob
 |.row T e=>some (.row T e)
 |.mp a b=>some (.mp a b)
 |.box ag shs=>(II ver is js shs).map (.box ag)
 |_=>none
end
def Fx (c:Sh):Sh->Bool
 |.none=>true
 |.dat b=>match c with|.dat a=>Ty.sub a b|_=>false
 |x=>Sh.beq c x
def B8:List Sh->List Sh->Bool
 |[],[]=>true
 |a::aa,b::bs=>Fx a b&&B8 aa bs
 |_,_=>false
def B7:Ob->Ob->Bool
 |.box x a,.box y b=>(x==y)&&B8 a b
 |.row T a,.row U b=>Nat.beq T U&&Ty.beq a b
 |.mp a b,.mp c d=>Ty.beq a c&&Ty.beq b d
 |_,_=>false
def tG (S:St)(is js:List Nat):List (Nat×Ob)->List Nat->Bool
 |[],[]=>true
 |o::obs,j::jl=>(match sR S.ver is js o.2 with|some x=>B7 (S.o j) x|none=>false)&&tG S is js obs jl
 |_,_=>false
def Fw (S:St)(is js:List Nat)(a:pM)(s:Sh):Option PE:=
 match s with
 |.dat t=>(match a.2 with|some x=>bif Ty.sub x.1 t then some x.2 else none|none=>none)
 |.none=>some (.con .none)
 |s=>(match lF S.ver is js s with|some x=>bif Sh.beq a.1 x then some (.con .none) else none|none=>none)
def wh (S:St)(is js:List Nat):List pM->List Sh->Option (List PE)
 |[],[]=>some []
 |a::aa,s::ss=>(Fw S is js a s).bind λe=>(wh S is js aa ss).map (e::·)
 |_,_=>none
def rD:List Sh->List Nat
 |[]=>[]
 |.obj i _::l=>i::rD l
 |.ptr i _ _::l=>i::rD l
 |.fclo _ c::l=>c.map (·.1)++rD l
 |_::l=>rD l
def aC (l:List Nat)(x:Nat):Bool:=l.any (Nat.beq x)
def xF (ver:Nat->Nat)(shs:List Sh)(is js:List Nat):Nat->Nat:=λj=>match cO js is j with|some i=>bif aC (rD shs) i then ver j else ver j+1|none=>ver j
def St.handed (S:St)(shs:List Sh)(obs:List (Nat×Ob))(is js:List Nat):St:=
 ⟨S.r,λj=>match cO js is j with|some i=>(match sR (xF S.ver shs is js) is js (ej obs i) with|some o=>o|none=>.dead)|none=>S.o j,xF S.ver shs is js⟩
def Ca (S:St):List Operand->List Sh->List Nat
 |x::xs,s::ss=>(bif qx s then dq S [] [x] else[])++Ca S xs ss
 |_,_=>[]
def IP:List Nat->Nat->List PI
 |[],_=>[]
 |j::js,k=>.setO j (.tget (.o jw) k)::IP js (k+1)
def Rj (S:St)(res:Ty)(f:Nat)(shs:List Sh)(obs:List (Nat×Ob))(acts:List pM)(is js:List Nat):Option (St×Ty×List PI):=
 (wh S is js acts shs).bind λes=>
    bif zE shs obs&&(il is&&il js&&tG S is js obs js&&qy (S.o jw)&& !aC js jw) then some (S.handed shs obs is js,res,.mcall jw f (es++js.map .o)::IP js 1) else none
def Rk (C:Ctx)(S:St)(res:Ty)(f:Nat)(shs:List Sh)(obs:List (Nat×Ob))(acts:List pM):Option (St×Ty×List PI):=
 Rj S res f shs obs acts (obs.map (·.1)) (acJ S shs obs acts)
def tu (C:Ctx)(S:St)(f:Nat)(args:List Operand)(caps:List (Nat×Nat)):Option (St×Ty×List PI):=
 (C.sig f).bind λs=>
    match s.mode with
    |.ob shs obs=>Rk C (S.fzs (Ca S args shs)) s.res f shs obs (args.map (Jy C (S.fzs (Ca S args shs)))++caps.map abJ)
    |_=>none
def aeV {l:List Nat}{x:Nat}:aC l x=true↔x∈l:=by
 unfold aC;rw[xW];exact⟨λ⟨y,hy,h⟩=>by rw[ay h];exact hy,λh=>⟨x,h,kr x⟩⟩
def afz:∀{is js:List Nat} {i j:Nat},cO is js i=some j->∃k:Nat,is[k]?=some i/\js[k]?=some j
 |[],_,i,j,h=>by cases h
 |_::_,[],i,j,h=>by cases h
 |x::is,y::js,i,j,h=>by
  simp only[cO] at h;cases hb:Nat.beq x i<;>simp only[hb,zyy,zyx] at h
  .obtain⟨k,h1,h2⟩:=afz h;exact⟨k+1,h1,h2⟩
  .cases h;exact⟨0,by rw[ay hb];rfl,rfl⟩
def MK:∀{is js:List Nat} {i j k:Nat},is.Nodup->is[k]?=some i->js[k]?=some j->cO is js i=some j
 |[],_,i,j,k,_,h,_=>by simp at h
 |_::_,[],i,j,k,_,_,h=>by simp at h
 |x::is,y::js,i,j,k,hn,h1,h2=>by
  simp only[cO];cases k with
  |zero=>simp at h1 h2;subst h1 h2;rw[kr];rfl
  |succ k=>
   simp at h1 h2;have au:x≠i:=λe=>by subst e;exact(pS.1 hn).1 (ko h1)
   rw[fA au];exact MK (pS.1 hn).2 h1 h2
def ML {is js:List Nat}(h2:js.Nodup){i j:Nat}(h:cO is js i=some j):cO js is j=some i:=by
 obtain⟨k,g1,g2⟩:=afz h;exact MK h2 g2 g1
def atw (obs:List (Nat×Ob))(f:Nat->D):∀{is js:List Nat} {i j:Nat},is=obs.map (·.1)->cO is js i=some j->pv obs (js.map f) i=f j:=by
 induction obs with
 |nil=>intro is js i j h1 h2;subst h1;cases h2
 |cons x l ih=>
  intro is js i j h1 h2;subst h1;cases js with
  |nil=>cases h2
  |cons y js=>
   simp only[iz,cO] at h2;simp only[iz,pv];cases hb:Nat.beq x.1 i<;>simp only[hb,zyy,zyx] at h2 ⊢
   .exact ih rfl h2
   .cases h2;rfl
def afv:∀{obs:List (Nat×Ob)} {js:List Nat} {os:List D} {i j:Nat},os.length=obs.length->cO (obs.map (·.1)) js i=some j->∃k:Nat,js[k]?=some j/\pv obs os i=os.getD k .none
 |[],_,_,i,j,_,h=>by cases h
 |_::_,[],_,i,j,_,h=>by cases h
 |_::_,_::_,[],i,j,hl,h=>by simp at hl
 |x::obs,y::js,o::os,i,j,hl,h=>by
  simp only[iz,cO] at h;simp only[pv];cases hb:Nat.beq x.1 i<;>simp only[hb,zyy,zyx] at h ⊢
  .obtain⟨k,h1,h2⟩:=afv (obs:=obs) (js:=js) (os:=os) (by simpa using hl) h;exact⟨k+1,h1,by simpa using h2⟩
  .cases h;exact⟨0,rfl,rfl⟩
def afC:∀{obs:List (Nat×Ob)} {js:List Nat} {i:Nat},js.length=obs.length->cO (obs.map (·.1)) js i=none->ej obs i=.dead
 |[],_,i,_,_=>rfl
 |x::obs,[],i,hl,h=>by simp at hl
 |x::obs,y::js,i,hl,h=>by
  simp only[iz,cO] at h;simp only[ej];cases hb:Nat.beq x.1 i<;>simp only[hb,zyy,zyx] at h ⊢
  .exact afC (by simpa using hl) h
  .cases h
def acR {S:St}{is js:List Nat}:∀{obs:List (Nat×Ob)} {jl:List Nat},tG S is js obs jl=true->jl.length=obs.length
 |[],[],_=>rfl
 |[],_::_,h=>by simp[tG] at h
 |_::_,[],h=>by simp[tG] at h
 |o::obs,j::jl,h=>by simp only[tG,ao] at h;simp[acR h.2]
def acQ {S:St}{is js:List Nat}:∀{obs:List (Nat×Ob)} {jl:List Nat},tG S is js obs jl=true->∀{i j:Nat},cO (obs.map (·.1)) jl i=some j->∃x,sR S.ver is js (ej obs i)=some x/\B7 (S.o j) x=true
 |[],_,_,i,j,h=>by cases h
 |_::_,[],_,i,j,h=>by cases h
 |o::obs,y::jl,hf,i,j,h=>by
  simp only[tG,ao] at hf;simp only[iz,cO] at h;simp only[ej];cases hb:Nat.beq o.1 i<;>simp only[hb,zyy,zyx] at h ⊢
  .exact acQ hf.2 h
  .cases h;have h1:=hf.1;split at h1
   .rename_i x hx;exact⟨x,hx,h1⟩
   .cases h1
def acS:∀{a b:List Sh},B8 a b=true->a.length=b.length/\∀(i:Nat) (y:Sh),b[i]?=some y->∃x,a[i]?=some x/\Fx x y=true
 |[],[],_=>⟨rfl,λi y h=>by simp at h⟩
 |[],_::_,h=>by simp[B8] at h
 |_::_,[],h=>by simp[B8] at h
 |a::aa,b::bs,h=>by
  simp only[B8,ao] at h;obtain⟨g1,g2⟩:=acS h.2;refine⟨by simp[g1],λi y hy=>?_⟩;cases i with
  |zero=>simp at hy;subst hy;exact⟨a,rfl,h.1⟩
  |succ i=>simp at hy;simpa using g2 i y hy
def W0 {ver:Nat->Nat}{is js:List Nat}:∀{a b:List Sh},II ver is js a=some b->b.length=a.length/\∀(i:Nat) (x:Sh),a[i]?=some x->∃y,b[i]?=some y/\lF ver is js x=some y
 |[],b,h=>by simp only[II,ba] at h;subst h;exact⟨rfl,λi x h=>by simp at h⟩
 |s::l,b,h=>by
  simp only[II,az,aB] at h;obtain⟨y,hy,r,hr,rfl⟩:=h;obtain⟨g1,g2⟩:=W0 hr;refine⟨by simp[g1],λi x hx=>?_⟩;cases i with
  |zero=>simp at hx;subst hx;exact⟨y,rfl,hy⟩
  |succ i=>simp at hx;simpa using g2 i x hx
def OH {ver:Nat->Nat}{is js:List Nat}:∀{a b:List (Nat×Nat)},IG ver is js a=some b->b.length=a.length/\∀(i x v:Nat),a[i]?=some (x,v)->∃j,b[i]?=some (j,ver j)/\cO is js x=some j/\v=0
 |[],b,h=>by simp only[IG,ba] at h;subst h;exact⟨rfl,λi x v h=>by simp at h⟩
 |s::l,b,h=>by
  simp only[IG] at h;cases hb:Nat.beq s.2 0<;>simp only[hb,zyy,zyx] at h
  .cases h
  simp only[az,aB] at h;obtain⟨y,hy,r,hr,rfl⟩:=h;obtain⟨g1,g2⟩:=OH hr;refine⟨by simp[g1],λi x v hx=>?_⟩;cases i with
  |zero=>simp at hx;subst hx;exact⟨y,rfl,hy,ay hb⟩
  |succ i=>simp at hx;simpa using g2 i x v hx
def WZ {ver:Nat->Nat}{is js:List Nat}{s x:Sh}(h:lF ver is js s=some x):(∀gs s',s≠.opt gs s')/\∀gs s',x≠.opt gs s':=by
 cases s<;>simp only[lF] at h
 case none=>cases h;exact⟨(λ_ _ e=>by cases e),(λ_ _ e=>by cases e)⟩
 case dat=>cases h;exact⟨(λ_ _ e=>by cases e),(λ_ _ e=>by cases e)⟩
 case obj i v=>
  cases hb:Nat.beq v 0<;>simp only[hb,zyy,zyx] at h
  .cases h
  simp only[aB] at h;obtain⟨j,_,rfl⟩:=h;exact⟨(λ_ _ e=>by cases e),(λ_ _ e=>by cases e)⟩
 case ptr i v off=>
  cases hb:Nat.beq v 0<;>simp only[hb,zyy,zyx] at h
  .cases h
  simp only[aB] at h;obtain⟨j,_,rfl⟩:=h;exact⟨(λ_ _ e=>by cases e),(λ_ _ e=>by cases e)⟩
 case fclo f caps=>
  simp only[aB] at h;obtain⟨j,_,rfl⟩:=h;exact⟨(λ_ _ e=>by cases e),(λ_ _ e=>by cases e)⟩
 all_goals cases h
section
variable {C:Ctx} {S S1:St} {O ρ1:Env} {V σ1:Im} {own dt:Nat->Option Nat} {hv aO:Nat->Value} {w0:World} {σ0:Base} {A:Nat->Prop} {a:Act} {w w1:World} {Z:aT} {dst:Nat}
 {is js:List Nat} {shs:List Sh} {obs:List (Nat×Ob)} {ρf:Env}
def ajv (hσ:Im.leR C.cap V σ1){eW:Nat->Value}(gd:∀i j,cO is js i=some j->eW i=hv j){s x:Sh}(hr:lF S.ver is js s=some x){v:Value}{d:D}(h:aG C S O V hv x v d):aG C (fi shs obs) ρf σ1 eW s v d:=by
 cases s<;>simp only[lF] at hr
 case none=>trivial
 case dat=>cases hr;exact hσ.rep h
 case obj i ver=>
  cases hb:Nat.beq ver 0<;>simp only[hb,zyy,zyx] at hr
  .cases hr
  simp only[aB] at hr;obtain⟨j,hj,rfl⟩:=hr;exact⟨by rw[ay hb];exact kz _,λ_=>by rw[gd i j hj];exact h.2 rfl⟩
 case ptr i ver off=>
  cases hb:Nat.beq ver 0<;>simp only[hb,zyy,zyx] at hr
  .cases hr
  simp only[aB] at hr;obtain⟨j,hj,rfl⟩:=hr;exact⟨by rw[ay hb];exact kz _,λ_=>by rw[gd i j hj];exact h.2 rfl⟩
 case fclo f caps=>
  simp only[aB] at hr;obtain⟨c,hc,rfl⟩:=hr;obtain⟨g1,g2⟩:=OH hc;obtain⟨vs,h1,h2,h3⟩:=h;refine⟨vs,h1,by omega,λi x ver hi=>?_⟩;obtain⟨j,e1,e2,e3⟩:=g2 i x ver hi;exact⟨by rw[e3];exact kz _,λ_=>by rw[gd x j e2];exact(h3 i j _ e1).2 rfl⟩
 all_goals cases hr
def axD (hσ:V.le σ1){eW:Nat->Value}(gd:∀i j,cO is js i=some j->eW i=aO j){s x:Sh}(hr:lF S1.ver is js s=some x){v:Value}{d:D}(h:aG C (fi shs obs) ρf V eW s v d):aG C S1 ρ1 σ1 aO x v d:=by
 cases s<;>simp only[lF] at hr
 case none=>cases hr;trivial
 case dat=>cases hr;exact Rep.mono hσ h
 case obj i ver=>
  cases hb:Nat.beq ver 0<;>simp only[hb,zyy,zyx] at hr
  .cases hr
  simp only[aB] at hr;obtain⟨j,hj,rfl⟩:=hr;exact⟨aZ _,λ_=>by rw[<-gd i j hj];exact h.2 (ay hb)⟩
 case ptr i ver off=>
  cases hb:Nat.beq ver 0<;>simp only[hb,zyy,zyx] at hr
  .cases hr
  simp only[aB] at hr;obtain⟨j,hj,rfl⟩:=hr;exact⟨aZ _,λ_=>by rw[<-gd i j hj];exact h.2 (ay hb)⟩
 case fclo f caps=>
  simp only[aB] at hr;obtain⟨c,hc,rfl⟩:=hr;obtain⟨g1,g2⟩:=OH hc;obtain⟨vs,h1,h2,h3⟩:=h;refine⟨vs,h1,by omega,λi j ver hi=>?_⟩;have af:i<caps.length:=by have:=(eL.1 hi).1;omega
  obtain⟨j',e1,e2,e3⟩:=g2 i _ _ (aX af);rw[hi] at e1;cases e1;exact⟨aZ _,λ_=>by rw[<-gd _ j e2];exact(h3 i _ _ (aX af)).2 e3⟩
 all_goals cases hr
def aoA {c x:Sh}(hf:Fx c x=true){v:Value}{d:D}(h:aG C S O V hv c v d):aG C S O V hv x v d:=by
 cases x with
 |none=>trivial
 |dat b=>
  simp only[Fx] at hf;split at hf
  .exact Rep.sub h hf
  .cases hf
 |_=>simp only[Fx] at hf;rw[Sh.beq_eq _ _ hf] at h;exact h
def avq (hσ:Im.leR C.cap V σ1){eW:Nat->Value}{G9:Nat->Option Nat}(gd:∀i j,cO is js i=some j->eW i=hv j)(bA:∀k j i,own k=some j->cO js is j=some i->G9 k=some i)(bp:js.Nodup){i j N:Nat}(dK:cO is js i=some j)(hρ:ρf.o i=O.o j){ob x:Ob}
 (hr:sR S.ver is js ob=some x) (hf:B7 (S.o j) x=true) (h:bZ C S O V own hv w N j (S.o j)):bZ C (fi shs obs) ρf σ1 G9 eW w N i ob:=by
 have kH:=ML bp dK;cases ob<;>simp only[sR] at hr
 case row T e=>
  cases hr;cases ho:S.o j<;>rw[ho] at hf h<;>simp only[B7,ao] at hf<;>try (cases hf;done)
  obtain⟨cells,xs,h1,h2,h3,h4⟩:=h;rw[ay hf.1,Ty.beq_eq _ _ hf.2] at*;exact⟨cells,xs,by rw[hρ];exact h1,by rw[gd i j dK];exact h2,h3.monoR hσ,λk hk=>bA k j i (h4 k (by rw[<-gd i j dK];exact hk)) kH⟩
 case mp kt et=>
  cases hr;cases ho:S.o j<;>rw[ho] at hf h<;>simp only[B7,ao] at hf<;>try (cases hf;done)
  obtain⟨k,arr,clock,es,h1,h2,h3,h4,h5,h6,h7⟩:=h;rw[Ty.beq_eq _ _ hf.1,Ty.beq_eq _ _ hf.2] at*;exact⟨k,arr,clock,es,by rw[gd i j dK];exact h1,bA k j i h2 kH,h3,by rw[hρ];exact h4,h5,h6,λn e p he hp=>⟨hσ.rep (h7 n e p he hp).1,hσ.rep (h7 n e p he hp).2⟩⟩
 case box ag cs=>
  simp only[aB] at hr;obtain⟨fU,cI,rfl⟩:=hr;cases ho:S.o j<;>rw[ho] at hf h<;>simp only[B7,ao] at hf<;>try (cases hf;done)
  obtain⟨k,vs,T,ds,h1,h2,h3,h4,h5,h6,h7⟩:=h;obtain⟨l1,g1⟩:=acS hf.2;obtain⟨l2,g2⟩:=W0 cI;refine⟨k,vs,T,ds,by rw[gd i j dK];exact h1,bA k j i h2 kH,h3,by omega,by rw[hρ];exact h5,by omega,λn s hs=>?_⟩;obtain⟨y,hy,Gz⟩:=g2 n s hs;obtain⟨z,hz,Cp⟩:=g1 n y hy;exact⟨(WZ Gz).1,ajv hσ gd Gz (aoA Cp (h7 n z hz).2)⟩
 all_goals cases hr
def avr (hσ:V.le σ1){eW:Nat->Value}{G9:Nat->Option Nat}(gd:∀i j,cO is js i=some j->eW i=aO j)(bA:∀k i j,G9 k=some i->cO is js i=some j->dt k=some j){i j N:Nat}(dK:cO is js i=some j)(hρ:ρ1.o j=ρf.o i){ob x:Ob}
 (hr:sR S1.ver is js ob=some x) (h:bZ C (fi shs obs) ρf V G9 eW w N i ob):bZ C S1 ρ1 σ1 dt aO w N j x:=by
 cases ob<;>simp only[sR] at hr
 case row T e=>
  cases hr;obtain⟨cells,xs,h1,h2,h3,h4⟩:=h;exact⟨cells,xs,by rw[hρ];exact h1,by rw[<-gd i j dK];exact h2,h3.mono hσ,λk hk=>bA k i j (h4 k (by rw[gd i j dK];exact hk)) dK⟩
 case mp kt et=>
  cases hr;obtain⟨k,arr,clock,es,h1,h2,h3,h4,h5,h6,h7⟩:=h;exact⟨k,arr,clock,es,by rw[<-gd i j dK];exact h1,bA k i j h2 dK,h3,by rw[hρ];exact h4,h5,h6,λn e p he hp=>⟨(h7 n e p he hp).1.mono hσ,(h7 n e p he hp).2.mono hσ⟩⟩
 case box ag cs=>
  simp only[aB] at hr;obtain⟨fU,cI,rfl⟩:=hr;obtain⟨k,vs,T,ds,h1,h2,h3,h4,h5,h6,h7⟩:=h;obtain⟨l2,g2⟩:=W0 cI;refine⟨k,vs,T,ds,by rw[<-gd i j dK];exact h1,bA k i j h2 dK,h3,by omega,by rw[hρ];exact h5,by omega,λn s hs=>?_⟩;have af:n<cs.length:=by have:=(eL.1 hs).1;omega
  obtain⟨y,hy,Gz⟩:=g2 n _ (aX af);rw[hs] at hy;cases hy;exact⟨(WZ Gz).2,axD hσ gd Gz (h7 n _ (aX af)).2⟩
 all_goals cases hr
def axC {ver:Nat->Nat}{ob x:Ob}(hr:sR ver is js ob=some x):x≠.tr:=by
 cases ob<;>simp only[sR] at hr
 case row=>cases hr;intro e;cases e
 case mp=>cases hr;intro e;cases e
 case box=>
  simp only[aB] at hr;obtain⟨_,_,rfl⟩:=hr;intro e;cases e
 all_goals cases hr
def CtxOK.noM (h:CtxOK C V):CtxOK C V.noM:=⟨λg x hx=>(h.glob g x hx).noM,λg x hx=>by
 have:=h.mg g x hx;have au:V.m g≠some cE:=λe'=>by rw[this] at e';exact xr (uH e')
 simp only[Im.noM,if_neg au,this]⟩
def Jb (C:Ctx)(S:St)(O:Env)(V:Im)(hv:Nat->Value)(x:pM)(v:Value)(d:D):Prop:=aG C S O V hv x.1 v d/\∀y,x.2=some y->Rep C.cap V y.1 v (y.2.ev O)
def acP:∀{acts:List pM} {shs:List Sh} {es:List PE},wh S is js acts shs=some es->acts.length=shs.length/\es.length=shs.length/\∀(t:Nat) (s:Sh),shs[t]?=some s->∃x e,acts[t]?=some x/\es[t]?=some e/\Fw S is js x s=some e
 |[],[],es,h=>by simp only[wh,ba] at h;subst h;exact⟨rfl,rfl,λt s h=>by simp at h⟩
 |[],_::_,es,h=>by simp[wh] at h
 |_::_,[],es,h=>by simp[wh] at h
 |x::acts,s::shs,es,h=>by
  simp only[wh,az,aB] at h;obtain⟨e,he,r,hr,rfl⟩:=h;obtain⟨g1,g2,g3⟩:=acP hr;refine⟨by simp[g1],by simp[g2],λt s' hs=>?_⟩;cases t with
  |zero=>simp at hs;subst hs;exact⟨x,e,rfl,rfl,he⟩
  |succ t=>simp at hs;simpa using g3 t s' hs
def aoy (hσ:Im.leR C.cap V σ1){eW:Nat->Value}(gd:∀i j,cO is js i=some j->eW i=hv j){x:pM}{s:Sh}{e:PE}(hf:Fw S is js x s=some e){v:Value}{d:D}(h:Jb C S O V hv x v d):aG C (fi shs obs) ρf σ1 eW s v (e.ev O):=by
 have gen:∀s,(match lF S.ver is js s with|some y=>bif Sh.beq x.1 y then some (PE.con .none) else none|none=>none)=some e->qx s=false->aG C (fi shs obs) ρf σ1 eW s v (e.ev O):=by
  intro s hm hd;split at hm
  .rename_i y hy;cases hb:Sh.beq x.1 y<;>simp only[hb,zyy,zyx] at hm
   .cases hm
   have h1:=h.1;rw[Sh.beq_eq _ _ hb] at h1;have:=ajv (shs:=shs) (obs:=obs) (ρf:=ρf) hσ gd hy h1;cases s with
   |dat t=>cases hd
   |opt gs s'=>exact absurd rfl ((WZ hy).1 gs s')
   |eptr j ver size off=>simp[lF] at hy
   |agg l=>simp[lF] at hy
   |_=>exact this
  .cases hm
 unfold Fw at hf;split at hf
 .rename_i t;split at hf
  .rename_i y hy;cases hb:Ty.sub y.1 t<;>simp only[hb,zyy,zyx] at hf
   .cases hf
   cases hf;exact hσ.rep ((h.2 y hy).sub hb)
  .cases hf
 .trivial
 .rename_i lf rZ;refine gen _ hf ?_;cases s<;>first|rfl|exact absurd rfl (lf _)
def anf {eW Tr:Nat->Value}{V V':Im}{ρf Of':Env}{args:Nat->Value}{ds ds':Nat->D}(h1:∀(t:Nat) (s:Sh),shs[t]?=some s->aG C (fi shs obs) ρf V eW s (args t) (ds t))(h2:∀(t:Nat) (s:Sh),shs[t]?=some s->qx s=false->aG C (fi shs obs) Of' V' Tr s (args t) (ds' t))
 (hz:∀s,s∈shs->∃x,lF S.ver is js s=some x) {i:Nat} (hi:i∈rD shs):Tr i=eW i:=by
 have key:∀(l:List Sh),(∀s,s∈l->∃t:Nat,shs[t]?=some s)->i∈rD l->Tr i=eW i:=by
  intro l
  induction l with
  |nil=>intro _ h;cases h
  |cons s l ih=>
   intro hl hi;obtain⟨t,ht⟩:=hl s (fS ..);have qk:∀s,s∈l->∃t:Nat,shs[t]?=some s:=λs hs=>hl s (fw _ hs);obtain⟨x,hx⟩:=hz s (ko ht);have a1:=h1 t s ht;have a2:=h2 t s ht;cases s<;>simp only[rD] at hi
   case obj j ver=>
        simp only[lF] at hx;cases hb:Nat.beq ver 0<;>simp only[hb,zyy,zyx] at hx
        .cases hx
        rcases cD.1 hi with e|e
        .subst e;rw[<-(a1.2 (ay hb)),<-((a2 rfl).2 (ay hb))]
        .exact ih qk e
   case ptr j ver off=>
        simp only[lF] at hx;cases hb:Nat.beq ver 0<;>simp only[hb,zyy,zyx] at hx
        .cases hx
        rcases cD.1 hi with e|e
        .subst e;obtain⟨k1,e1,e2⟩:=a1.2 (ay hb);obtain⟨k2,e3,e4⟩:=(a2 rfl).2 (ay hb);rw[e2] at e4;cases e4;rw[e1,e3]
        .exact ih qk e
   case fclo f caps=>
        simp only[lF,aB] at hx;obtain⟨c,hc,_⟩:=hx;obtain⟨_,g2⟩:=OH hc;rcases dO.1 hi with e|e
        .obtain⟨y,hy,e1⟩:=bY.1 e;subst e1;obtain⟨m,hm⟩:=AI hy;obtain⟨vs,b1,b2,b3⟩:=a1;obtain⟨Ar,c1,c2,c3⟩:=a2 rfl;rw[b1] at c1;have jn:vs=Ar:=by simpa using c1
         subst jn;obtain⟨_,_,_,CL⟩:=g2 m y.1 y.2 hm;rw[<-(b3 m y.1 y.2 hm).2 CL,<-(c3 m y.1 y.2 hm).2 CL]
        .exact ih qk e
   all_goals exact ih qk hi
 exact key shs (λs hs=>AI hs) hi
end
section
variable {C:Ctx} {S:St} {O:Env} {V:Im} {own:Nat->Option Nat} {hv:Nat->Value} {w0:World} {σ0:Base} {A:Nat->Prop} {a:Act} {w:World} {Z:aT} {dst:Nat}
 {is js:List Nat} {shs:List Sh} {obs:List (Nat×Ob)}
def Below.weak {B:Nat}{w w':World}(h:Below 0 w w')(hk:∀k,k<B->w'.heap[k]?=w.heap[k]?):Below B w w':=⟨h.os,h.tape,h.output,h.size,hk⟩
def qG (js is:List Nat)(own:Nat->Option Nat):Nat->Option Nat:=λk=>(own k).bind (cO js is)
def G8 (js is:List Nat)(own own':Nat->Option Nat):Nat->Option Nat:=λk=>
 match own' k with
 |some i=>cO is js i
 |none=>match own k with|some j=>(match cO js is j with|some _=>none|none=>some j)|none=>none
def handed (h:Inv C S O V own hv w0 σ0 A a w)(hC:CtxOK C σ0)(Gr:zE shs obs=true)(F7:is=obs.map (·.1))(aee:is.Nodup)(Md:js.Nodup)(LZ:tG S is js obs js=true){acts:List pM}{es:List PE}(jX:wh S is js acts shs=some es)
 (LU:S.o jw=.dead) (Mo:jw∉js) {vals:List Value} (hvl:vals.length=acts.length) (aqn:∀(t:Nat) (x:pM),acts[t]?=some x->∃d,Jb C S O V hv x (vals.getD t undef) d) {f:Nat} {res:Ty} {d:D}
 (hfn:uF C f shs obs res (es.map (PE.ev O)++js.map O.o) d):
 Calls C.P f vals.toArray w λe w'=>∃v dr os,e=.returned v/\d=.tup (dr::os)/\os.length=js.length/\
  ∀O':Env,O'.r=O.r->(∀(k j:Nat),js[k]?=some j->O'.o j=os.getD k .none)->(∀j,j∉js->j≠jw->O'.o j=O.o j)->
   ∃σ1 dt aO,Inv C (S.handed shs obs is js) O' σ1 dt aO w0 σ0 A a w'/\Rep C.cap σ1 res v dr:=by
 obtain⟨al1,al2,jB⟩:=acP jX;have hZ:=acR LZ;have wG:w0.heap.size<=w.heap.size:=h.below.size;obtain⟨tr,fx,cx,hf,vh⟩:=h.frame
 let eW:Nat->Value:=λi=>match cO is js i with|some j=>hv j|none=>undef
 have gd:∀i j,cO is js i=some j->eW i=hv j:=λi j e=>by simp only[eW,e]
 have ad4:Im.leR C.cap V V.noM:=⟨Rep.noM,λ_ _ _ e=>e⟩
 have Gi:∀k x,V.noM.m k=some x->V.m k=some x/\x≠cE:=by
  intro k x e;by_cases hd:V.m k=some cE
  .simp[Im.noM,hd] at e
  .simp only[Im.noM,if_neg hd] at e;exact⟨e,λe2=>hd (by rw[e,e2])⟩
 have jW:(es.map (PE.ev O)++js.map O.o).drop shs.length=js.map O.o:=by rw[List.drop_append];simp[al2]
 have aq5:∀t e,es[t]?=some e->(es.map (PE.ev O)++js.map O.o).getD t .none=e.ev O:=λt e he=>by
  have af:=(eL.1 he).1;rw[aF,oc (by simpa using af),cm,he];rfl
 have asf:∀s,s∈shs->∃x,lF S.ver is js s=some x:=by
  intro s hs;obtain⟨t,ht⟩:=AI hs;obtain⟨x,e,_,_,he⟩:=jB t s ht;unfold Fw at he;split at he
  .exact⟨_,rfl⟩
  .exact⟨_,rfl⟩
  .split at he
   .rename_i y hy;exact⟨y,hy⟩
   .cases he
 have adX:∀t,aG C (fi shs obs) (ma obs (es.map (PE.ev O)++js.map O.o) ((es.map (PE.ev O)++js.map O.o).drop shs.length)) V.noM eW (shs.getD t .none) (vals.toArray.getD t undef) ((es.map (PE.ev O)++js.map O.o).getD t .none):=by
  intro t;cases hs:shs[t]? with
  |none=>rw[aF,hs];trivial
  |some s=>
   obtain⟨x,e,hx,he,LY⟩:=jB t s hs;obtain⟨d',aqo⟩:=aqn t x hx;rw[aF (l:=shs),hs,aq5 t e he];have e1:vals.toArray.getD t undef=vals.getD t undef:=by simp[fQ,aF]
   rw[e1];exact aoy ad4 gd LY aqo
 have ark:∀i,bZ C (fi shs obs) (ma obs (es.map (PE.ev O)++js.map O.o) ((es.map (PE.ev O)++js.map O.o).drop shs.length)) V.noM (qG js is own) eW w w0.heap.size i (ej obs i):=by
  intro i;cases dK:cO is js i with
  |none=>subst F7;rw[afC hZ dK];trivial
  |some j=>
   subst F7;obtain⟨x,hx,L2⟩:=acQ LZ dK;refine avq ad4 gd (λk j' i' hk hl=>by simp only[qG,hk,pV,hl]) Md dK ?_ hx L2 (h.objs j);show pv obs _ i=_;rw[jW];exact atw obs O.o rfl dK
 have da:=hfn w0.heap.size V.noM (qG js is own) eW w vals.toArray (λk=>(∃j,own k=some j/\cO js is j=none)\/V.m k=some cE\/(cx k)) Gr ⟨h.ok.c,λk x e=>h.ok.m k x (Gi k x e).1,h.ok.f⟩ ((hC.mono h.le).noM)
  (λk e=>(Gi k _ e).2 rfl) wG (by simp;omega) (λk i hk=>by
    simp only[qG,az] at hk;obtain⟨j,hj,_⟩:=hk;obtain⟨g1,g2,g3,g4⟩:=h.owns k j hj;exact⟨g1,g2,g3,by by_cases e:V.m k=some cE<;>simp[Im.noM,e,g4]⟩) (λk hk=>by
    rcases hk with⟨j,hj,hn⟩|hk|hk
    .obtain⟨g1,g2,g3,g4⟩:=h.owns k j hj;exact⟨g2,by simp[qG,hj,hn],g3,by by_cases e:V.m k=some cE<;>simp[Im.noM,e,g4]⟩
    .have Ge:=h.ok.m k _ hk;have hn:own k=none:=by
      cases e:own k with
      |none=>rfl
      |some j=>rw[(h.owns k j e).2.2.2] at hk;cases hk
     refine⟨Ge.lt,by simp[qG,hn],λo=>?_,by simp[Im.noM,hk]⟩;cases e:V.c k o with
     |none=>exact e
     |some x=>
      have c1:=h.ok.c k o x e;rcases Ge with⟨m1,_⟩|⟨_,m2⟩|⟨m3,_⟩
      .exact absurd rfl m1
      .simp[World.cell?,m2] at c1
      .exact absurd m3.symm xr
    .have lS:=σ0.sub _ _ _ _ hf.F k hk;have hn:own k=none:=by
      cases e:own k with
      |none=>rfl
      |some j=>exact absurd lS (hf.own k j e)
     refine⟨σ0.lt _ _ _ _ hf.F k lS,by simp[qG,hn],λo=>?_,?_⟩
     .cases e:V.c k o with
      |none=>exact e
      |some x=>exact absurd hk (hf.c k o x e)
     .cases e:V.m k with
      |none=>simp[Im.noM,e]
      |some x=>exact absurd hk (hf.m k x e)) adX ark
 refine da.mono λe w' hh=>?_;obtain⟨v,V',own',hv',dr,os,rfl,hd,SX,hle,ar,hb,iN,dp,cT,wC,aep,rW,SU,ga⟩:=hh;refine⟨v,dr,os,rfl,hd,by omega,λO' mD ny za=>?_⟩;have Gj:∀k,k<w.heap.size->own k=none->w'.heap[k]?=w.heap[k]?:=λk hk hn=>iN k hk (by simp[qG,hn]);have ar2:∀k j,own k=some j->cO js is j=none->w'.heap[k]?=w.heap[k]?:=λk j hk hn=>iN k (h.owns k j hk).2.1 (by simp[qG,hk,hn])
 have adE:∀k o x,V.c k o=some x->own k=none:=λk o x e=>by
  cases e1:own k with
  |none=>rfl
  |some j=>rw[(h.owns k j e1).2.2.1 o] at e;cases e
 have aed:∀k x,V.m k=some x->own k=none:=λk x e=>by
  cases e1:own k with
  |none=>rfl
  |some j=>rw[(h.owns k j e1).2.2.2] at e;cases e
 have aei:V.ok w':=⟨λk o x e=>by rw[World.cell?_of_block (Gj k (h.lt e) (adE k o x e))];exact h.ok.c k o x e,λk x e=>(h.ok.m k x e).keep (Gj k (h.ltm e) (aed k x e)),h.ok.fz λk o x e=>Gj k (h.lt e) (adE k o x e)⟩
 have mA:V.le (V'.plus V):=Im.plus_le2 ar aei;have iM:V'.le (V'.plus V):=Im.plus_le1 V' V;have cI:∀k o x,(V'.plus V).c k o=some x->V'.c k o=some x:=λk o x e=>(Im.plus_c e).elim id (λe=>hle.c k o x e)
 have Cu:∀k x,(V'.plus V).m k=some x->V'.m k=some x\/(V.m k=some x/\x=cE):=λk x e=>(Im.plus_m e).elim .inl (λe=>by
  by_cases hd:x=cE
  .exact .inr ⟨e,hd⟩
  .refine .inl (hle.m k x ?_);have:V.m k≠some cE:=λe2=>hd (by rw[e] at e2;cases e2;rfl);simp only[Im.noM,if_neg this,e])
 let aO:Nat->Value:=λj=>match cO js is j with|some i=>hv' i|none=>hv j
 have asQ:∀i j,cO is js i=some j->hv' i=aO j:=λi j e=>by simp only[aO,ML Md e]
 have aqM:∀i,i∈rD shs->hv' i=eW i:=λi hi=>anf (S:=S) (is:=is) (js:=js) (args:=λt=>vals.toArray.getD t undef) (ds:=λt=>(es.map (PE.ev O)++js.map O.o).getD t .none) (ds':=λt=>(es.map (PE.ev O)++js.map O.o).getD t .none) (λt s hs=>by
  have:=adX t;rw[aF (l:=shs),hs] at this;exact this) (λt s hs hd=>rW t s hs hd) asf hi
 have tN:Compat S hv (S.handed shs obs is js) aO:=by
  refine⟨λj=>?_,λj e=>?_⟩
  .show S.ver j<=xF S.ver shs is js j;unfold xF;split
   .cases aC (rD shs) _<;>simp
   .exact aZ _
  .change xF S.ver shs is js j=S.ver j at e;show aO j=hv j;simp only[aO];unfold xF at e;split at e
   .rename_i i hi;cases hb:aC (rD shs) i<;>rw[hb] at e
    .simp at e
    .try simp only[hi]
     rw[aqM i (aeV.1 hb),gd i j (ML aee hi)]
   .rename_i hi;try simp only[hi]
 have oS:∀k j,G8 js is own own' k=some j->(k<w.heap.size->own k≠none)/\w0.heap.size<=k/\k<w'.heap.size/\(∀o,V'.c k o=none)/\V'.m k=none/\V.m k≠some cE:=by
  intro k j hk;simp only[G8] at hk;split at hk
  .rename_i i hi;obtain⟨g1,g2,g3,g4,g5⟩:=aep k i hi;have g6:k<w.heap.size->own k≠none:=λaf e=>g5 af (by simp[qG,e]);refine⟨g6,g1,g2,g3,g4,λe=>?_⟩;exact g6 (h.ltm e) (aed k _ e)
  .split at hk
   .rename_i j' bz;split at hk
    .cases hk
    .rename_i hn;obtain⟨g1,g2,g3,g4⟩:=h.owns k j' bz;have dR:(∃j,own k=some j/\cO js is j=none)\/V.m k=some cE\/(cx k):=.inl ⟨j',bz,hn⟩;refine⟨λ_ e=>(by rw[bz] at e;cases e),g1,lM g2 hb.size,λo=>?_,?_,λe=>?_⟩
     .cases e:V'.c k o with
      |none=>rfl
      |some x=>exact absurd dR (dp k o x e).2
     .cases e:V'.m k with
      |none=>rfl
      |some x=>exact absurd dR (cT k x e).2
     .rw[g4] at e;cases e
   .cases hk
 refine⟨V'.plus V,G8 js is own own',aO,⟨h.defers.mono mA,Im.plus_ok ar aei,h.le.trans mA,h.old,λk o x e=>?_,λk x e=>?_,h.below.trans (Below.weak hb λk hk=>?_),h.bw,λk j hk=>?_,λt=>?_,λj=>?_,h.opts,?_⟩,ga.mono iM⟩
 .rcases(dp k o x (cI k o x e)).1 with e1|e1
  .exact h.newc k o x e1
  .exact .inr e1
 .rcases Cu k x e with e1|e1
  .rcases(cT k x e1).1 with e2|e2
   .exact h.newm k x (Gi k x e2).1
   .exact .inr e2
  .exact h.newm k x e1.1
 .have cu:k<w0.heap.size:=lM hk h.bw;refine Gj k (by omega) ?_;cases e:own k with
  |none=>rfl
  |some j=>have:=(h.owns k j e).1;omega
 .obtain⟨_,g1,g2,g3,g4,g5⟩:=oS k j hk;refine⟨g1,g2,λo=>?_,?_⟩
  .cases e:(V'.plus V).c k o with
   |none=>rfl
   |some x=>have:=cI k o x e;rw[g3 o] at this;cases this
  .cases e:(V'.plus V).m k with
   |none=>rfl
   |some x=>
    rcases Cu k x e with e1|e1
    .rw[g4] at e1;cases e1
    .exact absurd (by rw[e1.1,e1.2]) g5
 .show aG C _ O' _ aO (S.r t) _ (O'.r t);rw[mD]
  exact aG.mono mA tN (λgs s e=>by
   unfold holds;rw[mD]) (λgs s e=>(h.opts t gs s e).2) (h.regs t)
 .show bZ C _ O' _ _ aO w' _ j (match cO js is j with|some i=>(match sR (xF S.ver shs is js) is js (ej obs i) with|some o=>o|none=>.dead)|none=>S.o j);split
  .rename_i i hi;have dK:=ML aee hi;split
   .rename_i x hx;refine avr (S1:=S.handed shs obs is js) iM asQ (λk i' j' hk hl=>by simp only[G8,hk,hl]) dK ?_ hx (SU i);subst F7;obtain⟨k,bG,cu⟩:=afv (os:=os) SX dK;show O'.o j=pv obs os i;rw[cu];exact ny k j bG
   .trivial
  .rename_i hn
   have SL:j∉js:=λhm=>by
        obtain⟨k,hk⟩:=AI hm;have af:k<is.length:=by
         have:=(eL.1 hk).1;rw[F7,ed];omega
        have:=MK Md hk (aX af);rw[hn] at this;cases this
   by_cases L7:j=jw
   .subst L7;rw[LU];trivial
   .refine(h.objs j).mono mA tN (by show aO j=hv j;simp only[aO,hn]) (za j SL L7) (λk hk=>⟨?_,ar2 k j hk hn⟩);have:own' k=none:=by
     cases e:own' k with
     |none=>rfl
     |some i=>exact absurd (by simp[qG,hk,hn]) ((aep k i e).2.2.2.2 (h.owns k j hk).2.1)
    simp only[G8,this,hk,hn]
 .refine⟨tr,fx,cx,⟨σ0.keep _ _ _ _ _ hf.F hb λk hk=>?_,λk j hk lS=>?_,λk o x e hc=>?_,λk x e hc=>?_,λk e hB hk=>?_⟩,λj hj=>?_⟩
  .refine Gj k (σ0.lt _ _ _ _ hf.F k hk) ?_;cases e:own k with
   |none=>rfl
   |some j=>exact absurd hk (hf.own k j e)
  .have af:=σ0.lt _ _ _ _ hf.F k lS;have:=(oS k j hk).1 af;cases e:own k with
   |none=>exact this e
   |some j'=>exact hf.own k j' e lS
  .exact(dp k o x (cI k o x e)).2 (.inr (.inr hc))
  .rcases Cu k x e with e1|e1
   .exact(cT k x e1).2 (.inr (.inr hc))
   .exact hf.m k x e1.1 hc
  .rcases Cu k _ e with e1|e1
   .have af:=σ0.lt _ _ _ _ hf.F k hk;refine wC k e1 hB af ?_;have:own k=none:=by
     cases e:own k with
     |none=>rfl
     |some j=>exact absurd hk (hf.own k j e)
    simp[qG,this]
   .exact hf.d k e1.1 hB hk
  .change (match cO js is j with|some i=>(match sR (xF S.ver shs is js) is js (ej obs i) with|some o=>o|none=>.dead)|none=>S.o j)=.tr at hj;split at hj
   .rename_i i hi;split at hj
    .rename_i x hx;exact absurd hj (axC hx)
    .cases hj
   .rename_i hn
    have SL:j∉js:=λhm=>by
     obtain⟨k,hk⟩:=AI hm;have af:k<is.length:=by
         have:=(eL.1 hk).1;rw[F7,ed];omega
     have:=MK Md hk (aX af);rw[hn] at this;cases this
    have L7:j≠jw:=λe=>by subst e;rw[LU] at hj;cases hj
    rw[za j SL L7];exact vh j hj
def ajO:∀(js:List Nat) (k:Nat) {O O':Env} {l:List D},PI.runs Z (IP js k) O=some O'->O.o jw=.tup l->jw∉js->js.Nodup->
 O'.r=O.r/\(∀(i j:Nat),js[i]?=some j->O'.o j=l.getD (k+i) .none)/\∀j,j∉js->O'.o j=O.o j
 |[],k,O,O',l,h,hs,hn,hd=>by
  simp only[IP,PI.runs,ba] at h;subst h;exact⟨rfl,λi j e=>by simp at e,λ_ _=>rfl⟩
 |x::js,k,O,O',l,h,hs,hn,hd=>by
  simp only[IP,PI.runs,PI.run,pV,PE.ev,hs,D.tget] at h;simp only[cD,not_or] at hn;have gA:=pS.1 hd;obtain⟨g1,g2,g3⟩:=ajO js (k+1) h (by simp only[Env.setO];rw[bC _ _ hn.1];exact hs) hn.2 gA.2;refine⟨g1,λi j e=>?_,λj hj=>?_⟩
  .cases i with
   |zero=>simp at e;subst e;rw[g3 _ gA.1];simp[Env.setO,aN]
   |succ i=>simp at e;rw[g2 i j e];congr 1;omega
  .simp only[cD,not_or] at hj;rw[g3 j hj.2];simp only[Env.setO];exact bC _ _ hj.1
def ali (h:Inv C S O V own hv w0 σ0 A a w)(hC:CtxOK C σ0)(x:Operand):∃d,Jb C S O V hv (Jy C S x) (a.eval x) d:=by
 cases x with
 |tmp t=>
  refine⟨O.r t,?_,λy hy=>cB (gs:=[]) h hC rfl hy⟩;have:=(nR (gs:=[]) h rfl t).1;simpa [Act.eval,Jy,gN] using this
 |_=>exact⟨.none,trivial,λy hy=>cB (gs:=[]) h hC rfl hy⟩
def acm (h:Inv C S O V own hv w0 σ0 A a w)(hC:CtxOK C σ0)(hΦ:du C Z){f:Nat}{args:List Operand}{caps:List (Nat×Nat)}{vs:List Value}(jn:vs.length=caps.length)
 (eV:∀(i j ver:Nat),caps[i]?=some (j,ver)->ver<=S.ver j/\(ver=S.ver j->vs.getD i undef=hv j)) (rP:∀(i j ver:Nat),caps[i]?=some (j,ver)->ver=S.ver j->∃k,hv j=.pointer (some ⟨k,0,none⟩)) {r:St×Ty×List PI} (hr:tu C S f args caps=some r)
 {ρ1:Env} (ak:PI.runs Z r.2.2 O=some ρ1):
 Calls C.P f (args.map a.eval++vs).toArray w λe w'=>∃v σ1 dt aO,e=.returned v/\Inv C r.1 ρ1 σ1 dt aO w0 σ0 A a w'/\Rep C.cap σ1 r.2.1 v ((ρ1.o jw).tget 0):=by
 simp only[tu,az] at hr;obtain⟨s,hs,hr⟩:=hr;split at hr
 case h_2=>cases hr
 rename_i shs obs lV;obtain⟨σ2,jI,iM,h2⟩:=Inv.fzs (Ca S args shs) h;have dC:=(rO (Ca S args shs) S).1;generalize S.fzs (Ca S args shs)=S2 at hr h2 dC;unfold Rk Rj at hr;generalize acJ S2 shs obs (args.map (Jy C S2)++caps.map abJ)=js at hr;simp only[az] at hr;obtain⟨es,jX,hr⟩:=hr;cases hb:(zE shs obs&&(il (obs.map (·.1))&&il js&&tG S2 (obs.map (·.1)) js obs js&&qy (S2.o jw)&& !aC js jw))<;>simp only[hb,zyy,zyx] at hr
 .cases hr
 cases hr;simp only[ao,kT] at hb;obtain⟨b0,⟨⟨⟨b1,b2⟩,b3⟩,b4⟩,b5⟩:=hb;have lf:=qD b1;have rZ:=qD b2;have LU:S2.o jw=.dead:=by
  cases e:S2.o jw<;>rw[e] at b4<;>first|rfl|cases b4
 have Mo:jw∉js:=λhm=>by rw[aeV.2 hm] at b5;cases b5
 simp only[PI.runs,PI.run,az,aB] at ak;obtain⟨ρ2,⟨d,hd,rfl⟩,ak⟩:=ak;rw[PE.evs_eq,pR,oe] at hd;have e1:js.map (PE.ev O∘PE.o)=js.map O.o:=rfl;rw[e1] at hd;have hfn:=((hΦ f _ d hd s hs).2 shs obs lV).plain b0
 have da:=handed h2 hC b0 rfl lf rZ b3 jX LU Mo (vals:=args.map a.eval++vs) (by simp[jn]) (λt x hx=>by
  rw[mV] at hx;split at hx
  .rename_i af;rw[ed] at af;rw[cm,aX af] at hx;cases hx;have:(args.map a.eval++vs).getD t undef=a.eval args[t]:=by
        rw[aF,oc (by simpa using af),cm,aX af];rfl
   rw[this];exact ali h2 hC _
  .rename_i gZ;rw[ed] at gZ hx;rw[cm,aB] at hx;obtain⟨c,hc,rfl⟩:=hx;obtain⟨j,ver⟩:=c;have cv:(args.map a.eval++vs).getD t undef=vs.getD (t-args.length) undef:=by
        rw[aF,od (by simpa using gZ),ed,aF]
   obtain⟨g1,g2⟩:=eV _ j ver hc;refine⟨.none,⟨by rw[dC];exact g1,λe=>?_⟩,λy hy=>by cases hy⟩;rw[dC] at e;obtain⟨k,hk⟩:=rP _ j ver hc e;exact⟨k,hk,by rw[cv,g2 e,hk]⟩) (hfn:=hfn)
 refine da.mono λe w' hh=>?_;obtain⟨v,dr,os,rfl,rfl,SX,kG⟩:=hh;obtain⟨g1,g2,g3⟩:=ajO js 1 (l:=dr::os) ak (by simp[Env.setO,aN]) Mo rZ
 obtain⟨σ1,dt,aO,hinv,bL⟩:=kG ρ1 g1 (λk j hk=>by
  have:=g2 k j hk;rw[Ej] at this;simpa using this) (λj hj au=>by rw[g3 j hj];simp only[Env.setO];exact bC _ _ au)
 refine⟨v,σ1,dt,aO,rfl,hinv,?_⟩;rw[g3 jw Mo];simpa [Env.setO,aN,D.tget] using bL
def sA (S:St)(dst:Option Nat)(r:St×Ty×List PI):St×List PI:=
 match dst with
 |some d=>(r.1.setR d (.dat r.2.1),r.2.2++[.setR d (.tget (.o jw) 0)])
 |none=>(r.1,r.2.2)
def axT {a b:List PI}{O:Env}:PI.runs Z (a++b) O=(PI.runs Z a O).bind (PI.runs Z b):=by
 induction a generalizing O with
 |nil=>simp[PI.runs]
 |cons x a ih=>
  simp only[Jk,PI.runs];cases x.run Z O with
  |none=>rfl
  |some ρ1=>simp[ih]
def abG {o:Oper}{f:Nat}{vals:List Value}(ht:∀d,o.dst=some d->¬A d/\d<a.tmps.size){r:St×Ty×List PI}(hx:(execOp a.eval o).run C.P w=.ok (.enter f vals.toArray) w)
 (hc:∀ρ1,PI.runs Z r.2.2 O=some ρ1->Calls C.P f vals.toArray w λe w'=>∃v σ1 dt aO,e=.returned v/\Inv C r.1 ρ1 σ1 dt aO w0 σ0 A a w'/\Rep C.cap σ1 r.2.1 v ((ρ1.o jw).tget 0)):bT C w0 σ0 Z S O A a w o (sA S o.dst r):=by
 intro O' ak K Q hK;simp only[Oper.wp,hx,Oper.upon];cases hd:o.dst with
 |none=>
  rw[hd] at ak hK;refine(hc O' ak).mono λe w' hh=>?_;obtain⟨v,σ1,dt,aO,rfl,hinv,bL⟩:=hh;refine hK _ _ ⟨σ1,dt,aO,?_⟩ rfl;have:(λu=>A u\/(none:Option Nat)=some u)=A:=by funext u;simp
  rw[this];exact hinv
 |some d=>
  rw[hd] at ak hK;obtain⟨t1,t2⟩:=ht d hd;simp only[sA,axT,az] at ak;obtain⟨ρ1,h1,h2⟩:=ak;simp[PI.runs,PI.run,PE.ev] at h2;subst h2;refine(hc ρ1 h1).mono λe w' hh=>?_;obtain⟨v,σ1,dt,aO,rfl,hinv,bL⟩:=hh;refine hK _ _ ⟨σ1,dt,aO,?_⟩ (size_put _ _ _);have:(λu=>A u\/some d=some u)=(λu=>A u\/u=d):=by funext u;simp[eq_comm]
  rw[this];exact hinv.setReg t1 (s:=.dat r.2.1) bL t2 (λ_ _ e=>by cases e)
def acn (h:Inv C S O V own hv w0 σ0 A a w)(hC:CtxOK C σ0)(aY:dN C)(hΦ:du C Z){f:Nat}{args:Array Operand}{ts:Array TypeId}{r:St×Ty×List PI}{o:Oper}(ht:∀d,o.dst=some d->¬A d/\d<a.tmps.size)
 (hr:tu C S f args.toList []=some r) (ho:o.op=.call {callee:=.value (.func f),args:=args,argTypes:=ts}):bT C w0 σ0 Z S O A a w o (sA S o.dst r):=by
 have hs:∃s,C.sig f=some s:=by
  simp only[tu,az] at hr;obtain⟨s,hs,_⟩:=hr;exact⟨s,hs⟩
 obtain⟨s,hs⟩:=hs;have hx:=IK (a:=a) (w:=w) aY hs ho;have kK:args.map a.eval=(args.toList.map a.eval++[]).toArray:=by apply uC;simp
 rw[kK] at hx;exact abG ht hx λρ1 ak=>acm h hC hΦ (vs:=[]) rfl (λi j ver e=>by simp at e) (λi j ver e=>by simp at e) hr ak
def AT (S:St):List (Nat×Nat)->Bool
 |[]=>true
 |c::l=>Nat.beq c.2 (S.ver c.1)&&(match S.o c.1 with|.box ..=>true|_=>false)&&AT S l
def abL (h:Inv C S O V own hv w0 σ0 A a w):∀{l:List (Nat×Nat)},AT S l=true->∀(i j ver:Nat),l[i]?=some (j,ver)->ver=S.ver j/\∃k,hv j=.pointer (some ⟨k,0,none⟩)
 |[],_,i,j,ver,e=>by simp at e
 |c::l,hl,i,j,ver,e=>by
  simp only[AT,ao] at hl;cases i with
  |zero=>
   simp at e;subst e;refine⟨ay hl.1.1,?_⟩;have h1:=hl.1.2;have h2:=h.objs j;split at h1
   .rename_i ag shs eo;simp only at eo;rw[eo] at h2;obtain⟨k,cs,T,ds,g1,_⟩:=h2;exact⟨k,g1⟩
   .cases h1
  |succ i=>simp at e;exact abL h hl.2 i j ver e
def BY (C:Ctx)(S:St)(t:Nat)(args:List Operand):Option (St×Ty×List PI):=
 match nQ S [] t with
 |.fclo f caps=>bif AT S caps then tu C S f args caps else none
 |_=>none
def ack (h:Inv C S O V own hv w0 σ0 A a w)(hC:CtxOK C σ0)(aY:dN C)(hΦ:du C Z){t:Nat}{args:Array Operand}{ts:Array TypeId}{r:St×Ty×List PI}{o:Oper}(ht:∀d,o.dst=some d->¬A d/\d<a.tmps.size)
 (hr:BY C S t args.toList=some r) (ho:o.op=.call {callee:=.value (.tmp t),args:=args,argTypes:=ts}):bT C w0 σ0 Z S O A a w o (sA S o.dst r):=by
 unfold BY at hr;split at hr
 case h_2=>cases hr
 rename_i f caps jZ;cases hb:AT S caps<;>simp only[hb,zyy,zyx] at hr
 .cases hr
 have gC:=(nR (gs:=[]) h rfl t).1;rw[jZ] at gC;obtain⟨vs,h1,h2,h3⟩:=gC;have hs:∃s,C.sig f=some s:=by
  simp only[tu,az] at hr;obtain⟨s,hs,_⟩:=hr;exact⟨s,hs⟩
 obtain⟨s,hs⟩:=hs;have hx:=ajH (a:=a) (w:=w) (vs:=vs) (x:=.tmp t) aY hs (by simpa [Act.eval] using h1) ho;have kK:args.map a.eval++vs.toArray=(args.toList.map a.eval++vs).toArray:=by apply uC;simp
 rw[kK] at hx;exact abG ht hx λρ1 ak=>acm h hC hΦ h2 h3 (λi j ver e _=>(abL h hb i j ver e).2) hr ak
def ET (S:St):List Operand->Option (List (Nat×Nat))
 |[]=>some []
 |x::xs=>
  match x with
  |.tmp t=>
   match nQ S [] t with
   |.ptr j ver off=>bif Nat.beq ver (S.ver j)&&Nat.beq off 0 then(ET S xs).map λr=>(j,ver)::r else none
   |_=>none
  |_=>none
def Fl (C:Ctx)(S:St)(dst:Nat)(fn:Fn)(first caps:Array Operand):Option (St×List PI):=
 match fn,first.toList with
 |.func f,[]=>
  match C.sig f with
  |some s=>bif sk s.mode then(ET S caps.toList).map λc=>(S.setR dst (.fclo f c),[.setR dst (.con .none)]) else none
  |none=>none
 |_,_=>none
def abM (h:Inv C S O V own hv w0 σ0 A a w):∀{l:List Operand} {c:List (Nat×Nat)},ET S l=some c->c.length=l.length/\∀(i j ver:Nat),c[i]?=some (j,ver)->ver<=S.ver j/\(ver=S.ver j->(l.map a.eval).getD i undef=hv j)
 |[],c,e=>by simp only[ET,ba] at e;subst e;exact⟨rfl,λi j ver e=>by simp at e⟩
 |x::xs,c,e=>by
  simp only[ET] at e;split at e
  case h_2=>cases e
  rename_i t;split at e
  case h_2=>cases e
  rename_i j ver off jZ;cases hb:(Nat.beq ver (S.ver j)&&Nat.beq off 0)<;>simp only[hb,zyy,zyx] at e
  .cases e
  simp only[ao] at hb;simp only[aB] at e;obtain⟨r,hr,rfl⟩:=e;obtain⟨g1,g2⟩:=abM h hr;have gC:=(nR (gs:=[]) h rfl t).1;rw[jZ] at gC;refine⟨by simp[g1],λi j' nW e=>?_⟩;cases i with
  |zero=>
   simp at e;obtain⟨rfl,rfl⟩:=e;refine⟨gC.1,λe=>?_⟩;obtain⟨k,k1,k2⟩:=gC.2 e;have e0:off=0:=ay hb.2;subst e0;rw[k1,<-k2];simp[Act.eval]
  |succ i=>simp at e;simpa using g2 i j' nW e
def anO (h:Inv C S O V own hv w0 σ0 A a w)(ht:¬A dst)(af:dst<a.tmps.size){fn:Fn}{first caps:Array Operand}{r:St×List PI}{o:Oper}(hr:Fl C S dst fn first caps=some r)(hd:o.dst=some dst)(ho:o.op=.makeFunc fn first caps):bT C w0 σ0 Z S O A a w o r:=by
 unfold Fl at hr;split at hr
 case h_2=>cases hr
 rename_i f F2;split at hr
 case h_2=>cases hr
 rename_i s hs;cases hb:sk s.mode<;>simp only[hb,zyy,zyx] at hr
 .cases hr
 simp only[aB] at hr;obtain⟨c,hc,rfl⟩:=hr;obtain⟨g1,g2⟩:=abM h hc;have Sl:first=#[]:=by rw[<-vJ];simpa using F2
 refine bT.value hd λO' ak=>⟨.func (.func f) #[] (caps.toList.map a.eval).toArray,w,?_,?_⟩
 .subst Sl;have e9:caps.map a.eval=(caps.toList.map a.eval).toArray:=by apply uC;rw[vK]
  simp[execOp,ho,Instr.makeFunc,e9]
 .have hρ:O'=O.setR dst .none:=by simp[PI.runs,PI.run,PE.ev] at ak;exact ak.symm
  subst hρ;exact⟨_,_,_,h.setReg ht (s:=.fclo f c) ⟨_,rfl,by simp[g1],g2⟩ af (λ_ _ e=>by cases e)⟩
end
end Cx
