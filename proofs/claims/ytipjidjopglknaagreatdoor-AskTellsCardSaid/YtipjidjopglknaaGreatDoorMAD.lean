/-
  Calls.
-/
import Derived.Test.YtipjidjopglknaaGreatDoorMAC
set_option linter.defProp false
set_option linter.unusedSimpArgs false
set_option linter.unusedVariables false
noncomputable section
namespace Cx
open Go Go.RowKit
open Classical in
def Im.noM (V:Im):Im:=⟨V.c,λk=>if V.m k=some cW then none else V.m k⟩
def Rep.noM {cap:Nat->Option CSig}{V:Im}{t:Ty}{v:Value}{d:D}(h:Rep cap V t v d):Rep cap V.noM t v d:=by
 induction h with
 |int k n h1 h2=>exact .int k n h1 h2
 |bool b=>exact .bool b
 |str s h=>exact .str s h
 |agg ts vs ds h1 h2 _ ho ih=>exact .agg ts vs ds h1 h2 ih ho
 |tup ts vs ds h1 h2 _ ih=>exact .tup ts vs ds h1 h2 ih
 |nil e=>exact .nil e
 |emp e a=>exact .emp e a
 |nils e=>exact .nils e
 |nsl0 e=>exact .nsl0 e
 |nsl e k o n c xs _ hx ih=>exact .nsl e k o n c xs ih hx
 |slice e k o n c xs vs hn hc hm _ hv hz ih=>
  refine .slice e k o n c xs vs hn hc hm ih hv λe=>?_;have:=hz e;have aB:V.m k≠some cW:=λe'=>by rw[this] at e';exact vg (vM e')
  simp only[Im.noM,if_neg aB,this]
 |mapnil kt et=>exact .mapnil kt et
 |map kt et r gZ es hm hl hx hk _ kD CH=>
  refine .map kt et r gZ es ?_ hl hx kD CH;have aB:V.m r≠some cW:=λe=>by rw[hm] at e;cases e;exact GV hl hk rfl
  simp only[Im.noM,if_neg aB,hm]
 |ref t k o v d _ hv ih=>exact .ref t k o v d ih hv
 |fn f cs vs ds hc h1 h2 _ ih=>exact .fn f cs vs ds hc h1 h2 ih
 |fnnil aa r=>exact .fnnil aa r
def Im.plus (V τ:Im):Im:=⟨λk o=>(V.c k o).or (τ.c k o),λk=>(V.m k).or (τ.m k)⟩
def Im.plus_le1 (V τ:Im):V.le (V.plus τ):=⟨λk o v h=>by simp[Im.plus,h],λk v h=>by simp[Im.plus,h]⟩
def mF.det {w:World}{k:Nat}{x y:List (Value×Value)}(h:mF w k x)(g:mF w k y):x=y:=by
 rcases h with⟨_,a,c,h1,h2⟩|⟨h1,h2⟩|⟨h1,_,_,_,h2⟩<;>rcases g with⟨_,a',c',g1,g2⟩|⟨g1,g2⟩|⟨g1,_,_,_,g2⟩
 .rw[h1] at g1;cases g1;rw[<-h2,<-g2]
 .rw[h1] at g2;cases g2
 .rw[h1] at g2;cases g2
 .rw[h2] at g1;cases g1
 .rw[h1,g1]
 .rw[h2] at g2;cases g2
 .rw[h2] at g1;cases g1
 .rw[h2] at g2;cases g2
 .rw[h1,g1]
def Im.plus_le2 {V τ:Im}{w:World}(h:V.ok w)(g:τ.ok w):τ.le (V.plus τ):=by
 refine⟨λk o v e=>?_,λk v e=>?_⟩
 .show(V.c k o).or (τ.c k o)=some v;cases hc:V.c k o with
  |none=>simpa using e
  |some u=>have:=(h.c k o u hc).symm.trans (g.c k o v e);simpa using this
 .show(V.m k).or (τ.m k)=some v;cases hc:V.m k with
  |none=>simpa using e
  |some u=>simpa using(h.m k u hc).det (g.m k v e)
def Im.plus_ok {V τ:Im}{w:World}(h:V.ok w)(g:τ.ok w):(V.plus τ).ok w:=by
 refine⟨λk o v e=>?_,λk v e=>?_,λk o v e=>?_⟩
 .change (V.c k o).or (τ.c k o)=some v at e;cases hc:V.c k o with
  |none=>rw[hc] at e;exact g.c k o v (by simpa using e)
  |some u=>rw[hc] at e;simp at e;subst e;exact h.c k o u hc
 .change (V.m k).or (τ.m k)=some v at e;cases hc:V.m k with
  |none=>rw[hc] at e;exact g.m k v (by simpa using e)
  |some u=>rw[hc] at e;simp at e;subst e;exact h.m k u hc
 .change (V.c k o).or (τ.c k o)=some _ at e;cases hc:V.c k o with
  |none=>rw[hc] at e;exact g.f k o v (by simpa using e)
  |some u=>rw[hc] at e;simp at e;subst e;exact h.f k o v hc
def Im.plus_c {V τ:Im}{k o:Nat}{v:Value}(h:(V.plus τ).c k o=some v):V.c k o=some v\/τ.c k o=some v:=by
 change (V.c k o).or (τ.c k o)=some v at h;cases hc:V.c k o with
 |none=>rw[hc] at h;exact .inr (by simpa using h)
 |some u=>rw[hc] at h;exact .inl (by simpa using h)
def Im.plus_m {V τ:Im}{k:Nat}{v:List (Value×Value)}(h:(V.plus τ).m k=some v):V.m k=some v\/τ.m k=some v:=by
 change (V.m k).or (τ.m k)=some v at h;cases hc:V.m k with
 |none=>rw[hc] at h;exact .inr (by simpa using h)
 |some u=>rw[hc] at h;exact .inl (by simpa using h)
def Ty.pureT:Ty->Bool
 |.int _|.bool|.str|.nils _=>true
 |_=>false
def Ty.pure:Ty->Bool
 |.tup ts=>ts.all Ty.pureT
 |.agg ts=>ts.all Ty.pureT
 |t=>Ty.pureT t
def Rep.pureT {cap:Nat->Option CSig}{V τ:Im}{t:Ty}{v:Value}{d:D}(h:Rep cap V t v d)(hp:t.pureT=true):Rep cap τ t v d:=by
 cases h<;>simp[Ty.pureT] at hp<;>constructor<;>assumption
def Rep.pure {cap:Nat->Option CSig}{V τ:Im}{t:Ty}{v:Value}{d:D}(h:Rep cap V t v d)(hp:t.pure=true):Rep cap τ t v d:=by
 cases h with
 |agg ts vs ds h1 h2 h ho=>exact .agg ts vs ds h1 h2 (λi t hi=>(h i t hi).pureT (bR.1 hp t (ko hi))) ho
 |tup ts vs ds h1 h2 h=>exact .tup ts vs ds h1 h2 (λi t hi=>(h i t hi).pureT (bR.1 hp t (ko hi)))
 |int k n h1 h2=>exact .int k n h1 h2
 |bool b=>exact .bool b
 |str s h=>exact .str s h
 |nils e=>exact .nils e
 |_=>simp[Ty.pure,Ty.pureT] at hp
def aal (C:Ctx)(V':Im)(B:Nat)(w':World)(ow:Nat->Option Nat)(i:Nat):RC->Value->D->Prop
 |.dat t,v,d=>t.one=true/\Rep C.cap V' t v d
 |.row T e,v,d=>∃cells xs,d=.list xs/\w'.ownsRow B T e.size v xs.length cells/\fc C.cap V' e cells xs/\∀k,v.ownBlock=some k->ow k=some i
def mZ (C:Ctx)(s:Sig)(V':Im)(w w':World)(v:Value)(d:D):Prop:=
 match s.mode with
 |.dat=>Rep C.cap V' s.res v d
 |.it _=>True
 |.ob ..=>True
 |.rows l=>∃(vs:List Value) (ds:List D) (ow:Nat->Option Nat),v=.agg vs.toArray/\d=.agg ds/\vs.length=l.length/\ds.length=l.length/\(∀(i:Nat) (c:RC),l[i]?=some c->aal C V' w.heap.size w' ow i c (vs.getD i undef) (ds.getD i .none))/\
   ∀k i,ow k=some i->w.heap.size<=k/\k<w'.heap.size/\(∀o,V'.c k o=none)/\V'.m k=none
 |.row T e=>∃cells xs,d=.list xs/\w'.ownsRow w.heap.size T e.size v xs.length cells/\fc C.cap V' e cells xs/\∀k,v.ownBlock=some k->(∀o,V'.c k o=none)/\V'.m k=none
def qo (C:Ctx)(V:Im)(ts:List Ty)(args:List Value)(ds:List D):Prop:=
 args.length=ts.length/\ds.length=ts.length/\∀(i:Nat) (t:Ty),ts[i]?=some t->Rep C.cap V t (args.getD i undef) (ds.getD i .none)
def gN (C:Ctx)(f:Nat)(s:Sig)(ds:List D)(d:D):Prop:=
 ∀(V:Im) (w:World) (args:Array Value),V.ok w->CtxOK C V->qo C V s.args args.toList ds->
  Calls C.P f args w λe w'=>∃v V',e=.returned v/\V.le V'/\V'.ok w'/\Below w.heap.size w w'/\
   (∀k o x,V'.c k o=some x->V.c k o=some x\/w.heap.size<=k)/\(∀k x,V'.m k=some x->V.m k=some x\/w.heap.size<=k)/\mZ C s V' w w' v d
def eZ:List (Nat×Ob)->Nat->Ob
 |[],_=>.dead
 |x::l,j=>bif Nat.beq x.1 j then x.2 else eZ l j
def oA:List (Nat×Ob)->List D->Nat->D
 |x::l,d::ds,j=>bif Nat.beq x.1 j then d else oA l ds j
 |_,_,_=>.none
def gI (shs:List Sh)(obs:List (Nat×Ob)):St:=⟨λt=>shs.getD t .none,λj=>eZ obs j,λ_=>0⟩
def nv (obs:List (Nat×Ob))(ds os:List D):Env:=⟨λt=>ds.getD t .none,λj=>oA obs os j⟩
def ox:Sh->Bool
 |.dat _=>true
 |_=>false
def pM:Mode->Bool
 |.ob ..=>true
 |_=>false
def uR:Sh->Bool
 |.none|.dat _|.obj ..|.ptr ..|.fclo ..=>true
 |_=>false
def Ni:Ob->Bool
 |.row ..|.mp ..=>true
 |.box _ shs=>shs.all uR
 |_=>false
def zH (shs:List Sh)(obs:List (Nat×Ob)):Bool:=shs.all uR&&obs.all λx=>Ni x.2
def MJ:List Sh->List (Nat×Ob)->Option (TypeId×Ty×List Ty)
 |.obj 0 0::l,[(0,.row T e),(1,.tr)]=>(aa8 l).map λts=>(T,e,ts)
 |_,_=>none
def D7 (C:Ctx)(f:Nat)(T:TypeId)(e:Ty)(ts:List Ty)(ds:List D)(d:D):Prop:=
 ∀(N:Nat) (V:Im) (w:World) (v:Value) (args:List Value) (xs:List D) (cells:List Value) (ds':List D),ds=.list xs::ds'->V.ok w->CtxOK C V->N<=w.heap.size->w.ownsRow N T e.size v xs.length cells->fc C.cap V e cells xs->
  (∀k,v.ownBlock=some k->k<w.heap.size/\(∀o,V.c k o=none)/\V.m k=none)->qo C V ts args ds'->
  Calls C.P f (v::args).toArray w λx w'=>∃v' kJ dI,x=.returned v'/\d=.list kJ/\Below N w w'/\(∀k,k<w.heap.size->v.ownBlock≠some k->w'.heap[k]?=w.heap[k]?)/\
   w'.ownsRow N T e.size v' kJ.length dI/\fc C.cap V e dI kJ/\∀k,v'.ownBlock=some k->(v.ownBlock=some k\/w.heap.size<=k)/\k<w'.heap.size
def vC (C:Ctx)(f:Nat)(shs:List Sh)(obs:List (Nat×Ob))(res:Ty)(ds:List D)(d:D):Prop:=
 ∀(N:Nat) (V:Im) (own:Nat->Option Nat) (hv:Nat->Value) (w:World) (args:Array Value) (cx:Nat->Prop),zH shs obs=true->V.ok w->CtxOK C V->(∀k,V.m k≠some cW)->N<=w.heap.size->args.size=shs.length->
  (∀k j,own k=some j->N<=k/\k<w.heap.size/\(∀o,V.c k o=none)/\V.m k=none)->
  (∀k,cx k->k<w.heap.size/\own k=none/\(∀o,V.c k o=none)/\V.m k=none)->
  (∀t,aI C (gI shs obs) (nv obs ds (ds.drop shs.length)) V hv (shs.getD t .none) (args.getD t undef) (ds.getD t .none))->
  (∀j,cG C (gI shs obs) (nv obs ds (ds.drop shs.length)) V own hv w N j (eZ obs j))->
  Calls C.P f args w λe w'=>∃v V' own' hv' dr os,e=.returned v/\d=.tup (dr::os)/\os.length=obs.length/\V.le V'/\V'.ok w'/\Below 0 w w'/\
   (∀k,k<w.heap.size->own k=none->w'.heap[k]?=w.heap[k]?)/\
   (∀k o x,V'.c k o=some x->(V.c k o=some x\/N<=k)/\¬cx k)/\(∀k x,V'.m k=some x->(V.m k=some x\/N<=k)/\¬cx k)/\(∀k,V'.m k=some cW->N<=k->k<w.heap.size->own k≠none)/\
   (∀k j,own' k=some j->N<=k/\k<w'.heap.size/\(∀o,V'.c k o=none)/\V'.m k=none/\(k<w.heap.size->own k≠none))/\
   (∀(t:Nat) (sh:Sh),shs[t]?=some sh->ox sh=false->aI C (gI shs obs) (nv obs ds os) V' hv' sh (args.getD t undef) (ds.getD t .none))/\
   (∀j,cG C (gI shs obs) (nv obs ds os) V' own' hv' w' N j (eZ obs j))/\Rep C.cap V' res v dr
def aI.ctx {C C':Ctx}(gj:C'.cap=C.cap){S:St}{O:Env}{V:Im}{hv:Nat->Value}{s:Sh}(hp:uR s=true){v:Value}{d:D}(h:aI C S O V hv s v d):aI C' S O V hv s v d:=by
 cases s with
 |dat t=>show Rep C'.cap V t v d;rw[gj];exact h
 |opt gs s=>cases hp
 |eptr j ver a b=>cases hp
 |yv=>cases hp
 |agg l=>cases hp
 |_=>exact h
def cG.ctx {C C':Ctx}(gj:C'.cap=C.cap){S:St}{O:Env}{V:Im}{own:Nat->Option Nat}{hv:Nat->Value}{w:World}{N j:Nat}{ob:Ob}(hp:Ni ob=true\/ob=.dead)(h:cG C S O V own hv w N j ob):cG C' S O V own hv w N j ob:=by
 rcases hp with hp|rfl
 .cases ob with
  |row T e=>obtain⟨cells,xs,h1,h2,h3,h4⟩:=h;exact⟨cells,xs,h1,h2,by rw[gj];exact h3,h4⟩
  |mp kt et=>obtain⟨k,arr,clock,es,h1,h2,h3,h4,h5,h6,h7⟩:=h;exact⟨k,arr,clock,es,h1,h2,h3,h4,h5,h6,by rw[gj];exact h7⟩
  |box ag shs=>
   obtain⟨k,cs,T,ds,h1,h2,h3,h4,h5,h6,h7⟩:=h;exact⟨k,cs,T,ds,h1,h2,h3,h4,h5,h6,λi s hs=>⟨(h7 i s hs).1,(h7 i s hs).2.ctx gj (bR.1 hp s (ko hs))⟩⟩
  |_=>cases hp
 .trivial
def aem {obs:List (Nat×Ob)}(h:(obs.all λx=>Ni x.2)=true)(j:Nat):Ni (eZ obs j)=true\/eZ obs j=.dead:=by
 induction obs with
 |nil=>exact .inr rfl
 |cons x l ih=>
  simp only[rW,au] at h;simp only[eZ];cases hb:Nat.beq x.1 j
  .exact ih h.2
  .exact .inl h.1
def vC.ctx {C C':Ctx}{f:Nat}{shs:List Sh}{obs:List (Nat×Ob)}{res:Ty}{ds:List D}{d:D}(h:vC C f shs obs res ds d)(hP:C'.P=C.P)(gj:C'.cap=C.cap)(sF:C'.glob=C.glob):vC C' f shs obs res ds d:=by
 intro N V own hv w args cx hp av hC bC hN aF cE lP h1 h2;have aY:=hp;simp only[zH,au] at aY;have uy:∀t s,shs[t]?=some s->uR s=true:=λt s hs=>bR.1 aY.1 s (ko hs);have hC':CtxOK C V:=⟨λg x hx=>by have:=hC.glob g x (by rw[sF];exact hx);rwa [gj] at this,λg x hx=>hC.mg g x (by rw[sF];exact hx)⟩
 have:=h N V own hv w args cx hp av hC' bC hN aF cE lP (λt=>by
  cases hs:shs[t]? with
  |none=>rw[aK,hs];trivial
  |some s=>have:=h1 t;rw[aK,hs] at this ⊢;exact this.ctx gj.symm (uy t s hs)) (λj=>(h2 j).ctx gj.symm (aem aY.2 j))
 rw[hP];refine this.mono λe w' hh=>?_;obtain⟨v,V',own',hv',dr,os,g1,g2,g3,g4,g5,g6,g7,g8,g9,g10,g11,g12,g13,g14⟩:=hh;exact⟨v,V',own',hv',dr,os,g1,g2,g3,g4,g5,g6,g7,g8,g9,g10,g11,λt sh hs hd=>(g12 t sh hs hd).ctx gj (uy t sh hs),λj=>(g13 j).ctx gj (aem aY.2 j),by rw[gj];exact g14⟩
def fc.cap {c c':Nat->Option CSig}(hc:c'=c){V:Im}{e:Ty}{cells:List Value}{xs:List D}(h:fc c V e cells xs):fc c' V e cells xs:=hc▸h
def D7.ctx {C C':Ctx}{f:Nat}{T:TypeId}{e:Ty}{ts:List Ty}{ds:List D}{d:D}(h:D7 C f T e ts ds d)(hP:C'.P=C.P)(gj:C'.cap=C.cap)(sF:C'.glob=C.glob):D7 C' f T e ts ds d:=by
 intro N V w v args xs cells ds' h1 h2 h3 h4 h5 h6 h7 h8;rw[hP];refine(h N V w v args xs cells ds' h1 h2 ⟨λg x hx=>by have:=h3.glob g x (by rw[sF];exact hx);rwa [gj] at this,λg x hx=>h3.mg g x (by rw[sF];exact hx)⟩ h4 h5 (h6.cap gj.symm) h7 ⟨h8.1,h8.2.1,λi t hi=>by have:=h8.2.2 i t hi;rwa [gj] at this⟩).mono λx w' hh=>?_;obtain⟨v',kJ,dI,g1,g2,g3,g4,g5,g6,g7⟩:=hh;exact⟨v',kJ,dI,g1,g2,g3,g4,g5,g6.cap gj,g7⟩
def iK (C:Ctx)(f:Nat)(shs:List Sh)(obs:List (Nat×Ob))(res:Ty)(ds:List D)(d:D):Prop:=
 match MJ shs obs with
 |some m=>D7 C f m.1 m.2.1 m.2.2 ds d
 |none=>vC C f shs obs res ds d
def iK.ctx {C C':Ctx}{f:Nat}{shs:List Sh}{obs:List (Nat×Ob)}{res:Ty}{ds:List D}{d:D}(h:iK C f shs obs res ds d)(hP:C'.P=C.P)(gj:C'.cap=C.cap)(sF:C'.glob=C.glob):iK C' f shs obs res ds d:=by
 unfold iK at h ⊢;split at h
 .exact D7.ctx h hP gj sF
 .exact vC.ctx h hP gj sF
def aeQ {shs:List Sh}{obs:List (Nat×Ob)}(h:∀x,x∈obs->x.2≠.tr):MJ shs obs=none:=by
 unfold MJ;split
 .exact absurd rfl (h (1,.tr) (by simp))
 .rfl
def iK.of {C:Ctx}{f:Nat}{shs:List Sh}{obs:List (Nat×Ob)}{res:Ty}{ds:List D}{d:D}(ht:∀x,x∈obs->x.2≠.tr)(h:vC C f shs obs res ds d):iK C f shs obs res ds d:=by
 unfold iK;rw[aeQ ht];exact h
def iK.plain {C:Ctx}{f:Nat}{shs:List Sh}{obs:List (Nat×Ob)}{res:Ty}{ds:List D}{d:D}(hp:zH shs obs=true)(h:iK C f shs obs res ds d):vC C f shs obs res ds d:=by
 unfold iK at h;rw[aeQ λx hx e=>?_] at h
 .exact h
 .simp only[zH,au] at hp;have:=bR.1 hp.2 x hx;rw[e] at this;cases this
def dt (C:Ctx)(Z:aQ):Prop:=∀f ds d,Z f ds=some d->∀s,C.sig f=some s->(pM s.mode=false->gN C f s ds d)/\∀shs obs,s.mode=.ob shs obs->iK C f shs obs s.res ds d
def kF:List Ty->Ty->Option (List Ty)
 |[.fn ys .bool],.tup []=>some ys
 |_,_=>none
def dQ (C:Ctx):Prop:=(∀f cs,C.cap f=some cs->kF cs.args cs.res=none->C.sig f=some ⟨cs.args++cs.caps,cs.res,.dat⟩)/\∀f s,C.sig f=some s->∃fn,C.P.funcs[f]?=some fn/\fn.body.isSome=true/\(fn.name== "runtime.NumGoroutine")=false
def yd (S:St):List AgC->List Nat
 |[]=>[]
 |.obj j ver::l=>bif Nat.beq ver (S.ver j)&&lZ (S.o j) then j::yd S l else yd S l
 |_::l=>yd S l
def cf (S:St)(gs:List (Nat×Bool)):List Operand->List Nat
 |[]=>[]
 |x::xs=>
  match fN S gs x with
  |.obj j ver=>bif Nat.beq ver (S.ver j)&&lZ (S.o j) then j::cf S gs xs else cf S gs xs
  |.agg l=>yd S l++cf S gs xs
  |_=>cf S gs xs
def jZ (gs:List (Nat×Bool))(s:Sh):Sh:=
 match gs with
 |[]=>s
 |_=>.opt gs s
def St.fzs (S:St)(js:List Nat):St:=js.foldl St.fz S
def mR:List RC->List Ty
 |[]=>[]
 |.dat t::l=>t::mR l
 |.row _ e::l=>.slice e.rol::mR l
def E6 (fr:List Nat)(dst:Nat)(s:Sig):Option Sig:=
 match s.mode with
 |.rows l=>bif !(fr.any (Nat.beq (2000000+dst)))&&Ty.beq s.res (.agg (mR l)) then some {s with mode:=.dat} else some s
 |_=>some s
def NR:∀{l:List RC} {i:Nat} {t:Ty},(mR l)[i]?=some t->(l[i]?=some (.dat t))\/∃T e,l[i]?=some (.row T e)/\t=.slice e.rol
 |[],i,t,h=>by simp[mR] at h
 |.dat u::l,0,t,h=>by simp[mR] at h;subst h;exact .inl rfl
 |.row T e::l,0,t,h=>by simp[mR] at h;exact .inr ⟨T,e,rfl,h.symm⟩
 |.dat u::l,i+1,t,h=>by simpa using NR (l:=l) (i:=i) (by simpa [mR] using h)
 |.row T e::l,i+1,t,h=>by simpa using NR (l:=l) (i:=i) (by simpa [mR] using h)
def Vj:∀(l:List RC),(mR l).length=l.length
 |[]=>rfl
 |.dat _::l=>by simp[mR,Vj l]
 |.row ..::l=>by simp[mR,Vj l]
def gN.asDat {C:Ctx}{f:Nat}{s:Sig}{ds:List D}{d:D}{l:List RC}(hm:s.mode=.rows l)(hr:s.res=.agg (mR l))(h:gN C f s ds d):gN C f {s with mode:=.dat} ds d:=by
 intro V w args h1 h2 h3;refine(h V w args h1 h2 h3).mono λe w' hh=>?_;obtain⟨v,V',rfl,hle,av,hb,dw,cY,ew⟩:=hh;simp only[mZ,hm] at ew;obtain⟨vs,ds,ow,rfl,rfl,l1,l2,eI,rf⟩:=ew
 have hex:∀i,∃cs:List Value,∀T e,l[i]?=some (.row T e)->∃xs,ds.getD i .none=.list xs/\w'.ownsRow w.heap.size T e.size (vs.getD i undef) xs.length cs/\fc C.cap V' e cs xs/\∀k,(vs.getD i undef).ownBlock=some k->ow k=some i:=λi=>by
  cases hl:l[i]? with
  |none=>exact⟨[],λ_ _ h=>by cases h⟩
  |some c=>
   cases c with
   |dat t=>exact⟨[],λ_ _ h=>by cases h⟩
   |row T e=>
    obtain⟨cs,xs,g1,g2,g3,g4⟩:=eI i _ hl;exact⟨cs,λT' e' h=>by cases h;exact⟨xs,g1,g2,g3,g4⟩⟩
 let cs:Nat->List Value:=λi=>Classical.choose (hex i)
 have dF:∀i T e,l[i]?=some (.row T e)->∃xs,ds.getD i .none=.list xs/\w'.ownsRow w.heap.size T e.size (vs.getD i undef) xs.length (cs i)/\fc C.cap V' e (cs i) xs/\∀k,(vs.getD i undef).ownBlock=some k->ow k=some i:=λi=>ZX (hex i)
 let rl:Nat->Nat->Bool:=λi k=>decide ((vs.getD i undef).ownBlock=some k)&&(match l[i]? with|some (.row ..)=>true|_=>false)
 let τ:Im:={c:=λk o=>match ow k with|some i=>(bif rl i k then(cs i)[o]? else none)|none=>V'.c k o,m:=λk=>match ow k with|some i=>(bif rl i k then some iV else none)|none=>V'.m k}
 have ky:V'.le τ:=by
  refine⟨λk o x hx=>?_,λk x hx=>?_⟩
  .cases hk:ow k with
   |none=>simp only[τ,hk];exact hx
   |some i=>have:=(rf k i hk).2.2.1 o;rw[this] at hx;cases hx
  .cases hk:ow k with
   |none=>simp only[τ,hk];exact hx
   |some i=>have:=(rf k i hk).2.2.2;rw[this] at hx;cases hx
 have uz:∀i k,rl i k=true->∃T e,l[i]?=some (.row T e)/\(vs.getD i undef).ownBlock=some k:=λi k hk=>by
  simp only[rl,au,decide_eq_true_eq] at hk;obtain⟨bN,dj⟩:=hk;split at dj
  .rename_i T e hl;exact⟨T,e,hl,bN⟩
  .cases dj
 refine⟨_,τ,rfl,hle.trans ky,⟨λk o x hx=>?_,λk x hx=>?_,λk o x hx=>?_⟩,hb,λk o x hx=>?_,λk x hx=>?_,?_⟩
 .simp only[τ] at hx;split at hx
  .rename_i i hi;cases hr:rl i k with
   |false=>rw[hr] at hx;cases hx
   |true=>
    rw[hr,zyy] at hx;obtain⟨T,e,hl,ni⟩:=uz i k hr;obtain⟨xs,g1,g2,g3,g4⟩:=dF i T e hl;have:=g2.cells ni o x hx;rw[tS] at this;simpa using this
  .exact av.c k o x hx
 .simp only[τ] at hx;split at hx
  .rename_i i hi;cases hr:rl i k with
   |false=>rw[hr] at hx;cases hx
   |true=>
    rw[hr,zyy] at hx;cases hx;obtain⟨T,e,hl,ni⟩:=uz i k hr;obtain⟨xs,g1,g2,g3,g4⟩:=dF i T e hl;obtain⟨QR,T',fz,e'⟩:=ag5 g2 ni;exact .inr (.inr ⟨rfl,QR,T',fz,e'⟩)
  .exact av.m k x hx
 .simp only[τ] at hx;split at hx
  .rename_i i hi;cases hr:rl i k with
   |false=>rw[hr] at hx;cases hx
   |true=>
    obtain⟨T,e,hl,ni⟩:=uz i k hr;obtain⟨xs,g1,g2,g3,g4⟩:=dF i T e hl;exact .inr (ag6 g2 ni o)
  .exact av.f k o x hx
 .simp only[τ] at hx;split at hx
  .rename_i i hi;exact .inr (rf k i hi).1
  .exact dw k o x hx
 .simp only[τ] at hx;split at hx
  .rename_i i hi;exact .inr (rf k i hi).1
  .exact cY k x hx
 .simp only[mZ,hr];have hlen:=Vj l;refine .agg (mR l) vs ds (by omega) (by omega) (λi t hi=>?_) (λi t hi=>?_)
  .rcases NR hi with hl|⟨T,e,hl,rfl⟩
   .exact(eI i _ hl).2.mono ky
   .obtain⟨xs,g1,g2,⟨us,g3,g4⟩,g5⟩:=dF i T e hl;rw[g1];rcases g2.2 with⟨e1,e2⟩|⟨g,cap,cur,e1,e2,e3,e4,e5,e6,e7⟩
    .rw[e1];have:xs=[]:=Pe e2;subst this;exact .nil _
    .rw[e1];have ni:(vs.getD i undef).ownBlock=some g:=by rw[e1];rfl
     refine .slice e.rol g 0 xs.length cap xs us rfl e4 e5 (λi x hx=>((g3 i x hx).mono ky).unf_rol) (λj m u hj hu=>?_) (λ_=>by
      have hR:rl i g=true:=by simp only[rl,ni,hl];simp
      simp only[τ,g5 g ni,hR,zyy])
     rw[Ty.rol_size];have hR:rl i g=true:=by simp only[rl,ni,hl];simp
     simp only[τ,g5 g ni,hR,zyy,iM];exact g4 j m u hj hu
  .rcases NR hi with hl|⟨T,e,hl,rfl⟩
   .exact(eI i _ hl).1
   .rfl
def anz {C:Ctx}{fr:List Nat}{dst f:Nat}{s s':Sig}{ds:List D}{d:D}(hs:E6 fr dst s=some s')(hm:s'.mode=.dat)(h:pM s.mode=false->gN C f s ds d):gN C f s' ds d:=by
 unfold E6 at hs;split at hs
 .rename_i l hl;cases hb:(!(fr.any (Nat.beq (2000000+dst)))&&Ty.beq s.res (.agg (mR l)))<;>simp only[hb,zyy,zyx] at hs
  .cases hs;rw[hl] at hm;cases hm
  .cases hs;simp only[au] at hb;exact gN.asDat hl (Ty.beq_eq _ _ hb.2) (h (by rw[hl];rfl))
 .cases hs;exact h (by rw[hm];rfl)
def qL (C:Ctx)(S:St)(gs:List (Nat×Bool))(dst:Nat)(f:Nat)(args:List Operand):Option (St×Sh×List PI):=
 ((C.sig f).bind (E6 C.fr dst)).bind λs=>
   match s.mode with
   |.dat=>
    (lu C (S.fzs (cf S gs args)) gs args).bind λu=>
      bif Ty.subs u.1 s.args then some (bif s.res.pure then S else S.fzs (cf S gs args),.dat s.res,[.call gs dst f u.2]) else Option.none
   |_=>Option.none
def Fe (C:Ctx)(S:St)(dst:Nat)(f:Nat)(args:List Operand):lD:=
 (C.sig f).bind λs=>
    match s.mode with
    |.row T e=>
     (lu C (S.fzs (cf S [] args)) [] args).bind λu=>
       bif Ty.subs u.1 s.args then some (mkObj (bif e.pure then S else S.fzs (cf S [] args)) dst (.row T e),[.call [] dst f u.2,.setO dst (.r dst),.setR dst (.con .none)]) else Option.none
    |_=>Option.none
def jQ (dst:Nat)(l:List RC)(j:Nat):Option (Nat×TypeId×Ty):=
 bif Nat.beq (j%4096) dst&&Nat.ble 4096 j then(match l[j/4096-1]? with|some (.row T e)=>some (j/4096-1,T,e)|_=>Option.none) else Option.none
def aif {dst i:Nat}{l:List RC}{T:TypeId}{e:Ty}(hd:dst<4096)(h:l[i]?=some (.row T e)):jQ dst l (iu dst i)=some (i,T,e):=by
 unfold jQ iu;have e1:(4096*(i+1)+dst)%4096=dst:=by omega
 have e2:(4096*(i+1)+dst)/4096-1=i:=by omega
 have e3:Nat.ble 4096 (4096*(i+1)+dst)=true:=Nat.ble_eq_true_of_le (by omega);rw[e1,e2,e3,h,iL];rfl
def axX {dst i j:Nat}{l:List RC}{T:TypeId}{e:Ty}(h:jQ dst l j=some (i,T,e)):j=iu dst i/\l[i]?=some (.row T e):=by
 unfold jQ at h;cases hb:(Nat.beq (j%4096) dst&&Nat.ble 4096 j)<;>simp only[hb,zyy,zyx] at h
 .cases h
 simp only[au] at hb;have h1:=aC hb.1;have h2:=kp hb.2;split at h
 .rename_i hl;cases h;exact⟨by unfold iu;omega,hl⟩
 .cases h
def St.newRows (S:St)(dst:Nat)(l:List RC):St:=⟨S.r,λj=>match jQ dst l j with|some x=>.row x.2.1 x.2.2|Option.none=>S.o j,λj=>match jQ dst l j with|some _=>S.ver j+1|Option.none=>S.ver j⟩
def oJ (S:St)(dst:Nat):List RC->Nat->List AgC
 |[],_=>[]
 |.dat t::l,i=>.dat t::oJ S dst l (i+1)
 |.row ..::l,i=>.obj (iu dst i) (S.ver (iu dst i)+1)::oJ S dst l (i+1)
def Dy (dst:Nat):List RC->Nat->List PI
 |[],_=>[]
 |.dat _::l,i=>Dy dst l (i+1)
 |.row ..::l,i=>.setO (iu dst i) (.cell (.r dst) i)::Dy dst l (i+1)
def Ff (C:Ctx)(S:St)(dst:Nat)(f:Nat)(args:List Operand):lD:=
 (C.sig f).bind λs=>
    match s.mode with
    |.rows l=>
     (lu C (S.fzs (cf S [] args)) [] args).bind λu=>
       bif Ty.subs u.1 s.args&&Nat.blt dst 4096 then
         some (((S.fzs (cf S [] args)).newRows dst l).setR dst (.agg (oJ (S.fzs (cf S [] args)) dst l 0)),.call [] dst f u.2::Dy dst l 0) else Option.none
    |_=>Option.none
def aih (S:St)(dst:Nat):∀(l:List RC) (i:Nat),(oJ S dst l i).length=l.length/\∀(n:Nat) (c:AgC),(oJ S dst l i)[n]?=some c->(∃t,l[n]?=some (.dat t)/\c=.dat t)\/∃T e,l[n]?=some (.row T e)/\c=.obj (iu dst (i+n)) (S.ver (iu dst (i+n))+1)
 |[],i=>⟨rfl,λn c h=>by simp[oJ] at h⟩
 |x::l,i=>by
  obtain⟨h1,h2⟩:=aih S dst l (i+1);have e:∀n,i+1+n=i+(n+1):=λn=>by omega
  cases x with
  |dat t=>
   refine⟨by simp[oJ,h1],λn c h=>?_⟩;cases n with
   |zero=>simp[oJ] at h;exact .inl ⟨t,rfl,h.symm⟩
   |succ n=>simp only[oJ,Jd] at h ⊢;have:=h2 n c h;rwa [e] at this
  |row T y=>
   refine⟨by simp[oJ,h1],λn c h=>?_⟩;cases n with
   |zero=>simp[oJ] at h;exact .inr ⟨T,y,rfl,by rw[jA];exact h.symm⟩
   |succ n=>simp only[oJ,Jd] at h ⊢;have:=h2 n c h;rwa [e] at this
def Vi (Z:aQ)(dst:Nat):∀(l:List RC) (i:Nat) (O O':Env),PI.runs Z (Dy dst l i) O=some O'->O'.r=O.r/\(∀j,(∀(n:Nat) (T:TypeId) (e:Ty),l[n]?=some (.row T e)->j≠iu dst (i+n))->O'.o j=O.o j)/\
 ∀(n:Nat) (T:TypeId) (e:Ty),l[n]?=some (.row T e)->O'.o (iu dst (i+n))=(O.r dst).c (i+n)
 |[],i,O,O',h=>by
  simp only[Dy,PI.runs,aX] at h;subst h;exact⟨rfl,λ_ _=>rfl,λn T e h=>by simp at h⟩
 |x::l,i,O,O',h=>by
  have e:∀n,i+1+n=i+(n+1):=λn=>by omega
  cases x with
  |dat t=>
   obtain⟨h1,h2,h3⟩:=Vi Z dst l (i+1) O O' h;refine⟨h1,λj hj=>h2 j λn T y hn=>by rw[e];exact hj (n+1) T y (by simpa using hn),λn T y hn=>?_⟩;cases n with
   |zero=>simp at hn
   |succ n=>have:=h3 n T y (by simpa using hn);rwa [e] at this
  |row T0 y0=>
   simp only[Dy,PI.runs,PI.run,kM] at h;obtain⟨h1,h2,h3⟩:=Vi Z dst l (i+1) _ O' h;refine⟨h1,λj hj=>?_,λn T y hn=>?_⟩
   .rw[h2 j λn T y hn=>by rw[e];exact hj (n+1) T y (by simpa using hn)];exact bF _ _ (by have:=hj 0 T0 y0 rfl;rwa [jA] at this)
   .cases n with
    |zero=>
     rw[jA,h2 _ λn T y hn=>by unfold iu;omega];exact aP _ _ _
    |succ n=>have:=h3 n T y (by simpa using hn);rwa [e] at this
def Fc (C:Ctx)(S:St)(dst:Nat)(f:Nat)(args:List Operand):lD:=
 (C.sig f).bind λs=>
    match s.mode,args with
    |.ob shs obs,x::xs=>
     match MJ shs obs,fN S [] x with
     |some m,.obj j ver=>
      match S.o j with
      |.row T e=>
       bif Nat.beq ver (S.ver j)&&(Nat.beq T m.1&&Ty.beq e m.2.1) then
            (lu C S [] xs).bind λu=>
             bif Ty.subs u.1 m.2.2 then some ((S.newO j (.row T e)).setR dst (.obj j (S.ver j+1)),[.call [] dst f (.o j::u.2),.setO j (.r dst),.setR dst (.con .none)]) else Option.none
       else Option.none
      |_=>Option.none
     |_,_=>Option.none
    |_,_=>Option.none
def ph (C:Ctx)(S:St)(gs:List (Nat×Bool))(dst:Nat)(x:Operand)(args:List Operand):Option (St×Sh×List PI):=
 match use C S gs x with
 |some (.fn aa r,e)=>
  match kF aa r with
  |some _=>Option.none
  |Option.none=>
  (lu C (S.fzs (cf S gs args)) gs args).bind λu=>
    bif Ty.subs u.1 aa then some (bif r.pure then S else S.fzs (cf S gs args),.dat r,[.callc gs dst e u.2]) else Option.none
 |_=>Option.none
def pk:∀(js:List Nat) (S:St),(S.fzs js).ver=S.ver/\(S.fzs js).r=S.r
 |[],S=>⟨rfl,rfl⟩
 |j::js,S=>by
  obtain⟨h1,h2⟩:=pk js (S.fz j);obtain⟨k1,k2⟩:=Lo S j;exact⟨h1.trans k1,h2.trans k2⟩
section
variable {C:Ctx} {S:St} {O:Env} {V:Im} {own:Nat->Option Nat} {hv:Nat->Value} {w0:World} {σ0:Base} {A:Nat->Prop} {a:Act} {w:World} {gs:List (Nat×Bool)} {Z:aQ} {dst:Nat}
def Inv.fzs:∀(js:List Nat) {S:St} {V:Im} {own:Nat->Option Nat},Inv C S O V own hv w0 σ0 A a w->∃V' own',V.le V'/\Inv C (S.fzs js) O V' own' hv w0 σ0 A a w
 |[],S,V,own,h=>⟨V,own,.refl V,h⟩
 |j::js,S,V,own,h=>by
  obtain⟨σ1,dO,hle,h1⟩:=h.fz j;obtain⟨σ2,jP,ky,h2⟩:=Inv.fzs js h1;exact⟨σ2,jP,hle.trans ky,h2⟩
def Inv.world (h:Inv C S O V own hv w0 σ0 A a w){V':Im}{w':World}(hle:V.le V')(av:V'.ok w')(hb:Below w.heap.size w w')(dw:∀k o x,V'.c k o=some x->V.c k o=some x\/w.heap.size<=k)
 (cY:∀k x,V'.m k=some x->V.m k=some x\/w.heap.size<=k):Inv C S O V' own hv w0 σ0 A a w':=by
 have aF:=h.below.size;refine h.step (λ_=>False) rfl hle av (λk o x hx=>(dw k o x hx).imp id (λe=>⟨by omega,.inr e⟩)) (λk x hx=>(cY k x hx).imp id (λe=>⟨by omega,.inr e⟩)) (hb.mono aF) (.refl S hv) (λj _=>⟨rfl,rfl,rfl,λk hk=>⟨hk,hb.block k (h.owns k j hk).2.1⟩⟩) (λ_ hf=>hf.elim) (λk j hk=>?_) (λ_=>id) (λt=>.inl ⟨rfl,rfl,rfl⟩) (λ_ _=>rfl) (λk hk _=>hb.block k hk) (λk i hk=>.inl ⟨i,hk⟩) (λ_ hf=>hf.elim);obtain⟨g1,g2,g3,g4⟩:=h.owns k j hk;refine⟨g1,by have:=hb.size;omega,λo=>?_,?_⟩
 .cases hc:V'.c k o with
  |none=>rfl
  |some x=>rcases dw k o x hc with e|e
           .rw[g3 o] at e;cases e
           .omega
 .cases hc:V'.m k with
  |none=>rfl
  |some x=>rcases cY k x hc with e|e
           .rw[g4] at e;cases e
           .omega
def CtxOK.mono {C:Ctx}{V V':Im}(h:CtxOK C V)(hle:V.le V'):CtxOK C V':=⟨λg x hx=>(h.glob g x hx).mono hle,λg x hx=>hle.m _ _ (h.mg g x hx)⟩
def D0 (h:Inv C S O V own hv w0 σ0 A a w)(hC:CtxOK C σ0)(hg:holds gs O=true){xs:List Operand}{u:List Ty×List PE}{ts:List Ty}(hu:lu C S gs xs=some u)(hs:Ty.subs u.1 ts=true):qo C V ts (xs.map a.eval) (PE.evs O u.2):=by
 obtain⟨l1,l2,aS⟩:=akW h hC hg _ _ hu;have hl:=Ty.subs_len _ _ hs;refine⟨by rw[fw];omega,by rw[PE.evs_eq,fw];omega,λi t hi=>?_⟩;obtain⟨s,fG,df⟩:=Ty.subs_get _ _ hs i t hi;exact(aS i s fG).sub df
def IJ {o:Oper}{f:Nat}{args:Array Operand}{ts:Array TypeId}(bh:dQ C){s:Sig}(hs:C.sig f=some s)(ho:o.op=.call {callee:=.value (.func f),args:=args,argTypes:=ts}):
 (execOp a.eval o).run C.P w=.ok (.enter f (args.map a.eval)) w:=by
 obtain⟨fn,h1,h2,h3⟩:=bh.2 f s hs;obtain⟨bd,gi⟩:=aaj.1 h2;have h4:¬fn.name= "runtime.NumGoroutine" :=by simpa using h3
 simp[execOp,ho,resolve,Act.eval,Deferred.ofValue,invoke,callFunc,h1,gi,h4]
def aiW {o:Oper}{x:Operand}{f:Nat}{vs:List Value}{args:Array Operand}{ts:Array TypeId}(bh:dQ C){s:Sig}(hs:C.sig f=some s)(hx:a.eval x=.func (.func f) #[] vs.toArray)(ho:o.op=.call {callee:=.value x,args:=args,argTypes:=ts}):
 (execOp a.eval o).run C.P w=.ok (.enter f (args.map a.eval++vs.toArray)) w:=by
 obtain⟨fn,h1,h2,h3⟩:=bh.2 f s hs;obtain⟨bd,gi⟩:=aaj.1 h2;have h4:¬fn.name= "runtime.NumGoroutine" :=by simpa using h3
 simp[execOp,ho,resolve,hx,Deferred.ofValue,invoke,callFunc,h1,gi,h4]
def aaQ (h:Inv C S O V own hv w0 σ0 A a w)(hC:CtxOK C σ0)(ht:¬A dst)(ak:dst<a.tmps.size)(eG:∀g,g∈gs->A g.1)(hg:holds gs O=true){f:Nat}{s:Sig}{js:List Nat}{vals:List Value}{ds:List D}{d:D}(lU:s.mode=.dat)(hfn:gN C f s ds d)
 (ei:∀σ1 dO,V.le σ1->Inv C (S.fzs js) O σ1 dO hv w0 σ0 A a w->qo C σ1 s.args vals ds) {K:Act->World->Prop} {Q:Exit->Act->World->Prop}
 (hK:∀a' w',Good C w0 σ0 ((bif s.res.pure then S else S.fzs js).setR dst (jZ gs (.dat s.res))) (O.setR dst d) (λu=>A u\/u=dst) a' w'->a'.tmps.size=a.tmps.size->K a' w'):
 Calls C.P f vals.toArray w (λe lx=>match e with|.returned v=>K (a.put (some dst) v) lx|.panicked chain=>Q (.panic chain) a lx|.outgrown=>LetsOut Q):=by
 obtain⟨σ1,dO,my,h1⟩:=Inv.fzs js h;have qX:=hfn σ1 w vals.toArray h1.ok (hC.mono h1.le) (by simpa using ei σ1 dO my h1);refine qX.mono λe w' hh=>?_;obtain⟨v,V',rfl,hle,av,hb,dw,cY,ew⟩:=hh;simp only[mZ,lU] at ew;refine hK _ _ ?_ (size_put _ _ _);have hh:holds gs (O.setR dst d)=true:=by rw[Gg (t:=dst) (d:=d) λg hm e=>ht (by rw[<-e];exact eG g hm)];exact hg
 have put:∀{S2:St} {σ2:Im} {jP:Nat->Option Nat},Inv C S2 O σ2 jP hv w0 σ0 A a w'->Rep C.cap σ2 s.res v d->Good C w0 σ0 (S2.setR dst (jZ gs (.dat s.res))) (O.setR dst d) (λu=>A u\/u=dst) (a.put (some dst) v) w':=by
  intro S2 σ2 jP h2 hr;cases gs with
  |nil=>exact⟨_,_,_,h2.setReg ht (s:=.dat s.res) hr ak (λ_ _ e=>by cases e)⟩
  |cons g cd=>
   refine⟨_,_,_,h2.setReg ht (s:=.opt (g::cd) (.dat s.res)) ⟨λ_=>hr,λe=>absurd (hh.symm.trans e) (by decide)⟩ ak (λgs s e=>?_)⟩;cases e;exact⟨eG,λ_ _ e=>by cases e⟩
 cases hp:s.res.pure with
 |true=>
  simp only[zyy];exact put (h.world (.refl V) (h.ok.below hb) hb (λ_ _ _ hx=>.inl hx) (λ_ _ hx=>.inl hx)) (ew.pure hp)
 |false=>
  simp only[zyx];exact put (h1.world hle av hb dw cY) ew
def EE {o:Oper}{f:Nat}{args:Array Value}{K:Act->World->Prop}{Q:Exit->Act->World->Prop}(hd:o.dst=some dst)(hx:(execOp a.eval o).run C.P w=.ok (.enter f args) w)
 (h:Calls C.P f args w (λe lx=>match e with|.returned v=>K (a.put (some dst) v) lx|.panicked chain=>Q (.panic chain) a lx|.outgrown=>LetsOut Q)):o.wp C.P a w K Q:=by
 simp only[Oper.wp,hx,Oper.upon,hd];refine h.mono λe lx hh=>?_;cases e<;>exact hh
def aoa (h:Inv C S O V own hv w0 σ0 A a w)(hC:CtxOK C σ0)(bh:dQ C)(hΦ:dt C Z)(ht:¬A dst)(ak:dst<a.tmps.size)(eG:∀g,g∈gs->A g.1)(hg:holds gs O=true){f:Nat}{args:Array Operand}{ts:Array TypeId}{r:St×Sh×List PI}
 (hr:qL C S gs dst f args.toList=some r) {o:Oper} (hd:o.dst=some dst) (ho:o.op=.call {callee:=.value (.func f),args:=args,argTypes:=ts}):ct C w0 σ0 Z S O A a w o (r.1.setR dst (jZ gs r.2.1),r.2.2):=by
 simp only[qL,ay] at hr;obtain⟨s,⟨s0,hs,ri⟩,hr⟩:=hr;split at hr
 case h_2=>cases hr
 rename_i lU;simp only[ay] at hr;obtain⟨u,hu,hr⟩:=hr;cases cn:Ty.subs u.1 s.args<;>simp only[cn,zyy,zyx] at hr
 .cases hr
 cases hr;intro O' ar K Q hK;simp only[PI.runs,PI.run,hg,zyy,ay,aD] at ar;obtain⟨ρ1,⟨d,bA,rfl⟩,ar⟩:=ar;cases ar;have hfn:=anz ri lU (hΦ f _ d bA s0 hs).1;refine EE hd (IJ bh hs ho) ?_;have kB:args.map a.eval=(args.toList.map a.eval).toArray:=by apply tJ;rw[xT]
 rw[kB];have iP:(λu=>A u\/o.dst=some u)=(λu=>A u\/u=dst):=by funext u;rw[hd];simp[eq_comm]
 rw[iP] at hK;exact aaQ h hC ht ak eG hg (js:=cf S gs args.toList) lU hfn (λσ1 dO _ h1=>D0 h1 hC hg hu cn) hK
def an1 (h:Inv C S O V own hv w0 σ0 A a w)(hC:CtxOK C σ0)(bh:dQ C)(hΦ:dt C Z)(ht:¬A dst)(ak:dst<a.tmps.size)(eG:∀g,g∈gs->A g.1)(hg:holds gs O=true){x:Operand}{args:Array Operand}{ts:Array TypeId}{r:St×Sh×List PI}
 (hr:ph C S gs dst x args.toList=some r) {o:Oper} (hd:o.dst=some dst) (ho:o.op=.call {callee:=.value x,args:=args,argTypes:=ts}):ct C w0 σ0 Z S O A a w o (r.1.setR dst (jZ gs r.2.1),r.2.2):=by
 unfold ph at hr;split at hr
 case h_2=>cases hr
 rename_i aa r0 e SO;split at hr
 case h_1=>cases hr
 rename_i RV;simp only[ay] at hr;obtain⟨u,hu,hr⟩:=hr;cases cn:Ty.subs u.1 aa<;>simp only[cn,zyy,zyx] at hr
 .cases hr
 cases hr;have hx:=cK h hC hg SO;intro O' ar K Q hK;simp only[PI.runs,PI.run,hg,zyy,ay] at ar;obtain⟨ρ1,pH,ar⟩:=ar;cases ar;split at pH
 case h_2=>cases pH
 rename_i f caps bT;simp only[aD] at pH;obtain⟨d,bA,rfl⟩:=pH;rw[bT] at hx;generalize gB:a.eval x=xv at hx;generalize bt:Ty.fn aa r0=ty at hx;cases hx with
 |fn f cs vs ds hc h1 h2 aS=>
  cases bt;have hs:=bh.1 f cs hc RV;have hfn:=(hΦ f _ d bA _ hs).1 rfl;refine EE hd (aiW bh hs gB ho) ?_;have kB:args.map a.eval++vs.toArray=(args.toList.map a.eval++vs).toArray:=by apply tJ;simp
  rw[kB];have iP:(λu=>A u\/o.dst=some u)=(λu=>A u\/u=dst):=by funext u;rw[hd];simp[eq_comm]
  rw[iP] at hK;refine aaQ h hC ht ak eG hg (js:=cf S gs args.toList) (s:=⟨cs.args++cs.caps,cs.res,.dat⟩) rfl hfn (λσ1 dO my i1=>?_) hK;obtain⟨g1,g2,g3⟩:=D0 i1 hC hg hu cn;refine⟨by simp only[mh,g1,h1],by simp only[mh,g2,h2],λi t hi=>?_⟩;rw[mX] at hi;split at hi
  .rename_i ak;have:=g3 i t hi;rw[aK,aK,kL (by omega),kL (by omega)];simpa [aK] using this
  .rename_i eQ;have:=(aS _ t hi).mono my;rw[aK,aK,mf (by omega),mf (by omega),g1,g2];simpa [aK] using this
def an5 (h:Inv C S O V own hv w0 σ0 A a w)(hC:CtxOK C σ0)(bh:dQ C)(hΦ:dt C Z)(ht:¬A dst)(ak:dst<a.tmps.size){f:Nat}{args:Array Operand}{ts:Array TypeId}{r:St×List PI}
 (hr:Fe C S dst f args.toList=some r) {o:Oper} (hd:o.dst=some dst) (ho:o.op=.call {callee:=.value (.func f),args:=args,argTypes:=ts}):ct C w0 σ0 Z S O A a w o r:=by
 simp only[Fe,ay] at hr;obtain⟨s,hs,hr⟩:=hr;split at hr
 case h_2=>cases hr
 rename_i T e lU;simp only[ay] at hr;obtain⟨u,hu,hr⟩:=hr;cases cn:Ty.subs u.1 s.args<;>simp only[cn,zyy,zyx] at hr
 .cases hr
 cases hr;intro O' ar K Q hK;have uu:holds ([]:List (Nat×Bool)) O=true:=rfl;simp only[PI.runs,PI.run,uu,zyy,ay,aD] at ar;obtain⟨ρ1,⟨d,bA,rfl⟩,ρ2,g2,ρ3,g3,g4⟩:=ar;cases g2;cases g3;cases g4;have hfn:=(hΦ f _ d bA s hs).1 (by rw[lU];rfl);obtain⟨σ1,dO,my,h1⟩:=Inv.fzs (cf S [] args.toList) h;have kB:args.map a.eval=(args.toList.map a.eval).toArray:=by apply tJ;rw[xT]
 refine EE hd (IJ bh hs ho) ?_;rw[kB];have qX:=hfn σ1 w (args.toList.map a.eval).toArray h1.ok (hC.mono h1.le) (by simpa using D0 h1 hC rfl hu cn);refine qX.mono λe' w' hh=>?_;obtain⟨v,V',rfl,hle,av,hb,dw,cY,ew⟩:=hh;simp only[mZ,lU] at ew;obtain⟨cells,xs,rfl,cE,j1,nY⟩:=ew;refine hK _ _ ?_ (size_put _ _ _);have iP:(λu=>A u\/o.dst=some u)=(λu=>A u\/u=dst):=by funext u;rw[hd];simp[eq_comm]
 rw[iP];have main:∀{S2:St} {σ1 σ2:Im} {jP:Nat->Option Nat},Inv C S2 O σ1 jP hv w0 σ0 A a w->σ1.le σ2->σ2.ok w'->(∀k o x,σ2.c k o=some x->σ1.c k o=some x\/w.heap.size<=k)->(∀k x,σ2.m k=some x->σ1.m k=some x\/w.heap.size<=k)->fc C.cap σ2 e cells xs->(∀k,v.ownBlock=some k->(∀o,σ2.c k o=none)/\σ2.m k=none)->
  Good C w0 σ0 (mkObj S2 dst (.row T e)) ((O.setO dst (.list xs)).setR dst .none) (λu=>A u\/u=dst) (a.put (some dst) v) w':=by
  intro S2 σ1 σ2 jP h2 ky Sl asb asd arl ars;have aF:=h1.below.size
  have mB:=h2.newOσ dst (.row T e) (.list xs) v (λk=>decide (v.ownBlock=some k)) ky Sl asb asd hb (λk hk=>cE.lt k (by simpa using hk)) (λk hk=>ars k (by simpa using hk)) ⟨cells,xs,by simp[Env.setO,aP],by
        rw[aP];refine⟨cE.1,?_⟩;rcases cE.2 with e1|⟨g,cap,cur,e1,e2,e3⟩
        .exact .inl e1
        .exact .inr ⟨g,cap,cur,e1,by omega,e3⟩,arl,λk hk=>by rw[aP] at hk;simp[gp,hk]⟩
  have adl:=mB.setObj ht (j:=dst) (v:=v) (aP _ _ _) ak;have e:(S2.newO dst (.row T e)).ver dst=S2.ver dst+1:=aP _ _ _;rw[e] at adl;exact⟨_,_,_,adl⟩
 have eρ:((O.setR dst (.list xs)).setO dst ((PE.r dst).ev (O.setR dst (.list xs)))).setR dst ((PE.con D.none).ev ((O.setR dst (.list xs)).setO dst ((PE.r dst).ev (O.setR dst (.list xs)))))=(O.setO dst (.list xs)).setR dst .none:=by
  have:∀d1 d2:D,cr (cr O.r dst d1) dst d2=cr O.r dst d2:=by
   intro d1 d2;funext i;simp only[fY];split<;>rfl
  simp[Env.setR,Env.setO,PE.ev,aP,this]
 show Good C w0 σ0 _ _ _ _ _;rw[eρ];cases hp:e.pure with
 |true=>
  simp only[zyy];refine main h (.refl V) (h.ok.below hb) (λ_ _ _ hx=>.inl hx) (λ_ _ hx=>.inl hx) ?_ (λk hk=>?_)
  .obtain⟨vs,k1,k2⟩:=j1;exact⟨vs,λi x hx=>(k1 i x hx).pure hp,k2⟩
  .obtain⟨f1,f2⟩:=nY k hk;refine⟨λo=>?_,?_⟩
   .cases hc:V.c k o with
    |none=>rfl
    |some x=>have:=hle.c _ _ _ (my.c _ _ _ hc);rw[f1 o] at this;cases this
   .cases hc:V.m k with
    |none=>rfl
    |some x=>have:=hle.m _ _ (my.m _ _ hc);rw[f2] at this;cases this
 |false=>
  simp only[zyx];exact main h1 hle av dw cY j1 nY
def an7 (h:Inv C S O V own hv w0 σ0 A a w)(hC:CtxOK C σ0)(bh:dQ C)(hΦ:dt C Z)(ht:¬A dst)(ak:dst<a.tmps.size){f:Nat}{args:Array Operand}{ts:Array TypeId}{r:St×List PI}
 (hr:Ff C S dst f args.toList=some r) {o:Oper} (hd:o.dst=some dst) (ho:o.op=.call {callee:=.value (.func f),args:=args,argTypes:=ts}):ct C w0 σ0 Z S O A a w o r:=by
 simp only[Ff,ay] at hr;obtain⟨s,hs,hr⟩:=hr;split at hr
 case h_2=>cases hr
 rename_i l lU;simp only[ay] at hr;obtain⟨u,hu,hr⟩:=hr;cases cn:(Ty.subs u.1 s.args&&Nat.blt dst 4096)<;>simp only[cn,zyy,zyx] at hr
 .cases hr
 cases hr;simp only[au,jB] at cn;obtain⟨cn,sE⟩:=cn;intro O' ar K Q hK;have uu:holds ([]:List (Nat×Bool)) O=true:=rfl;simp only[PI.runs,PI.run,uu,zyy,ay,aD] at ar;obtain⟨ρ1,⟨d,bA,rfl⟩,ar⟩:=ar;have hfn:=(hΦ f _ d bA s hs).1 (by rw[lU];rfl);obtain⟨σ1,dO,my,h1⟩:=Inv.fzs (cf S [] args.toList) h;generalize S.fzs (cf S [] args.toList)=S1 at hu h1 hK ⊢;have kB:args.map a.eval=(args.toList.map a.eval).toArray:=by apply tJ;rw[xT]
 refine EE hd (IJ bh hs ho) ?_;rw[kB];have qX:=hfn σ1 w (args.toList.map a.eval).toArray h1.ok (hC.mono h1.le) (by simpa using D0 h1 hC rfl hu cn);refine qX.mono λe' w' hh=>?_;obtain⟨v,V',rfl,hle,av,hb,dw,cY,ew⟩:=hh;simp only[mZ,lU] at ew;obtain⟨vs,ds,ow,rfl,rfl,l1,l2,eI,rf⟩:=ew;refine hK _ _ ?_ (size_put _ _ _);have iP:(λu=>A u\/o.dst=some u)=(λu=>A u\/u=dst):=by funext u;rw[hd];simp[eq_comm]
 rw[iP];obtain⟨r1,r2,r3⟩:=Vi Z dst l 0 _ O' ar;simp only[iM] at r2 r3;have aiA:(O.setR dst (.agg ds)).r dst=.agg ds:=aP _ _ _;rw[aiA] at r3;have aF:=h1.below.size
 let W:Nat->Prop:=λj=>∃x,jQ dst l j=some x
 let own':Nat->Option Nat:=λk=>match ow k with
  |some i=>some (iu dst i)
  |none=>match dO k with
   |some j=>match jQ dst l j with|some _=>none|none=>some j
   |none=>none
 let hv':Nat->Value:=λj=>match jQ dst l j with|some x=>vs.getD x.1 undef|none=>hv j
 have Sb:∀j,¬W j->jQ dst l j=none:=λj hj=>by
  cases e:jQ dst l j with
  |none=>rfl
  |some x=>exact absurd ⟨x,e⟩ hj
 have gF:∀j,¬W j->O'.o j=O.o j:=λj hj=>r2 j λn T e hn e1=>hj ⟨(n,T,e),by rw[e1];exact aif sE hn⟩
 have yV:∀k j,dO k=some j->ow k=none:=λk j hk=>by
  cases e:ow k with
  |none=>rfl
  |some i=>have:=rf k i e;have:=h1.owns k j hk;omega
 have sD:Compat S1 hv ((S1.newRows dst l).setR dst (.agg (oJ S1 dst l 0))) hv':=⟨λj=>by
  show S1.ver j<=(match jQ dst l j with|some _=>S1.ver j+1|none=>S1.ver j);split
  .exact Nat.le_succ _
  .exact bj _,λj e=>by
  have e:(match jQ dst l j with|some _=>S1.ver j+1|none=>S1.ver j)=S1.ver j:=e;show(match jQ dst l j with|some x=>vs.getD x.1 undef|none=>hv j)=hv j;cases hj:jQ dst l j with
  |none=>rfl
  |some x=>rw[hj] at e;simp only at e;omega⟩
 refine⟨V',own',hv',?_⟩
 refine h1.step (w':=w') W rfl hle av (λk o x hx=>(dw k o x hx).imp id λe=>⟨by omega,.inr e⟩) (λk x hx=>(cY k x hx).imp id λe=>⟨by omega,.inr e⟩) (hb.mono aF) sD
  (λj hj=>⟨?_,gF j hj,?_,λk hk=>⟨?_,hb.block k (h1.owns k j hk).2.1⟩⟩) (λj hj=>?_) (λk i hk=>?_) (λ_=>.inl) (λt=>?_) (λt hA=>?_) (λk hk _=>hb.block k hk) (λk i hk=>?_) (λj hj=>?_)
 .show(match jQ dst l j with|some x=>Ob.row x.2.1 x.2.2|none=>S1.o j)=S1.o j;rw[Sb j hj]
 .show(match jQ dst l j with|some x=>vs.getD x.1 undef|none=>hv j)=hv j;rw[Sb j hj]
 .show own' k=some j;simp only[own',yV k j hk,hk,Sb j hj]
 .obtain⟨⟨i,T,e⟩,hx⟩:=hj;obtain⟨rfl,hi⟩:=axX hx;show cG C _ O' V' own' hv' w' w0.heap.size (iu dst i) (match jQ dst l (iu dst i) with|some x=>Ob.row x.2.1 x.2.2|none=>S1.o (iu dst i));rw[hx];obtain⟨cells,xs,g1,g2,g3,g4⟩:=eI i _ hi;have e2:hv' (iu dst i)=vs.getD i undef:=by simp only[hv',hx]
  refine⟨cells,xs,?_,?_,g3,λk hk=>?_⟩
  .rw[r3 i T e hi];simpa [D.c,D.cells] using g1
  .rw[e2];refine⟨g2.1,?_⟩;rcases g2.2 with e1|⟨g,cap,cur,e1,e3,e4⟩
   .exact .inl e1
   .exact .inr ⟨g,cap,cur,e1,by omega,e4⟩
  .rw[e2] at hk;simp only[own',g4 k hk]
 .simp only[own'] at hk;split at hk
  .rename_i i' dG;have:=rf k i' dG;exact⟨by omega,this.2.1,this.2.2.1,this.2.2.2⟩
  .split at hk
   .rename_i j hj;obtain⟨g1,g2,g3,g4⟩:=h1.owns k j hj;refine⟨g1,by have:=hb.size;omega,λo=>?_,?_⟩
    .cases hc:V'.c k o with
     |none=>rfl
     |some x=>rcases dw k o x hc with e|e
              .rw[g3 o] at e;cases e
              .omega
    .cases hc:V'.m k with
     |none=>rfl
     |some x=>rcases cY k x hc with e|e
              .rw[g4] at e;cases e
              .omega
   .cases hk
 .by_cases hu:t=dst
  .subst hu;refine .inr ⟨?_,λgs s e=>?_⟩
   .rw[Au];have e3:O'.r t=.agg ds:=by rw[r1];exact aiA
    simp only[St.setR,aP,ak,and_self,if_true,e3];obtain⟨q1,q2⟩:=aih S1 t l 0;refine⟨vs,ds,rfl,rfl,by omega,by omega,λi c hc=>?_⟩;rcases q2 i c hc with⟨ty,hl,rfl⟩|⟨T,e,hl,rfl⟩
    .exact eI i _ hl
    .rw[iM];have hx:=aif sE hl;refine⟨?_,λ_=>?_⟩
     .show S1.ver (iu t i)+1<=(match jQ t l (iu t i) with|some _=>S1.ver (iu t i)+1|none=>S1.ver (iu t i));rw[hx];exact bj _
     .simp only[hv',hx]
   .simp only[St.setR,aP] at e;cases e
  .refine .inl ⟨bF _ _ hu,?_,?_⟩
   .rw[Au];simp[hu]
   .rw[r1];exact bF _ _ hu
 .rw[r1];exact bF _ _ (λe=>ht (e▸hA))
 .simp only[own'] at hk;split at hk
  .rename_i i' dG;exact .inr (rf k i' dG).1
  .split at hk
   .rename_i j hj;exact .inl ⟨j,hj⟩
   .cases hk
 .obtain⟨x,hx⟩:=hj;show(match jQ dst l j with|some x=>Ob.row x.2.1 x.2.2|none=>S1.o j)≠.tr;rw[hx];intro e;cases e
def an3 (h:Inv C S O V own hv w0 σ0 A a w)(hC:CtxOK C σ0)(bh:dQ C)(hΦ:dt C Z)(ht:¬A dst)(ak:dst<a.tmps.size){f:Nat}{args:Array Operand}{ts:Array TypeId}{r:St×List PI}
 (hr:Fc C S dst f args.toList=some r) {o:Oper} (hd:o.dst=some dst) (ho:o.op=.call {callee:=.value (.func f),args:=args,argTypes:=ts}):ct C w0 σ0 Z S O A a w o r:=by
 simp only[Fc,ay] at hr;obtain⟨s,hs,hr⟩:=hr;split at hr
 case h_2=>cases hr
 rename_i shs obs x xs lU ei;split at hr
 case h_2=>cases hr
 rename_i m j ver mz gG;split at hr
 case h_2=>cases hr
 rename_i T e eo;cases hb:(Nat.beq ver (S.ver j)&&(Nat.beq T m.1&&Ty.beq e m.2.1))<;>simp only[hb,zyy,zyx] at hr
 .cases hr
 simp only[au] at hb;have dY:=aC hb.1;have hT:=aC hb.2.1;have he:=Ty.beq_eq _ _ hb.2.2;simp only[ay] at hr;obtain⟨u,hu,hr⟩:=hr;cases cn:Ty.subs u.1 m.2.2<;>simp only[cn,zyy,zyx] at hr
 .cases hr
 cases hr;intro O' ar K Q hK;have uu:holds ([]:List (Nat×Bool)) O=true:=rfl;simp only[PI.runs,PI.run,uu,zyy,ay,aD] at ar;obtain⟨ρ1,⟨d,bA,rfl⟩,ρ2,g2,ρ3,g3,g4⟩:=ar;cases g2;cases g3;cases g4;have hfn:=(hΦ f _ d bA s hs).2 shs obs lU;unfold iK at hfn;rw[mz] at hfn;simp only at hfn;rw[<-hT,<-he] at hfn;have cC:=(tw h (gs:=[]) rfl x).1;rw[gG] at cC;have cC:=cC.2 dY;have bo:=h.objs j;rw[eo] at bo;obtain⟨cells,ys,h1,h2,h3,h4⟩:=bo;have kB:args.map a.eval=(a.eval x::xs.map a.eval).toArray:=by apply tJ;rw[xT,ei];rfl
 refine EE hd (IJ bh hs ho) ?_;rw[kB,cC];have aF:=h.below.size
 have qX:=hfn w0.heap.size V w (hv j) (xs.map a.eval) ys cells (PE.evs O u.2) (by simp[PE.evs,PE.ev,h1]) h.ok (hC.mono h.le) aF h2 h3 (λk hk=>by
  have:=h.owns k j (h4 k hk);exact this.2) (D0 h hC rfl hu cn)
 refine qX.mono λe' w' hh=>?_;obtain⟨v',kJ,dI,rfl,rfl,FO,yV,ass,ark,LK⟩:=hh;refine hK _ _ ?_ (size_put _ _ _);have iP:(λu=>A u\/o.dst=some u)=(λu=>A u\/u=dst):=by funext u;rw[hd];simp[eq_comm]
 rw[iP]
 have SQ:=h.updO j (.row T e) (.list kJ) v' (λk=>decide (v'.ownBlock=some k)) FO (λk hk aB=>yV k hk (λe=>aB (h4 k e))) (λk hk=>by
  have br:v'.ownBlock=some k:=by simpa using hk
  exact⟨(LK k br).1.imp (h4 k) id,(LK k br).2⟩)
  ⟨dI,kJ,by simp[Env.setO,aP],by rw[aP];exact ass,ark,λk hk=>by rw[aP] at hk;simp[gp,hk]⟩
 have h9:=SQ.setObj ht (j:=j) (v:=v') (aP _ _ _) ak;have e1:(S.newO j (.row T e)).ver j=S.ver j+1:=aP _ _ _;rw[e1] at h9;have eρ:((O.setR dst (.list kJ)).setO j ((PE.r dst).ev (O.setR dst (.list kJ)))).setR dst ((PE.con D.none).ev ((O.setR dst (.list kJ)).setO j ((PE.r dst).ev (O.setR dst (.list kJ)))))=(O.setO j (.list kJ)).setR dst .none:=by
  have:∀d1 d2:D,cr (cr O.r dst d1) dst d2=cr O.r dst d2:=by
   intro d1 d2;funext i;simp only[fY];split<;>rfl
  simp[Env.setR,Env.setO,PE.ev,aP,this]
 show Good C w0 σ0 _ _ _ _ _;rw[eρ];exact⟨_,_,_,h9⟩
end
def jv:Nat:=1000000013
abbrev oQ:=Sh×Option (Ty×PE)
def Jm (C:Ctx)(S:St)(x:Operand):oQ:=(fN S [] x,use C S [] x)
def aaS (c:Nat×Nat):oQ:=(.ptr c.1 c.2 0,none)
def da:List Nat->List Nat->Nat->Option Nat
 |i::is,j::js,k=>bif Nat.beq i k then some j else da is js k
 |_,_,_=>none
def awV:Sh->Sh->List (Nat×Nat)
 |.obj i _,.obj j _=>[(i,j)]
 |.ptr i _ _,.ptr j _ _=>[(i,j)]
 |.fclo _ a,.fclo _ b=>(a.zip b).map λx=>(x.1.1,x.2.1)
 |_,_=>[]
def Uv:List Sh->List Sh->List (Nat×Nat)
 |a::aa,b::bs=>awV a b++Uv aa bs
 |_,_=>[]
def awU:Ob->Ob->List (Nat×Nat)
 |.box _ a,.box _ b=>Uv a b
 |_,_=>[]
def aen:List (Nat×Nat)->Nat->Nat
 |[],_=>jv
 |x::l,i=>bif Nat.beq x.1 i then x.2 else aen l i
def avK (S:St)(obs:List (Nat×Ob))(p:List (Nat×Nat)):List (Nat×Nat):=p++p.flatMap λx=>awU (eZ obs x.1) (S.o x.2)
def abC (S:St)(shs:List Sh)(obs:List (Nat×Ob))(acts:List oQ):List Nat:=obs.map λo=>aen (avK S obs (Uv shs (acts.map (·.1)))) o.1
section
variable (ver:Nat->Nat) (is js:List Nat)
def IF:List (Nat×Nat)->Option (List (Nat×Nat))
 |[]=>some []
 |x::l=>bif Nat.beq x.2 0 then(da is js x.1).bind λj=>(IF l).map λr=>(j,ver j)::r else none
def lj:Sh->Option Sh
 |.dat t=>some (.dat t)
 |.none=>some .none
 |.obj i v=>bif Nat.beq v 0 then(da is js i).map λj=>.obj j (ver j) else none
 |.ptr i v off=>bif Nat.beq v 0 then(da is js i).map λj=>.ptr j (ver j) off else none
 |.fclo f caps=>(IF ver is js caps).map (.fclo f)
 |_=>none
def IG:List Sh->Option (List Sh)
 |[]=>some []
 |s::l=>(lj ver is js s).bind λa=>(IG l).map (a::·)
def rO:Ob->Option Ob
 |.row T e=>some (.row T e)
 |.mp a b=>some (.mp a b)
 |.box ag shs=>(IG ver is js shs).map (.box ag)
 |_=>none
end
def Fv (c:Sh):Sh->Bool
 |.none=>true
 |.dat b=>match c with|.dat a=>Ty.sub a b|_=>false
 |x=>Sh.beq c x
def B3:List Sh->List Sh->Bool
 |[],[]=>true
 |a::aa,b::bs=>Fv a b&&B3 aa bs
 |_,_=>false
def B2:Ob->Ob->Bool
 |.box x a,.box y b=>(x==y)&&B3 a b
 |.row T a,.row U b=>Nat.beq T U&&Ty.beq a b
 |.mp a b,.mp c d=>Ty.beq a c&&Ty.beq b d
 |_,_=>false
def sA (S:St)(is js:List Nat):List (Nat×Ob)->List Nat->Bool
 |[],[]=>true
 |o::obs,j::jl=>(match rO S.ver is js o.2 with|some x=>B2 (S.o j) x|none=>false)&&sA S is js obs jl
 |_,_=>false
def Fu (S:St)(is js:List Nat)(a:oQ)(s:Sh):Option PE:=
 match s with
 |.dat t=>(match a.2 with|some x=>bif Ty.sub x.1 t then some x.2 else none|none=>none)
 |.none=>some (.con .none)
 |s=>(match lj S.ver is js s with|some x=>bif Sh.beq a.1 x then some (.con .none) else none|none=>none)
def vZ (S:St)(is js:List Nat):List oQ->List Sh->Option (List PE)
 |[],[]=>some []
 |a::aa,s::ss=>(Fu S is js a s).bind λe=>(vZ S is js aa ss).map (e::·)
 |_,_=>none
def qJ:List Sh->List Nat
 |[]=>[]
 |.obj i _::l=>i::qJ l
 |.ptr i _ _::l=>i::qJ l
 |.fclo _ c::l=>c.map (·.1)++qJ l
 |_::l=>qJ l
def aG (l:List Nat)(x:Nat):Bool:=l.any (Nat.beq x)
def xQ (ver:Nat->Nat)(shs:List Sh)(is js:List Nat):Nat->Nat:=λj=>match da js is j with|some i=>bif aG (qJ shs) i then ver j else ver j+1|none=>ver j
def St.handed (S:St)(shs:List Sh)(obs:List (Nat×Ob))(is js:List Nat):St:=
 ⟨S.r,λj=>match da js is j with|some i=>(match rO (xQ S.ver shs is js) is js (eZ obs i) with|some o=>o|none=>.dead)|none=>S.o j,xQ S.ver shs is js⟩
def B5 (S:St):List Operand->List Sh->List Nat
 |x::xs,s::ss=>(bif ox s then cf S [] [x] else[])++B5 S xs ss
 |_,_=>[]
def IN:List Nat->Nat->List PI
 |[],_=>[]
 |j::js,k=>.setO j (.tget (.o jv) k)::IN js (k+1)
def QW (S:St)(res:Ty)(f:Nat)(shs:List Sh)(obs:List (Nat×Ob))(acts:List oQ)(is js:List Nat):Option (St×Ty×List PI):=
 (vZ S is js acts shs).bind λes=>
    bif zH shs obs&&(ix is&&ix js&&sA S is js obs js&&pK (S.o jv)&& !aG js jv) then some (S.handed shs obs is js,res,.mcall jv f (es++js.map .o)::IN js 1) else none
def QX (C:Ctx)(S:St)(res:Ty)(f:Nat)(shs:List Sh)(obs:List (Nat×Ob))(acts:List oQ):Option (St×Ty×List PI):=
 QW S res f shs obs acts (obs.map (·.1)) (abC S shs obs acts)
def sq (C:Ctx)(S:St)(f:Nat)(args:List Operand)(caps:List (Nat×Nat)):Option (St×Ty×List PI):=
 (C.sig f).bind λs=>
    match s.mode with
    |.ob shs obs=>QX C (S.fzs (B5 S args shs)) s.res f shs obs (args.map (Jm C (S.fzs (B5 S args shs)))++caps.map aaS)
    |_=>none
def adO {l:List Nat}{x:Nat}:aG l x=true↔x∈l:=by
 unfold aG;rw[xY];exact⟨λ⟨y,hy,h⟩=>by rw[aC h];exact hy,λh=>⟨x,h,iL x⟩⟩
def aei:∀{is js:List Nat} {i j:Nat},da is js i=some j->∃k:Nat,is[k]?=some i/\js[k]?=some j
 |[],_,i,j,h=>by cases h
 |_::_,[],i,j,h=>by cases h
 |x::is,y::js,i,j,h=>by
  simp only[da] at h;cases hb:Nat.beq x i<;>simp only[hb,zyy,zyx] at h
  .obtain⟨k,h1,h2⟩:=aei h;exact⟨k+1,h1,h2⟩
  .cases h;exact⟨0,by rw[aC hb];rfl,rfl⟩
def MA:∀{is js:List Nat} {i j k:Nat},is.Nodup->is[k]?=some i->js[k]?=some j->da is js i=some j
 |[],_,i,j,k,_,h,_=>by simp at h
 |_::_,[],i,j,k,_,_,h=>by simp at h
 |x::is,y::js,i,j,k,hn,h1,h2=>by
  simp only[da];cases k with
  |zero=>simp at h1 h2;subst h1 h2;rw[iL];rfl
  |succ k=>
   simp at h1 h2;have aB:x≠i:=λe=>by subst e;exact(nO.1 hn).1 (ko h1)
   rw[ff aB];exact MA (nO.1 hn).2 h1 h2
def MB {is js:List Nat}(h2:js.Nodup){i j:Nat}(h:da is js i=some j):da js is j=some i:=by
 obtain⟨k,g1,g2⟩:=aei h;exact MA h2 g2 g1
def at0 (obs:List (Nat×Ob))(f:Nat->D):∀{is js:List Nat} {i j:Nat},is=obs.map (·.1)->da is js i=some j->oA obs (js.map f) i=f j:=by
 induction obs with
 |nil=>intro is js i j h1 h2;subst h1;cases h2
 |cons x l ih=>
  intro is js i j h1 h2;subst h1;cases js with
  |nil=>cases h2
  |cons y js=>
   simp only[fO,da] at h2;simp only[fO,oA];cases hb:Nat.beq x.1 i<;>simp only[hb,zyy,zyx] at h2 ⊢
   .exact ih rfl h2
   .cases h2;rfl
def aeg:∀{obs:List (Nat×Ob)} {js:List Nat} {os:List D} {i j:Nat},os.length=obs.length->da (obs.map (·.1)) js i=some j->∃k:Nat,js[k]?=some j/\oA obs os i=os.getD k .none
 |[],_,_,i,j,_,h=>by cases h
 |_::_,[],_,i,j,_,h=>by cases h
 |_::_,_::_,[],i,j,hl,h=>by simp at hl
 |x::obs,y::js,o::os,i,j,hl,h=>by
  simp only[fO,da] at h;simp only[oA];cases hb:Nat.beq x.1 i<;>simp only[hb,zyy,zyx] at h ⊢
  .obtain⟨k,h1,h2⟩:=aeg (obs:=obs) (js:=js) (os:=os) (by simpa using hl) h;exact⟨k+1,h1,by simpa using h2⟩
  .cases h;exact⟨0,rfl,rfl⟩
def ael:∀{obs:List (Nat×Ob)} {js:List Nat} {i:Nat},js.length=obs.length->da (obs.map (·.1)) js i=none->eZ obs i=.dead
 |[],_,i,_,_=>rfl
 |x::obs,[],i,hl,h=>by simp at hl
 |x::obs,y::js,i,hl,h=>by
  simp only[fO,da] at h;simp only[eZ];cases hb:Nat.beq x.1 i<;>simp only[hb,zyy,zyx] at h ⊢
  .exact ael (by simpa using hl) h
  .cases h
def abM {S:St}{is js:List Nat}:∀{obs:List (Nat×Ob)} {jl:List Nat},sA S is js obs jl=true->jl.length=obs.length
 |[],[],_=>rfl
 |[],_::_,h=>by simp[sA] at h
 |_::_,[],h=>by simp[sA] at h
 |o::obs,j::jl,h=>by simp only[sA,au] at h;simp[abM h.2]
def abL {S:St}{is js:List Nat}:∀{obs:List (Nat×Ob)} {jl:List Nat},sA S is js obs jl=true->∀{i j:Nat},da (obs.map (·.1)) jl i=some j->∃x,rO S.ver is js (eZ obs i)=some x/\B2 (S.o j) x=true
 |[],_,_,i,j,h=>by cases h
 |_::_,[],_,i,j,h=>by cases h
 |o::obs,y::jl,hf,i,j,h=>by
  simp only[sA,au] at hf;simp only[fO,da] at h;simp only[eZ];cases hb:Nat.beq o.1 i<;>simp only[hb,zyy,zyx] at h ⊢
  .exact abL hf.2 h
  .cases h;have h1:=hf.1;split at h1
   .rename_i x hx;exact⟨x,hx,h1⟩
   .cases h1
def abN:∀{a b:List Sh},B3 a b=true->a.length=b.length/\∀(i:Nat) (y:Sh),b[i]?=some y->∃x,a[i]?=some x/\Fv x y=true
 |[],[],_=>⟨rfl,λi y h=>by simp at h⟩
 |[],_::_,h=>by simp[B3] at h
 |_::_,[],h=>by simp[B3] at h
 |a::aa,b::bs,h=>by
  simp only[B3,au] at h;obtain⟨g1,g2⟩:=abN h.2;refine⟨by simp[g1],λi y hy=>?_⟩;cases i with
  |zero=>simp at hy;subst hy;exact⟨a,rfl,h.1⟩
  |succ i=>simp at hy;simpa using g2 i y hy
def Wk {ver:Nat->Nat}{is js:List Nat}:∀{a b:List Sh},IG ver is js a=some b->b.length=a.length/\∀(i:Nat) (x:Sh),a[i]?=some x->∃y,b[i]?=some y/\lj ver is js x=some y
 |[],b,h=>by simp only[IG,aX] at h;subst h;exact⟨rfl,λi x h=>by simp at h⟩
 |s::l,b,h=>by
  simp only[IG,ay,aD] at h;obtain⟨y,hy,r,hr,rfl⟩:=h;obtain⟨g1,g2⟩:=Wk hr;refine⟨by simp[g1],λi x hx=>?_⟩;cases i with
  |zero=>simp at hx;subst hx;exact⟨y,rfl,hy⟩
  |succ i=>simp at hx;simpa using g2 i x hx
def On {ver:Nat->Nat}{is js:List Nat}:∀{a b:List (Nat×Nat)},IF ver is js a=some b->b.length=a.length/\∀(i x v:Nat),a[i]?=some (x,v)->∃j,b[i]?=some (j,ver j)/\da is js x=some j/\v=0
 |[],b,h=>by simp only[IF,aX] at h;subst h;exact⟨rfl,λi x v h=>by simp at h⟩
 |s::l,b,h=>by
  simp only[IF] at h;cases hb:Nat.beq s.2 0<;>simp only[hb,zyy,zyx] at h
  .cases h
  simp only[ay,aD] at h;obtain⟨y,hy,r,hr,rfl⟩:=h;obtain⟨g1,g2⟩:=On hr;refine⟨by simp[g1],λi x v hx=>?_⟩;cases i with
  |zero=>simp at hx;subst hx;exact⟨y,rfl,hy,aC hb⟩
  |succ i=>simp at hx;simpa using g2 i x v hx
def Wj {ver:Nat->Nat}{is js:List Nat}{s x:Sh}(h:lj ver is js s=some x):(∀gs s',s≠.opt gs s')/\∀gs s',x≠.opt gs s':=by
 cases s<;>simp only[lj] at h
 case none=>cases h;exact⟨(λ_ _ e=>by cases e),(λ_ _ e=>by cases e)⟩
 case dat=>cases h;exact⟨(λ_ _ e=>by cases e),(λ_ _ e=>by cases e)⟩
 case obj i v=>
  cases hb:Nat.beq v 0<;>simp only[hb,zyy,zyx] at h
  .cases h
  simp only[aD] at h;obtain⟨j,_,rfl⟩:=h;exact⟨(λ_ _ e=>by cases e),(λ_ _ e=>by cases e)⟩
 case ptr i v off=>
  cases hb:Nat.beq v 0<;>simp only[hb,zyy,zyx] at h
  .cases h
  simp only[aD] at h;obtain⟨j,_,rfl⟩:=h;exact⟨(λ_ _ e=>by cases e),(λ_ _ e=>by cases e)⟩
 case fclo f caps=>
  simp only[aD] at h;obtain⟨j,_,rfl⟩:=h;exact⟨(λ_ _ e=>by cases e),(λ_ _ e=>by cases e)⟩
 all_goals cases h
section
variable {C:Ctx} {S S1:St} {O ρ1:Env} {V σ1:Im} {own dO:Nat->Option Nat} {hv aV:Nat->Value} {w0:World} {σ0:Base} {A:Nat->Prop} {a:Act} {w w1:World} {Z:aQ} {dst:Nat}
 {is js:List Nat} {shs:List Sh} {obs:List (Nat×Ob)} {ρf:Env}
def aiJ (hσ:Im.leR C.cap V σ1){fH:Nat->Value}(gH:∀i j,da is js i=some j->fH i=hv j){s x:Sh}(hr:lj S.ver is js s=some x){v:Value}{d:D}(h:aI C S O V hv x v d):aI C (gI shs obs) ρf σ1 fH s v d:=by
 cases s<;>simp only[lj] at hr
 case none=>trivial
 case dat=>cases hr;exact hσ.rep h
 case obj i ver=>
  cases hb:Nat.beq ver 0<;>simp only[hb,zyy,zyx] at hr
  .cases hr
  simp only[aD] at hr;obtain⟨j,hj,rfl⟩:=hr;exact⟨by rw[aC hb];exact qx _,λ_=>by rw[gH i j hj];exact h.2 rfl⟩
 case ptr i ver off=>
  cases hb:Nat.beq ver 0<;>simp only[hb,zyy,zyx] at hr
  .cases hr
  simp only[aD] at hr;obtain⟨j,hj,rfl⟩:=hr;exact⟨by rw[aC hb];exact qx _,λ_=>by rw[gH i j hj];exact h.2 rfl⟩
 case fclo f caps=>
  simp only[aD] at hr;obtain⟨c,hc,rfl⟩:=hr;obtain⟨g1,g2⟩:=On hc;obtain⟨vs,h1,h2,h3⟩:=h;refine⟨vs,h1,by omega,λi x ver hi=>?_⟩;obtain⟨j,e1,e2,e3⟩:=g2 i x ver hi;exact⟨by rw[e3];exact qx _,λ_=>by rw[gH x j e2];exact(h3 i j _ e1).2 rfl⟩
 all_goals cases hr
def ayq (hσ:V.le σ1){fH:Nat->Value}(gH:∀i j,da is js i=some j->fH i=aV j){s x:Sh}(hr:lj S1.ver is js s=some x){v:Value}{d:D}(h:aI C (gI shs obs) ρf V fH s v d):aI C S1 ρ1 σ1 aV x v d:=by
 cases s<;>simp only[lj] at hr
 case none=>cases hr;trivial
 case dat=>cases hr;exact Rep.mono hσ h
 case obj i ver=>
  cases hb:Nat.beq ver 0<;>simp only[hb,zyy,zyx] at hr
  .cases hr
  simp only[aD] at hr;obtain⟨j,hj,rfl⟩:=hr;exact⟨bj _,λ_=>by rw[<-gH i j hj];exact h.2 (aC hb)⟩
 case ptr i ver off=>
  cases hb:Nat.beq ver 0<;>simp only[hb,zyy,zyx] at hr
  .cases hr
  simp only[aD] at hr;obtain⟨j,hj,rfl⟩:=hr;exact⟨bj _,λ_=>by rw[<-gH i j hj];exact h.2 (aC hb)⟩
 case fclo f caps=>
  simp only[aD] at hr;obtain⟨c,hc,rfl⟩:=hr;obtain⟨g1,g2⟩:=On hc;obtain⟨vs,h1,h2,h3⟩:=h;refine⟨vs,h1,by omega,λi j ver hi=>?_⟩;have ak:i<caps.length:=by have:=(ga.1 hi).1;omega
  obtain⟨j',e1,e2,e3⟩:=g2 i _ _ (bI ak);rw[hi] at e1;cases e1;exact⟨bj _,λ_=>by rw[<-gH _ j e2];exact(h3 i _ _ (bI ak)).2 e3⟩
 all_goals cases hr
def aoX {c x:Sh}(hf:Fv c x=true){v:Value}{d:D}(h:aI C S O V hv c v d):aI C S O V hv x v d:=by
 cases x with
 |none=>trivial
 |dat b=>
  simp only[Fv] at hf;split at hf
  .exact Rep.sub h hf
  .cases hf
 |_=>simp only[Fv] at hf;rw[Sh.beq_eq _ _ hf] at h;exact h
def av8 (hσ:Im.leR C.cap V σ1){fH:Nat->Value}{G4:Nat->Option Nat}(gH:∀i j,da is js i=some j->fH i=hv j)(cE:∀k j i,own k=some j->da js is j=some i->G4 k=some i)(bC:js.Nodup){i j N:Nat}(du:da is js i=some j)(hρ:ρf.o i=O.o j){ob x:Ob}
 (hr:rO S.ver is js ob=some x) (hf:B2 (S.o j) x=true) (h:cG C S O V own hv w N j (S.o j)):cG C (gI shs obs) ρf σ1 G4 fH w N i ob:=by
 have je:=MB bC du;cases ob<;>simp only[rO] at hr
 case row T e=>
  cases hr;cases ho:S.o j<;>rw[ho] at hf h<;>simp only[B2,au] at hf<;>try (cases hf;done)
  obtain⟨cells,xs,h1,h2,h3,h4⟩:=h;rw[aC hf.1,Ty.beq_eq _ _ hf.2] at*;exact⟨cells,xs,by rw[hρ];exact h1,by rw[gH i j du];exact h2,h3.monoR hσ,λk hk=>cE k j i (h4 k (by rw[<-gH i j du];exact hk)) je⟩
 case mp kt et=>
  cases hr;cases ho:S.o j<;>rw[ho] at hf h<;>simp only[B2,au] at hf<;>try (cases hf;done)
  obtain⟨k,arr,clock,es,h1,h2,h3,h4,h5,h6,h7⟩:=h;rw[Ty.beq_eq _ _ hf.1,Ty.beq_eq _ _ hf.2] at*;exact⟨k,arr,clock,es,by rw[gH i j du];exact h1,cE k j i h2 je,h3,by rw[hρ];exact h4,h5,h6,λn e p he hp=>⟨hσ.rep (h7 n e p he hp).1,hσ.rep (h7 n e p he hp).2⟩⟩
 case box ag cs=>
  simp only[aD] at hr;obtain⟨QR,dF,rfl⟩:=hr;cases ho:S.o j<;>rw[ho] at hf h<;>simp only[B2,au] at hf<;>try (cases hf;done)
  obtain⟨k,vs,T,ds,h1,h2,h3,h4,h5,h6,h7⟩:=h;obtain⟨l1,g1⟩:=abN hf.2;obtain⟨l2,g2⟩:=Wk dF;refine⟨k,vs,T,ds,by rw[gH i j du];exact h1,cE k j i h2 je,h3,by omega,by rw[hρ];exact h5,by omega,λn s hs=>?_⟩;obtain⟨y,hy,Gs⟩:=g2 n s hs;obtain⟨z,hz,Cm⟩:=g1 n y hy;exact⟨(Wj Gs).1,aiJ hσ gH Gs (aoX Cm (h7 n z hz).2)⟩
 all_goals cases hr
def av9 (hσ:V.le σ1){fH:Nat->Value}{G4:Nat->Option Nat}(gH:∀i j,da is js i=some j->fH i=aV j)(cE:∀k i j,G4 k=some i->da is js i=some j->dO k=some j){i j N:Nat}(du:da is js i=some j)(hρ:ρ1.o j=ρf.o i){ob x:Ob}
 (hr:rO S1.ver is js ob=some x) (h:cG C (gI shs obs) ρf V G4 fH w N i ob):cG C S1 ρ1 σ1 dO aV w N j x:=by
 cases ob<;>simp only[rO] at hr
 case row T e=>
  cases hr;obtain⟨cells,xs,h1,h2,h3,h4⟩:=h;exact⟨cells,xs,by rw[hρ];exact h1,by rw[<-gH i j du];exact h2,h3.mono hσ,λk hk=>cE k i j (h4 k (by rw[gH i j du];exact hk)) du⟩
 case mp kt et=>
  cases hr;obtain⟨k,arr,clock,es,h1,h2,h3,h4,h5,h6,h7⟩:=h;exact⟨k,arr,clock,es,by rw[<-gH i j du];exact h1,cE k i j h2 du,h3,by rw[hρ];exact h4,h5,h6,λn e p he hp=>⟨(h7 n e p he hp).1.mono hσ,(h7 n e p he hp).2.mono hσ⟩⟩
 case box ag cs=>
  simp only[aD] at hr;obtain⟨QR,dF,rfl⟩:=hr;obtain⟨k,vs,T,ds,h1,h2,h3,h4,h5,h6,h7⟩:=h;obtain⟨l2,g2⟩:=Wk dF;refine⟨k,vs,T,ds,by rw[<-gH i j du];exact h1,cE k i j h2 du,h3,by omega,by rw[hρ];exact h5,by omega,λn s hs=>?_⟩;have ak:n<cs.length:=by have:=(ga.1 hs).1;omega
  obtain⟨y,hy,Gs⟩:=g2 n _ (bI ak);rw[hs] at hy;cases hy;exact⟨(Wj Gs).2,ayq hσ gH Gs (h7 n _ (bI ak)).2⟩
 all_goals cases hr
def ayp {ver:Nat->Nat}{ob x:Ob}(hr:rO ver is js ob=some x):x≠.tr:=by
 cases ob<;>simp only[rO] at hr
 case row=>cases hr;intro e;cases e
 case mp=>cases hr;intro e;cases e
 case box=>
  simp only[aD] at hr;obtain⟨_,_,rfl⟩:=hr;intro e;cases e
 all_goals cases hr
def CtxOK.noM (h:CtxOK C V):CtxOK C V.noM:=⟨λg x hx=>(h.glob g x hx).noM,λg x hx=>by
 have:=h.mg g x hx;have aB:V.m g≠some cW:=λe'=>by rw[this] at e';exact vg (vM e')
 simp only[Im.noM,if_neg aB,this]⟩
def I6 (C:Ctx)(S:St)(O:Env)(V:Im)(hv:Nat->Value)(x:oQ)(v:Value)(d:D):Prop:=aI C S O V hv x.1 v d/\∀y,x.2=some y->Rep C.cap V y.1 v (y.2.ev O)
def abK:∀{acts:List oQ} {shs:List Sh} {es:List PE},vZ S is js acts shs=some es->acts.length=shs.length/\es.length=shs.length/\∀(t:Nat) (s:Sh),shs[t]?=some s->∃x e,acts[t]?=some x/\es[t]?=some e/\Fu S is js x s=some e
 |[],[],es,h=>by simp only[vZ,aX] at h;subst h;exact⟨rfl,rfl,λt s h=>by simp at h⟩
 |[],_::_,es,h=>by simp[vZ] at h
 |_::_,[],es,h=>by simp[vZ] at h
 |x::acts,s::shs,es,h=>by
  simp only[vZ,ay,aD] at h;obtain⟨e,he,r,hr,rfl⟩:=h;obtain⟨g1,g2,g3⟩:=abK hr;refine⟨by simp[g1],by simp[g2],λt s' hs=>?_⟩;cases t with
  |zero=>simp at hs;subst hs;exact⟨x,e,rfl,rfl,he⟩
  |succ t=>simp at hs;simpa using g3 t s' hs
def aoV (hσ:Im.leR C.cap V σ1){fH:Nat->Value}(gH:∀i j,da is js i=some j->fH i=hv j){x:oQ}{s:Sh}{e:PE}(hf:Fu S is js x s=some e){v:Value}{d:D}(h:I6 C S O V hv x v d):aI C (gI shs obs) ρf σ1 fH s v (e.ev O):=by
 have gen:∀s,(match lj S.ver is js s with|some y=>bif Sh.beq x.1 y then some (PE.con .none) else none|none=>none)=some e->ox s=false->aI C (gI shs obs) ρf σ1 fH s v (e.ev O):=by
  intro s hm hd;split at hm
  .rename_i y hy;cases hb:Sh.beq x.1 y<;>simp only[hb,zyy,zyx] at hm
   .cases hm
   have h1:=h.1;rw[Sh.beq_eq _ _ hb] at h1;have:=aiJ (shs:=shs) (obs:=obs) (ρf:=ρf) hσ gH hy h1;cases s with
   |dat t=>cases hd
   |opt gs s'=>exact absurd rfl ((Wj hy).1 gs s')
   |eptr j ver size off=>simp[lj] at hy
   |agg l=>simp[lj] at hy
   |_=>exact this
  .cases hm
 unfold Fu at hf;split at hf
 .rename_i t;split at hf
  .rename_i y hy;cases hb:Ty.sub y.1 t<;>simp only[hb,zyy,zyx] at hf
   .cases hf
   cases hf;exact hσ.rep ((h.2 y hy).sub hb)
  .cases hf
 .trivial
 .rename_i mA wD;refine gen _ hf ?_;cases s<;>first|rfl|exact absurd rfl (mA _)
def anL {fH SS:Nat->Value}{V V':Im}{ρf Of':Env}{args:Nat->Value}{ds ds':Nat->D}(h1:∀(t:Nat) (s:Sh),shs[t]?=some s->aI C (gI shs obs) ρf V fH s (args t) (ds t))(h2:∀(t:Nat) (s:Sh),shs[t]?=some s->ox s=false->aI C (gI shs obs) Of' V' SS s (args t) (ds' t))
 (hz:∀s,s∈shs->∃x,lj S.ver is js s=some x) {i:Nat} (hi:i∈qJ shs):SS i=fH i:=by
 have key:∀(l:List Sh),(∀s,s∈l->∃t:Nat,shs[t]?=some s)->i∈qJ l->SS i=fH i:=by
  intro l
  induction l with
  |nil=>intro _ h;cases h
  |cons s l ih=>
   intro hl hi;obtain⟨t,ht⟩:=hl s (dZ ..);have dL:∀s,s∈l->∃t:Nat,shs[t]?=some s:=λs hs=>hl s (dV _ hs);obtain⟨x,hx⟩:=hz s (ko ht);have a1:=h1 t s ht;have a2:=h2 t s ht;cases s<;>simp only[qJ] at hi
   case obj j ver=>
        simp only[lj] at hx;cases hb:Nat.beq ver 0<;>simp only[hb,zyy,zyx] at hx
        .cases hx
        rcases cU.1 hi with e|e
        .subst e;rw[<-(a1.2 (aC hb)),<-((a2 rfl).2 (aC hb))]
        .exact ih dL e
   case ptr j ver off=>
        simp only[lj] at hx;cases hb:Nat.beq ver 0<;>simp only[hb,zyy,zyx] at hx
        .cases hx
        rcases cU.1 hi with e|e
        .subst e;obtain⟨k1,e1,e2⟩:=a1.2 (aC hb);obtain⟨k2,e3,e4⟩:=(a2 rfl).2 (aC hb);rw[e2] at e4;cases e4;rw[e1,e3]
        .exact ih dL e
   case fclo f caps=>
        simp only[lj,aD] at hx;obtain⟨c,hc,_⟩:=hx;obtain⟨_,g2⟩:=On hc;rcases dH.1 hi with e|e
        .obtain⟨y,hy,e1⟩:=dW.1 e;subst e1;obtain⟨m,hm⟩:=AL hy;obtain⟨vs,b1,b2,b3⟩:=a1;obtain⟨tG,c1,c2,c3⟩:=a2 rfl;rw[b1] at c1;have ji:vs=tG:=by simpa using c1
         subst ji;obtain⟨_,_,_,CG⟩:=g2 m y.1 y.2 hm;rw[<-(b3 m y.1 y.2 hm).2 CG,<-(c3 m y.1 y.2 hm).2 CG]
        .exact ih dL e
   all_goals exact ih dL hi
 exact key shs (λs hs=>AL hs) hi
end
section
variable {C:Ctx} {S:St} {O:Env} {V:Im} {own:Nat->Option Nat} {hv:Nat->Value} {w0:World} {σ0:Base} {A:Nat->Prop} {a:Act} {w:World} {Z:aQ} {dst:Nat}
 {is js:List Nat} {shs:List Sh} {obs:List (Nat×Ob)}
def Below.weak {B:Nat}{w w':World}(h:Below 0 w w')(hk:∀k,k<B->w'.heap[k]?=w.heap[k]?):Below B w w':=⟨h.os,h.tape,h.output,h.size,hk⟩
def pV (js is:List Nat)(own:Nat->Option Nat):Nat->Option Nat:=λk=>(own k).bind (da js is)
def G3 (js is:List Nat)(own own':Nat->Option Nat):Nat->Option Nat:=λk=>
 match own' k with
 |some i=>da is js i
 |none=>match own k with|some j=>(match da js is j with|some _=>none|none=>some j)|none=>none
def handed (h:Inv C S O V own hv w0 σ0 A a w)(hC:CtxOK C σ0)(asx:zH shs obs=true)(F3:is=obs.map (·.1))(ac4:is.Nodup)(L7:js.Nodup)(LV:sA S is js obs js=true){acts:List oQ}{es:List PE}(j2:vZ S is js acts shs=some es)
 (LQ:S.o jv=.dead) (Mj:jv∉js) {vals:List Value} (hvl:vals.length=acts.length) (aqN:∀(t:Nat) (x:oQ),acts[t]?=some x->∃d,I6 C S O V hv x (vals.getD t undef) d) {f:Nat} {res:Ty} {d:D}
 (hfn:vC C f shs obs res (es.map (PE.ev O)++js.map O.o) d):
 Calls C.P f vals.toArray w λe w'=>∃v dr os,e=.returned v/\d=.tup (dr::os)/\os.length=js.length/\
  ∀O':Env,O'.r=O.r->(∀(k j:Nat),js[k]?=some j->O'.o j=os.getD k .none)->(∀j,j∉js->j≠jv->O'.o j=O.o j)->
   ∃σ1 dO aV,Inv C (S.handed shs obs is js) O' σ1 dO aV w0 σ0 A a w'/\Rep C.cap σ1 res v dr:=by
 obtain⟨al1,al2,ei⟩:=abK j2;have gT:=abM LV;have wN:w0.heap.size<=w.heap.size:=h.below.size;obtain⟨tr,fx,cx,hf,uA⟩:=h.frame
 let fH:Nat->Value:=λi=>match da is js i with|some j=>hv j|none=>undef
 have gH:∀i j,da is js i=some j->fH i=hv j:=λi j e=>by simp only[fH,e]
 have acV:Im.leR C.cap V V.noM:=⟨Rep.noM,λ_ _ _ e=>e⟩
 have Gb:∀k x,V.noM.m k=some x->V.m k=some x/\x≠cW:=by
  intro k x e;by_cases hd:V.m k=some cW
  .simp[Im.noM,hd] at e
  .simp only[Im.noM,if_neg hd] at e;exact⟨e,λe2=>hd (by rw[e,e2])⟩
 have yP:(es.map (PE.ev O)++js.map O.o).drop shs.length=js.map O.o:=by rw[List.drop_append];simp[al2]
 have arx:∀t e,es[t]?=some e->(es.map (PE.ev O)++js.map O.o).getD t .none=e.ev O:=λt e he=>by
  have ak:=(ga.1 he).1;rw[aK,kL (by simpa using ak),cL,he];rfl
 have asJ:∀s,s∈shs->∃x,lj S.ver is js s=some x:=by
  intro s hs;obtain⟨t,ht⟩:=AL hs;obtain⟨x,e,_,_,he⟩:=ei t s ht;unfold Fu at he;split at he
  .exact⟨_,rfl⟩
  .exact⟨_,rfl⟩
  .split at he
   .rename_i y hy;exact⟨y,hy⟩
   .cases he
 have acO:∀t,aI C (gI shs obs) (nv obs (es.map (PE.ev O)++js.map O.o) ((es.map (PE.ev O)++js.map O.o).drop shs.length)) V.noM fH (shs.getD t .none) (vals.toArray.getD t undef) ((es.map (PE.ev O)++js.map O.o).getD t .none):=by
  intro t;cases hs:shs[t]? with
  |none=>rw[aK,hs];trivial
  |some s=>
   obtain⟨x,e,hx,he,LS⟩:=ei t s hs;obtain⟨d',aqO⟩:=aqN t x hx;rw[aK (l:=shs),hs,arx t e he];have e1:vals.toArray.getD t undef=vals.getD t undef:=by simp[eM,aK]
   rw[e1];exact aoV acV gH LS aqO
 have arJ:∀i,cG C (gI shs obs) (nv obs (es.map (PE.ev O)++js.map O.o) ((es.map (PE.ev O)++js.map O.o).drop shs.length)) V.noM (pV js is own) fH w w0.heap.size i (eZ obs i):=by
  intro i;cases du:da is js i with
  |none=>subst F3;rw[ael gT du];trivial
  |some j=>
   subst F3;obtain⟨x,hx,LW⟩:=abL LV du;refine av8 acV gH (λk j' i' hk hl=>by simp only[pV,hk,kM,hl]) L7 du ?_ hx LW (h.objs j);show oA obs _ i=_;rw[yP];exact at0 obs O.o rfl du
 have qX:=hfn w0.heap.size V.noM (pV js is own) fH w vals.toArray (λk=>(∃j,own k=some j/\da js is j=none)\/V.m k=some cW\/(cx k)) asx ⟨h.ok.c,λk x e=>h.ok.m k x (Gb k x e).1,h.ok.f⟩ ((hC.mono h.le).noM)
  (λk e=>(Gb k _ e).2 rfl) wN (by simp;omega) (λk i hk=>by
    simp only[pV,ay] at hk;obtain⟨j,hj,_⟩:=hk;obtain⟨g1,g2,g3,g4⟩:=h.owns k j hj;exact⟨g1,g2,g3,by by_cases e:V.m k=some cW<;>simp[Im.noM,e,g4]⟩) (λk hk=>by
    rcases hk with⟨j,hj,hn⟩|hk|hk
    .obtain⟨g1,g2,g3,g4⟩:=h.owns k j hj;exact⟨g2,by simp[pV,hj,hn],g3,by by_cases e:V.m k=some cW<;>simp[Im.noM,e,g4]⟩
    .have F9:=h.ok.m k _ hk;have hn:own k=none:=by
      cases e:own k with
      |none=>rfl
      |some j=>rw[(h.owns k j e).2.2.2] at hk;cases hk
     refine⟨F9.lt,by simp[pV,hn],λo=>?_,by simp[Im.noM,hk]⟩;cases e:V.c k o with
     |none=>exact e
     |some x=>
      have c1:=h.ok.c k o x e;rcases F9 with⟨m1,_⟩|⟨_,m2⟩|⟨m3,_⟩
      .exact absurd rfl m1
      .simp[World.cell?,m2] at c1
      .exact absurd m3.symm vg
    .have lR:=σ0.sub _ _ _ _ hf.F k hk;have hn:own k=none:=by
      cases e:own k with
      |none=>rfl
      |some j=>exact absurd lR (hf.own k j e)
     refine⟨σ0.lt _ _ _ _ hf.F k lR,by simp[pV,hn],λo=>?_,?_⟩
     .cases e:V.c k o with
      |none=>exact e
      |some x=>exact absurd hk (hf.c k o x e)
     .cases e:V.m k with
      |none=>simp[Im.noM,e]
      |some x=>exact absurd hk (hf.m k x e)) acO arJ
 refine qX.mono λe w' hh=>?_;obtain⟨v,V',own',hv',dr,os,rfl,hd,Md,hle,av,hb,jN,dw,cY,wC,adg,yV,Sk,ew⟩:=hh;refine⟨v,dr,os,rfl,hd,by omega,λO' jM nl y8=>?_⟩;have Gd:∀k,k<w.heap.size->own k=none->w'.heap[k]?=w.heap[k]?:=λk hk hn=>jN k hk (by simp[pV,hn]);have asr:∀k j,own k=some j->da js is j=none->w'.heap[k]?=w.heap[k]?:=λk j hk hn=>jN k (h.owns k j hk).2.1 (by simp[pV,hk,hn])
 have acu:∀k o x,V.c k o=some x->own k=none:=λk o x e=>by
  cases e1:own k with
  |none=>rfl
  |some j=>rw[(h.owns k j e1).2.2.1 o] at e;cases e
 have ac1:∀k x,V.m k=some x->own k=none:=λk x e=>by
  cases e1:own k with
  |none=>rfl
  |some j=>rw[(h.owns k j e1).2.2.2] at e;cases e
 have Mc:V.ok w':=⟨λk o x e=>by rw[World.cell?_of_block (Gd k (h.lt e) (acu k o x e))];exact h.ok.c k o x e,λk x e=>(h.ok.m k x e).keep (Gd k (h.ltm e) (ac1 k x e)),h.ok.fz λk o x e=>Gd k (h.lt e) (acu k o x e)⟩
 have my:V.le (V'.plus V):=Im.plus_le2 av Mc;have ky:V'.le (V'.plus V):=Im.plus_le1 V' V;have dF:∀k o x,(V'.plus V).c k o=some x->V'.c k o=some x:=λk o x e=>(Im.plus_c e).elim id (λe=>hle.c k o x e)
 have Cs:∀k x,(V'.plus V).m k=some x->V'.m k=some x\/(V.m k=some x/\x=cW):=λk x e=>(Im.plus_m e).elim .inl (λe=>by
  by_cases hd:x=cW
  .exact .inr ⟨e,hd⟩
  .refine .inl (hle.m k x ?_);have:V.m k≠some cW:=λe2=>hd (by rw[e] at e2;cases e2;rfl);simp only[Im.noM,if_neg this,e])
 let aV:Nat->Value:=λj=>match da js is j with|some i=>hv' i|none=>hv j
 have atf:∀i j,da is js i=some j->hv' i=aV j:=λi j e=>by simp only[aV,MB L7 e]
 have arf:∀i,i∈qJ shs->hv' i=fH i:=λi hi=>anL (S:=S) (is:=is) (js:=js) (args:=λt=>vals.toArray.getD t undef) (ds:=λt=>(es.map (PE.ev O)++js.map O.o).getD t .none) (ds':=λt=>(es.map (PE.ev O)++js.map O.o).getD t .none) (λt s hs=>by
  have:=acO t;rw[aK (l:=shs),hs] at this;exact this) (λt s hs hd=>yV t s hs hd) asJ hi
 have sD:Compat S hv (S.handed shs obs is js) aV:=by
  refine⟨λj=>?_,λj e=>?_⟩
  .show S.ver j<=xQ S.ver shs is js j;unfold xQ;split
   .cases aG (qJ shs) _<;>simp
   .exact bj _
  .change xQ S.ver shs is js j=S.ver j at e;show aV j=hv j;simp only[aV];unfold xQ at e;split at e
   .rename_i i hi;cases hb:aG (qJ shs) i<;>rw[hb] at e
    .simp at e
    .try simp only[hi]
     rw[arf i (adO.1 hb),gH i j (MB ac4 hi)]
   .rename_i hi;try simp only[hi]
 have nY:∀k j,G3 js is own own' k=some j->(k<w.heap.size->own k≠none)/\w0.heap.size<=k/\k<w'.heap.size/\(∀o,V'.c k o=none)/\V'.m k=none/\V.m k≠some cW:=by
  intro k j hk;simp only[G3] at hk;split at hk
  .rename_i i hi;obtain⟨g1,g2,g3,g4,g5⟩:=adg k i hi;have g6:k<w.heap.size->own k≠none:=λak e=>g5 ak (by simp[pV,e]);refine⟨g6,g1,g2,g3,g4,λe=>?_⟩;exact g6 (h.ltm e) (ac1 k _ e)
  .split at hk
   .rename_i j' bf;split at hk
    .cases hk
    .rename_i hn;obtain⟨g1,g2,g3,g4⟩:=h.owns k j' bf;have lP:(∃j,own k=some j/\da js is j=none)\/V.m k=some cW\/(cx k):=.inl ⟨j',bf,hn⟩;refine⟨λ_ e=>(by rw[bf] at e;cases e),g1,tP g2 hb.size,λo=>?_,?_,λe=>?_⟩
     .cases e:V'.c k o with
      |none=>rfl
      |some x=>exact absurd lP (dw k o x e).2
     .cases e:V'.m k with
      |none=>rfl
      |some x=>exact absurd lP (cY k x e).2
     .rw[g4] at e;cases e
   .cases hk
 refine⟨V'.plus V,G3 js is own own',aV,⟨h.defers.mono my,Im.plus_ok av Mc,h.le.trans my,h.old,λk o x e=>?_,λk x e=>?_,h.below.trans (Below.weak hb λk hk=>?_),h.bw,λk j hk=>?_,λt=>?_,λj=>?_,h.opts,?_⟩,ew.mono ky⟩
 .rcases(dw k o x (dF k o x e)).1 with e1|e1
  .exact h.newc k o x e1
  .exact .inr e1
 .rcases Cs k x e with e1|e1
  .rcases(cY k x e1).1 with e2|e2
   .exact h.newm k x (Gb k x e2).1
   .exact .inr e2
  .exact h.newm k x e1.1
 .have dj:k<w0.heap.size:=tP hk h.bw;refine Gd k (by omega) ?_;cases e:own k with
  |none=>rfl
  |some j=>have:=(h.owns k j e).1;omega
 .obtain⟨_,g1,g2,g3,g4,g5⟩:=nY k j hk;refine⟨g1,g2,λo=>?_,?_⟩
  .cases e:(V'.plus V).c k o with
   |none=>rfl
   |some x=>have:=dF k o x e;rw[g3 o] at this;cases this
  .cases e:(V'.plus V).m k with
   |none=>rfl
   |some x=>
    rcases Cs k x e with e1|e1
    .rw[g4] at e1;cases e1
    .exact absurd (by rw[e1.1,e1.2]) g5
 .show aI C _ O' _ aV (S.r t) _ (O'.r t);rw[jM]
  exact aI.mono my sD (λgs s e=>by
   unfold holds;rw[jM]) (λgs s e=>(h.opts t gs s e).2) (h.regs t)
 .show cG C _ O' _ _ aV w' _ j (match da js is j with|some i=>(match rO (xQ S.ver shs is js) is js (eZ obs i) with|some o=>o|none=>.dead)|none=>S.o j);split
  .rename_i i hi;have du:=MB ac4 hi;split
   .rename_i x hx;refine av9 (S1:=S.handed shs obs is js) ky atf (λk i' j' hk hl=>by simp only[G3,hk,hl]) du ?_ hx (Sk i);subst F3;obtain⟨k,bN,dj⟩:=aeg (os:=os) Md du;show O'.o j=oA obs os i;rw[dj];exact nl k j bN
   .trivial
  .rename_i hn
   have Se:j∉js:=λhm=>by
        obtain⟨k,hk⟩:=AL hm;have ak:k<is.length:=by
         have:=(ga.1 hk).1;rw[F3,fw];omega
        have:=MA L7 hk (bI ak);rw[hn] at this;cases this
   by_cases L1:j=jv
   .subst L1;rw[LQ];trivial
   .refine(h.objs j).mono my sD (by show aV j=hv j;simp only[aV,hn]) (y8 j Se L1) (λk hk=>⟨?_,asr k j hk hn⟩);have:own' k=none:=by
     cases e:own' k with
     |none=>rfl
     |some i=>exact absurd (by simp[pV,hk,hn]) ((adg k i e).2.2.2.2 (h.owns k j hk).2.1)
    simp only[G3,this,hk,hn]
 .refine⟨tr,fx,cx,⟨σ0.keep _ _ _ _ _ hf.F hb λk hk=>?_,λk j hk lR=>?_,λk o x e hc=>?_,λk x e hc=>?_,λk e hB hk=>?_⟩,λj hj=>?_⟩
  .refine Gd k (σ0.lt _ _ _ _ hf.F k hk) ?_;cases e:own k with
   |none=>rfl
   |some j=>exact absurd hk (hf.own k j e)
  .have ak:=σ0.lt _ _ _ _ hf.F k lR;have:=(nY k j hk).1 ak;cases e:own k with
   |none=>exact this e
   |some j'=>exact hf.own k j' e lR
  .exact(dw k o x (dF k o x e)).2 (.inr (.inr hc))
  .rcases Cs k x e with e1|e1
   .exact(cY k x e1).2 (.inr (.inr hc))
   .exact hf.m k x e1.1 hc
  .rcases Cs k _ e with e1|e1
   .have ak:=σ0.lt _ _ _ _ hf.F k hk;refine wC k e1 hB ak ?_;have:own k=none:=by
     cases e:own k with
     |none=>rfl
     |some j=>exact absurd hk (hf.own k j e)
    simp[pV,this]
   .exact hf.d k e1.1 hB hk
  .change (match da js is j with|some i=>(match rO (xQ S.ver shs is js) is js (eZ obs i) with|some o=>o|none=>.dead)|none=>S.o j)=.tr at hj;split at hj
   .rename_i i hi;split at hj
    .rename_i x hx;exact absurd hj (ayp hx)
    .cases hj
   .rename_i hn
    have Se:j∉js:=λhm=>by
     obtain⟨k,hk⟩:=AL hm;have ak:k<is.length:=by
         have:=(ga.1 hk).1;rw[F3,fw];omega
     have:=MA L7 hk (bI ak);rw[hn] at this;cases this
    have L1:j≠jv:=λe=>by subst e;rw[LQ] at hj;cases hj
    rw[y8 j Se L1];exact uA j hj
def ai4:∀(js:List Nat) (k:Nat) {O O':Env} {l:List D},PI.runs Z (IN js k) O=some O'->O.o jv=.tup l->jv∉js->js.Nodup->
 O'.r=O.r/\(∀(i j:Nat),js[i]?=some j->O'.o j=l.getD (k+i) .none)/\∀j,j∉js->O'.o j=O.o j
 |[],k,O,O',l,h,hs,hn,hd=>by
  simp only[IN,PI.runs,aX] at h;subst h;exact⟨rfl,λi j e=>by simp at e,λ_ _=>rfl⟩
 |x::js,k,O,O',l,h,hs,hn,hd=>by
  simp only[IN,PI.runs,PI.run,kM,PE.ev,hs,D.tget] at h;simp only[cU,not_or] at hn;have ej:=nO.1 hd;obtain⟨g1,g2,g3⟩:=ai4 js (k+1) h (by simp only[Env.setO];rw[bF _ _ hn.1];exact hs) hn.2 ej.2;refine⟨g1,λi j e=>?_,λj hj=>?_⟩
  .cases i with
   |zero=>simp at e;subst e;rw[g3 _ ej.1];simp[Env.setO,aP]
   |succ i=>simp at e;rw[g2 i j e];congr 1;omega
  .simp only[cU,not_or] at hj;rw[g3 j hj.2];simp only[Env.setO];exact bF _ _ hj.1
def alL (h:Inv C S O V own hv w0 σ0 A a w)(hC:CtxOK C σ0)(x:Operand):∃d,I6 C S O V hv (Jm C S x) (a.eval x) d:=by
 cases x with
 |tmp t=>
  refine⟨O.r t,?_,λy hy=>cK (gs:=[]) h hC rfl hy⟩;have:=(nF (gs:=[]) h rfl t).1;simpa [Act.eval,Jm,fN] using this
 |_=>exact⟨.none,trivial,λy hy=>cK (gs:=[]) h hC rfl hy⟩
def abj (h:Inv C S O V own hv w0 σ0 A a w)(hC:CtxOK C σ0)(hΦ:dt C Z){f:Nat}{args:List Operand}{caps:List (Nat×Nat)}{vs:List Value}(ji:vs.length=caps.length)
 (gj:∀(i j ver:Nat),caps[i]?=some (j,ver)->ver<=S.ver j/\(ver=S.ver j->vs.getD i undef=hv j)) (aqY:∀(i j ver:Nat),caps[i]?=some (j,ver)->ver=S.ver j->∃k,hv j=.pointer (some ⟨k,0,none⟩)) {r:St×Ty×List PI} (hr:sq C S f args caps=some r)
 {ρ1:Env} (ar:PI.runs Z r.2.2 O=some ρ1):
 Calls C.P f (args.map a.eval++vs).toArray w λe w'=>∃v σ1 dO aV,e=.returned v/\Inv C r.1 ρ1 σ1 dO aV w0 σ0 A a w'/\Rep C.cap σ1 r.2.1 v ((ρ1.o jv).tget 0):=by
 simp only[sq,ay] at hr;obtain⟨s,hs,hr⟩:=hr;split at hr
 case h_2=>cases hr
 rename_i shs obs lU;obtain⟨σ2,jP,ky,h2⟩:=Inv.fzs (B5 S args shs) h;have dY:=(pk (B5 S args shs) S).1;generalize S.fzs (B5 S args shs)=S2 at hr h2 dY;unfold QX QW at hr;generalize abC S2 shs obs (args.map (Jm C S2)++caps.map aaS)=js at hr;simp only[ay] at hr;obtain⟨es,j2,hr⟩:=hr;cases hb:(zH shs obs&&(ix (obs.map (·.1))&&ix js&&sA S2 (obs.map (·.1)) js obs js&&pK (S2.o jv)&& !aG js jv))<;>simp only[hb,zyy,zyx] at hr
 .cases hr
 cases hr;simp only[au,iZ] at hb;obtain⟨b0,⟨⟨⟨b1,b2⟩,b3⟩,b4⟩,b5⟩:=hb;have mA:=mH b1;have wD:=mH b2;have LQ:S2.o jv=.dead:=by
  cases e:S2.o jv<;>rw[e] at b4<;>first|rfl|cases b4
 have Mj:jv∉js:=λhm=>by rw[adO.2 hm] at b5;cases b5
 simp only[PI.runs,PI.run,ay,aD] at ar;obtain⟨ρ2,⟨d,hd,rfl⟩,ar⟩:=ar;rw[PE.evs_eq,mi,Jf] at hd;have e1:js.map (PE.ev O∘PE.o)=js.map O.o:=rfl;rw[e1] at hd;have hfn:=((hΦ f _ d hd s hs).2 shs obs lU).plain b0
 have qX:=handed h2 hC b0 rfl mA wD b3 j2 LQ Mj (vals:=args.map a.eval++vs) (by simp[ji]) (λt x hx=>by
  rw[mX] at hx;split at hx
  .rename_i ak;rw[fw] at ak;rw[cL,bI ak] at hx;cases hx;have:(args.map a.eval++vs).getD t undef=a.eval args[t]:=by
        rw[aK,kL (by simpa using ak),cL,bI ak];rfl
   rw[this];exact alL h2 hC _
  .rename_i eQ;rw[fw] at eQ hx;rw[cL,aD] at hx;obtain⟨c,hc,rfl⟩:=hx;obtain⟨j,ver⟩:=c;have cC:(args.map a.eval++vs).getD t undef=vs.getD (t-args.length) undef:=by
        rw[aK,mf (by simpa using eQ),fw,aK]
   obtain⟨g1,g2⟩:=gj _ j ver hc;refine⟨.none,⟨by rw[dY];exact g1,λe=>?_⟩,λy hy=>by cases hy⟩;rw[dY] at e;obtain⟨k,hk⟩:=aqY _ j ver hc e;exact⟨k,hk,by rw[cC,g2 e,hk]⟩) (hfn:=hfn)
 refine qX.mono λe w' hh=>?_;obtain⟨v,dr,os,rfl,rfl,Md,nX⟩:=hh;obtain⟨g1,g2,g3⟩:=ai4 js 1 (l:=dr::os) ar (by simp[Env.setO,aP]) Mj wD
 obtain⟨σ1,dO,aV,hinv,bX⟩:=nX ρ1 g1 (λk j hk=>by
  have:=g2 k j hk;rw[Ee] at this;simpa using this) (λj hj aB=>by rw[g3 j hj];simp only[Env.setO];exact bF _ _ aB)
 refine⟨v,σ1,dO,aV,rfl,hinv,?_⟩;rw[g3 jv Mj];simpa [Env.setO,aP,D.tget] using bX
def ry (S:St)(dst:Option Nat)(r:St×Ty×List PI):St×List PI:=
 match dst with
 |some d=>(r.1.setR d (.dat r.2.1),r.2.2++[.setR d (.tget (.o jv) 0)])
 |none=>(r.1,r.2.2)
def ayF {a b:List PI}{O:Env}:PI.runs Z (a++b) O=(PI.runs Z a O).bind (PI.runs Z b):=by
 induction a generalizing O with
 |nil=>simp[PI.runs]
 |cons x a ih=>
  simp only[Ja,PI.runs];cases x.run Z O with
  |none=>rfl
  |some ρ1=>simp[ih]
def aaP {o:Oper}{f:Nat}{vals:List Value}(ht:∀d,o.dst=some d->¬A d/\d<a.tmps.size){r:St×Ty×List PI}(hx:(execOp a.eval o).run C.P w=.ok (.enter f vals.toArray) w)
 (hc:∀ρ1,PI.runs Z r.2.2 O=some ρ1->Calls C.P f vals.toArray w λe w'=>∃v σ1 dO aV,e=.returned v/\Inv C r.1 ρ1 σ1 dO aV w0 σ0 A a w'/\Rep C.cap σ1 r.2.1 v ((ρ1.o jv).tget 0)):ct C w0 σ0 Z S O A a w o (ry S o.dst r):=by
 intro O' ar K Q hK;simp only[Oper.wp,hx,Oper.upon];cases hd:o.dst with
 |none=>
  rw[hd] at ar hK;refine(hc O' ar).mono λe w' hh=>?_;obtain⟨v,σ1,dO,aV,rfl,hinv,bX⟩:=hh;refine hK _ _ ⟨σ1,dO,aV,?_⟩ rfl;have:(λu=>A u\/(none:Option Nat)=some u)=A:=by funext u;simp
  rw[this];exact hinv
 |some d=>
  rw[hd] at ar hK;obtain⟨t1,t2⟩:=ht d hd;simp only[ry,ayF,ay] at ar;obtain⟨ρ1,h1,h2⟩:=ar;simp[PI.runs,PI.run,PE.ev] at h2;subst h2;refine(hc ρ1 h1).mono λe w' hh=>?_;obtain⟨v,σ1,dO,aV,rfl,hinv,bX⟩:=hh;refine hK _ _ ⟨σ1,dO,aV,?_⟩ (size_put _ _ _);have:(λu=>A u\/some d=some u)=(λu=>A u\/u=d):=by funext u;simp[eq_comm]
  rw[this];exact hinv.setReg t1 (s:=.dat r.2.1) bX t2 (λ_ _ e=>by cases e)
def abk (h:Inv C S O V own hv w0 σ0 A a w)(hC:CtxOK C σ0)(bh:dQ C)(hΦ:dt C Z){f:Nat}{args:Array Operand}{ts:Array TypeId}{r:St×Ty×List PI}{o:Oper}(ht:∀d,o.dst=some d->¬A d/\d<a.tmps.size)
 (hr:sq C S f args.toList []=some r) (ho:o.op=.call {callee:=.value (.func f),args:=args,argTypes:=ts}):ct C w0 σ0 Z S O A a w o (ry S o.dst r):=by
 have hs:∃s,C.sig f=some s:=by
  simp only[sq,ay] at hr;obtain⟨s,hs,_⟩:=hr;exact⟨s,hs⟩
 obtain⟨s,hs⟩:=hs;have hx:=IJ (a:=a) (w:=w) bh hs ho;have kB:args.map a.eval=(args.toList.map a.eval++[]).toArray:=by apply tJ;simp
 rw[kB] at hx;exact aaP ht hx λρ1 ar=>abj h hC hΦ (vs:=[]) rfl (λi j ver e=>by simp at e) (λi j ver e=>by simp at e) hr ar
def AR (S:St):List (Nat×Nat)->Bool
 |[]=>true
 |c::l=>Nat.beq c.2 (S.ver c.1)&&(match S.o c.1 with|.box ..=>true|_=>false)&&AR S l
def aaU (h:Inv C S O V own hv w0 σ0 A a w):∀{l:List (Nat×Nat)},AR S l=true->∀(i j ver:Nat),l[i]?=some (j,ver)->ver=S.ver j/\∃k,hv j=.pointer (some ⟨k,0,none⟩)
 |[],_,i,j,ver,e=>by simp at e
 |c::l,hl,i,j,ver,e=>by
  simp only[AR,au] at hl;cases i with
  |zero=>
   simp at e;subst e;refine⟨aC hl.1.1,?_⟩;have h1:=hl.1.2;have h2:=h.objs j;split at h1
   .rename_i ag shs eo;simp only at eo;rw[eo] at h2;obtain⟨k,cs,T,ds,g1,_⟩:=h2;exact⟨k,g1⟩
   .cases h1
  |succ i=>simp at e;exact aaU h hl.2 i j ver e
def BW (C:Ctx)(S:St)(t:Nat)(args:List Operand):Option (St×Ty×List PI):=
 match ls S [] t with
 |.fclo f caps=>bif AR S caps then sq C S f args caps else none
 |_=>none
def abi (h:Inv C S O V own hv w0 σ0 A a w)(hC:CtxOK C σ0)(bh:dQ C)(hΦ:dt C Z){t:Nat}{args:Array Operand}{ts:Array TypeId}{r:St×Ty×List PI}{o:Oper}(ht:∀d,o.dst=some d->¬A d/\d<a.tmps.size)
 (hr:BW C S t args.toList=some r) (ho:o.op=.call {callee:=.value (.tmp t),args:=args,argTypes:=ts}):ct C w0 σ0 Z S O A a w o (ry S o.dst r):=by
 unfold BW at hr;split at hr
 case h_2=>cases hr
 rename_i f caps gG;cases hb:AR S caps<;>simp only[hb,zyy,zyx] at hr
 .cases hr
 have gU:=(nF (gs:=[]) h rfl t).1;rw[gG] at gU;obtain⟨vs,h1,h2,h3⟩:=gU;have hs:∃s,C.sig f=some s:=by
  simp only[sq,ay] at hr;obtain⟨s,hs,_⟩:=hr;exact⟨s,hs⟩
 obtain⟨s,hs⟩:=hs;have hx:=aiW (a:=a) (w:=w) (vs:=vs) (x:=.tmp t) bh hs (by simpa [Act.eval] using h1) ho;have kB:args.map a.eval++vs.toArray=(args.toList.map a.eval++vs).toArray:=by apply tJ;simp
 rw[kB] at hx;exact aaP ht hx λρ1 ar=>abj h hC hΦ h2 h3 (λi j ver e _=>(aaU h hb i j ver e).2) hr ar
def EH (S:St):List Operand->Option (List (Nat×Nat))
 |[]=>some []
 |x::xs=>
  match x with
  |.tmp t=>
   match ls S [] t with
   |.ptr j ver off=>bif Nat.beq ver (S.ver j)&&Nat.beq off 0 then(EH S xs).map λr=>(j,ver)::r else none
   |_=>none
  |_=>none
def Fi (C:Ctx)(S:St)(dst:Nat)(fn:Fn)(first caps:Array Operand):Option (St×List PI):=
 match fn,first.toList with
 |.func f,[]=>
  match C.sig f with
  |some s=>bif pM s.mode then(EH S caps.toList).map λc=>(S.setR dst (.fclo f c),[.setR dst (.con .none)]) else none
  |none=>none
 |_,_=>none
def aaV (h:Inv C S O V own hv w0 σ0 A a w):∀{l:List Operand} {c:List (Nat×Nat)},EH S l=some c->c.length=l.length/\∀(i j ver:Nat),c[i]?=some (j,ver)->ver<=S.ver j/\(ver=S.ver j->(l.map a.eval).getD i undef=hv j)
 |[],c,e=>by simp only[EH,aX] at e;subst e;exact⟨rfl,λi j ver e=>by simp at e⟩
 |x::xs,c,e=>by
  simp only[EH] at e;split at e
  case h_2=>cases e
  rename_i t;split at e
  case h_2=>cases e
  rename_i j ver off gG;cases hb:(Nat.beq ver (S.ver j)&&Nat.beq off 0)<;>simp only[hb,zyy,zyx] at e
  .cases e
  simp only[au] at hb;simp only[aD] at e;obtain⟨r,hr,rfl⟩:=e;obtain⟨g1,g2⟩:=aaV h hr;have gU:=(nF (gs:=[]) h rfl t).1;rw[gG] at gU;refine⟨by simp[g1],λi j' nJ e=>?_⟩;cases i with
  |zero=>
   simp at e;obtain⟨rfl,rfl⟩:=e;refine⟨gU.1,λe=>?_⟩;obtain⟨k,k1,k2⟩:=gU.2 e;have e0:off=0:=aC hb.2;subst e0;rw[k1,<-k2];simp[Act.eval]
  |succ i=>simp at e;simpa using g2 i j' nJ e
def aoi (h:Inv C S O V own hv w0 σ0 A a w)(ht:¬A dst)(ak:dst<a.tmps.size){fn:Fn}{first caps:Array Operand}{r:St×List PI}{o:Oper}(hr:Fi C S dst fn first caps=some r)(hd:o.dst=some dst)(ho:o.op=.makeFunc fn first caps):ct C w0 σ0 Z S O A a w o r:=by
 unfold Fi at hr;split at hr
 case h_2=>cases hr
 rename_i f RQ;split at hr
 case h_2=>cases hr
 rename_i s hs;cases hb:pM s.mode<;>simp only[hb,zyy,zyx] at hr
 .cases hr
 simp only[aD] at hr;obtain⟨c,hc,rfl⟩:=hr;obtain⟨g1,g2⟩:=aaV h hc;have FX:first=#[]:=by rw[<-vz];simpa using RQ
 refine ct.value hd λO' ar=>⟨.func (.func f) #[] (caps.toList.map a.eval).toArray,w,?_,?_⟩
 .subst FX;have e9:caps.map a.eval=(caps.toList.map a.eval).toArray:=by apply tJ;rw[xT]
  simp[execOp,ho,Instr.makeFunc,e9]
 .have hρ:O'=O.setR dst .none:=by simp[PI.runs,PI.run,PE.ev] at ar;exact ar.symm
  subst hρ;exact⟨_,_,_,h.setReg ht (s:=.fclo f c) ⟨_,rfl,by simp[g1],g2⟩ ak (λ_ _ e=>by cases e)⟩
end
end Cx
