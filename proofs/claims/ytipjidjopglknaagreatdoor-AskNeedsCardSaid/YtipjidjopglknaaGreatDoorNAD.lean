/-
  Calls.
-/
import Derived.Test.YtipjidjopglknaaGreatDoorNAC
set_option linter.unusedSimpArgs false
set_option linter.unusedVariables false
noncomputable section
namespace Cx
open Go Go.RowKit
open Classical in
def Im.noM (σ:Im):Im:=⟨σ.c,fun k=>if σ.m k=some cD then none else σ.m k⟩
theorem Rep.noM {cap:Nat→Option CSig}{σ:Im}{t:Ty}{v:Value}{d:D}(h:Rep cap σ t v d):Rep cap σ.noM t v d:=by
 induction h with
 |int k n h1 h2=>exact .int k n h1 h2
 |bool b=>exact .bool b
 |str s h=>exact .str s h
 |agg ts vs ds h1 h2 _ ho ih=>exact .agg ts vs ds h1 h2 ih ho
 |tup ts vs ds h1 h2 _ ih=>exact .tup ts vs ds h1 h2 ih
 |nil e=>exact .nil e
 |emp e a=>exact .emp e a
 |nils e=>exact .nils e
 |nsl0 e=>exact .nsl0 e
 |nsl e k o n c xs _ hx ih=>exact .nsl e k o n c xs ih hx
 |slice e k o n c xs vs hn hc hm _ hv hz ih=>
  refine .slice e k o n c xs vs hn hc hm ih hv fun e=>?_;have:=hz e;have aw:σ.m k≠some cD:=fun e'=>by rw[this] at e';exact tK (uc e')
  simp only[Im.noM,if_neg aw,this]
 |mapnil kt et=>exact .mapnil kt et
 |map kt et r gC es hm hl hx hk _ jX AG=>
  refine .map kt et r gC es ?_ hl hx jX AG;have aw:σ.m r≠some cD:=fun e=>by rw[hm] at e;cases e;exact EL hl hk rfl
  simp only[Im.noM,if_neg aw,hm]
 |ref t k o v d _ hv ih=>exact .ref t k o v d ih hv
 |fn f cs vs ds hc h1 h2 _ ih=>exact .fn f cs vs ds hc h1 h2 ih
 |fnnil aa r=>exact .fnnil aa r
def Im.plus (σ τ:Im):Im:=⟨fun k o=>(σ.c k o).or (τ.c k o),fun k=>(σ.m k).or (τ.m k)⟩
theorem Im.plus_le1 (σ τ:Im):σ.le (σ.plus τ):=⟨fun k o v h=>by simp[Im.plus,h],fun k v h=>by simp[Im.plus,h]⟩
theorem lK.det {w:World}{k:Nat}{x y:List (Value×Value)}(h:lK w k x)(g:lK w k y):x=y:=by
 rcases h with⟨_,a,c,h1,h2⟩|⟨h1,h2⟩|⟨h1,_,_,_,h2⟩<;>rcases g with⟨_,a',c',g1,g2⟩|⟨g1,g2⟩|⟨g1,_,_,_,g2⟩
 ·rw[h1] at g1;cases g1;rw[←h2,←g2]
 ·rw[h1] at g2;cases g2
 ·rw[h1] at g2;cases g2
 ·rw[h2] at g1;cases g1
 ·rw[h1,g1]
 ·rw[h2] at g2;cases g2
 ·rw[h2] at g1;cases g1
 ·rw[h2] at g2;cases g2
 ·rw[h1,g1]
theorem Im.plus_le2 {σ τ:Im}{w:World}(h:σ.ok w)(g:τ.ok w):τ.le (σ.plus τ):=by
 refine⟨fun k o v e=>?_,fun k v e=>?_⟩
 ·show(σ.c k o).or (τ.c k o)=some v;cases hc:σ.c k o with
  |none=>simpa using e
  |some u=>have:=(h.c k o u hc).symm.trans (g.c k o v e);simpa using this
 ·show(σ.m k).or (τ.m k)=some v;cases hc:σ.m k with
  |none=>simpa using e
  |some u=>simpa using(h.m k u hc).det (g.m k v e)
theorem Im.plus_ok {σ τ:Im}{w:World}(h:σ.ok w)(g:τ.ok w):(σ.plus τ).ok w:=by
 refine⟨fun k o v e=>?_,fun k v e=>?_,fun k o v e=>?_⟩
 ·change (σ.c k o).or (τ.c k o)=some v at e;cases hc:σ.c k o with
  |none=>rw[hc] at e;exact g.c k o v (by simpa using e)
  |some u=>rw[hc] at e;simp at e;subst e;exact h.c k o u hc
 ·change (σ.m k).or (τ.m k)=some v at e;cases hc:σ.m k with
  |none=>rw[hc] at e;exact g.m k v (by simpa using e)
  |some u=>rw[hc] at e;simp at e;subst e;exact h.m k u hc
 ·change (σ.c k o).or (τ.c k o)=some _ at e;cases hc:σ.c k o with
  |none=>rw[hc] at e;exact g.f k o v (by simpa using e)
  |some u=>rw[hc] at e;simp at e;subst e;exact h.f k o v hc
theorem Im.plus_c {σ τ:Im}{k o:Nat}{v:Value}(h:(σ.plus τ).c k o=some v):σ.c k o=some v∨τ.c k o=some v:=by
 change (σ.c k o).or (τ.c k o)=some v at h;cases hc:σ.c k o with
 |none=>rw[hc] at h;exact .inr (by simpa using h)
 |some u=>rw[hc] at h;exact .inl (by simpa using h)
theorem Im.plus_m {σ τ:Im}{k:Nat}{v:List (Value×Value)}(h:(σ.plus τ).m k=some v):σ.m k=some v∨τ.m k=some v:=by
 change (σ.m k).or (τ.m k)=some v at h;cases hc:σ.m k with
 |none=>rw[hc] at h;exact .inr (by simpa using h)
 |some u=>rw[hc] at h;exact .inl (by simpa using h)
def Ty.pureT:Ty→Bool
 |.int _|.bool|.str|.nils _=>true
 |_=>false
def Ty.pure:Ty→Bool
 |.tup ts=>ts.all Ty.pureT
 |.agg ts=>ts.all Ty.pureT
 |t=>Ty.pureT t
theorem Rep.pureT {cap:Nat→Option CSig}{σ τ:Im}{t:Ty}{v:Value}{d:D}(h:Rep cap σ t v d)(hp:t.pureT=true):Rep cap τ t v d:=by
 cases h<;>simp[Ty.pureT] at hp<;>constructor<;>assumption
theorem Rep.pure {cap:Nat→Option CSig}{σ τ:Im}{t:Ty}{v:Value}{d:D}(h:Rep cap σ t v d)(hp:t.pure=true):Rep cap τ t v d:=by
 cases h with
 |agg ts vs ds h1 h2 h ho=>exact .agg ts vs ds h1 h2 (fun i t hi=>(h i t hi).pureT (bF.1 hp t (jM hi))) ho
 |tup ts vs ds h1 h2 h=>exact .tup ts vs ds h1 h2 (fun i t hi=>(h i t hi).pureT (bF.1 hp t (jM hi)))
 |int k n h1 h2=>exact .int k n h1 h2
 |bool b=>exact .bool b
 |str s h=>exact .str s h
 |nils e=>exact .nils e
 |_=>simp[Ty.pure,Ty.pureT] at hp
def V0 (C:Ctx)(σ':Im)(B:Nat)(w':World)(ow:Nat→Option Nat)(i:Nat):RC→Value→D→Prop
 |.dat t,v,d=>t.one=true∧Rep C.cap σ' t v d
 |.row T e,v,d=>∃cells xs,d=.list xs∧w'.ownsRow B T e.size v xs.length cells∧eF C.cap σ' e cells xs∧∀k,v.ownBlock=some k→ow k=some i
def l8 (C:Ctx)(s:Sig)(σ':Im)(w w':World)(v:Value)(d:D):Prop:=
 match s.mode with
 |.dat=>Rep C.cap σ' s.res v d
 |.it _=>True
 |.ob ..=>True
 |.rows l=>∃(vs:List Value) (ds:List D) (ow:Nat→Option Nat),v=.agg vs.toArray∧d=.agg ds∧vs.length=l.length∧ds.length=l.length∧(∀(i:Nat) (c:RC),l[i]?=some c→V0 C σ' w.heap.size w' ow i c (vs.getD i undef) (ds.getD i .none))∧
   ∀k i,ow k=some i→w.heap.size≤k∧k<w'.heap.size∧(∀o,σ'.c k o=none)∧σ'.m k=none
 |.row T e=>∃cells xs,d=.list xs∧w'.ownsRow w.heap.size T e.size v xs.length cells∧eF C.cap σ' e cells xs∧∀k,v.ownBlock=some k→(∀o,σ'.c k o=none)∧σ'.m k=none
def po (C:Ctx)(σ:Im)(ts:List Ty)(args:List Value)(ds:List D):Prop:=
 args.length=ts.length∧ds.length=ts.length∧∀(i:Nat) (t:Ty),ts[i]?=some t→Rep C.cap σ t (args.getD i undef) (ds.getD i .none)
def gh (C:Ctx)(f:Nat)(s:Sig)(ds:List D)(d:D):Prop:=
 ∀(σ:Im) (w:World) (args:Array Value),σ.ok w→CtxOK C σ→po C σ s.args args.toList ds→
  Calls C.P f args w fun e w'=>∃v σ',e=.returned v∧σ.le σ'∧σ'.ok w'∧Below w.heap.size w w'∧
   (∀k o x,σ'.c k o=some x→σ.c k o=some x∨w.heap.size≤k)∧(∀k x,σ'.m k=some x→σ.m k=some x∨w.heap.size≤k)∧l8 C s σ' w w' v d
def eD:List (Nat×Ob)→Nat→Ob
 |[],_=>.dead
 |x::l,j=>bif Nat.beq x.1 j then x.2 else eD l j
def nr:List (Nat×Ob)→List D→Nat→D
 |x::l,d::ds,j=>bif Nat.beq x.1 j then d else nr l ds j
 |_,_,_=>.none
def fY (shs:List Sh)(obs:List (Nat×Ob)):St:=⟨fun t=>shs.getD t .none,fun j=>eD obs j,fun _=>0⟩
def mE (obs:List (Nat×Ob))(ds os:List D):Env:=⟨fun t=>ds.getD t .none,fun j=>nr obs os j⟩
def nl:Sh→Bool
 |.dat _=>true
 |_=>false
def oG:Mode→Bool
 |.ob ..=>true
 |_=>false
def tw:Sh→Bool
 |.none|.dat _|.obj ..|.ptr ..|.fclo ..=>true
 |_=>false
def Kg:Ob→Bool
 |.row ..|.mp ..=>true
 |.box _ shs=>shs.all tw
 |_=>false
def xx (shs:List Sh)(obs:List (Nat×Ob)):Bool:=shs.all tw&&obs.all fun x=>Kg x.2
def JM:List Sh→List (Nat×Ob)→Option (TypeId×Ty×List Ty)
 |.obj 0 0::l,[(0,.row T e),(1,.tr)]=>(WY l).map fun ts=>(T,e,ts)
 |_,_=>none
def B4 (C:Ctx)(f:Nat)(T:TypeId)(e:Ty)(ts:List Ty)(ds:List D)(d:D):Prop:=
 ∀(N:Nat) (σ:Im) (w:World) (v:Value) (args:List Value) (xs:List D) (cells:List Value) (ds':List D),ds=.list xs::ds'→σ.ok w→CtxOK C σ→N≤w.heap.size→w.ownsRow N T e.size v xs.length cells→eF C.cap σ e cells xs→
  (∀k,v.ownBlock=some k→k<w.heap.size∧(∀o,σ.c k o=none)∧σ.m k=none)→po C σ ts args ds'→
  Calls C.P f (v::args).toArray w fun x w'=>∃v' j4 dj,x=.returned v'∧d=.list j4∧Below N w w'∧(∀k,k<w.heap.size→v.ownBlock≠some k→w'.heap[k]?=w.heap[k]?)∧
   w'.ownsRow N T e.size v' j4.length dj∧eF C.cap σ e dj j4∧∀k,v'.ownBlock=some k→(v.ownBlock=some k∨w.heap.size≤k)∧k<w'.heap.size
def tV (C:Ctx)(f:Nat)(shs:List Sh)(obs:List (Nat×Ob))(res:Ty)(ds:List D)(d:D):Prop:=
 ∀(N:Nat) (σ:Im) (own:Nat→Option Nat) (hv:Nat→Value) (w:World) (args:Array Value) (cx:Nat→Prop),xx shs obs=true→σ.ok w→CtxOK C σ→(∀k,σ.m k≠some cD)→N≤w.heap.size→args.size=shs.length→
  (∀k j,own k=some j→N≤k∧k<w.heap.size∧(∀o,σ.c k o=none)∧σ.m k=none)→
  (∀k,cx k→k<w.heap.size∧own k=none∧(∀o,σ.c k o=none)∧σ.m k=none)→
  (∀t,aH C (fY shs obs) (mE obs ds (ds.drop shs.length)) σ hv (shs.getD t .none) (args.getD t undef) (ds.getD t .none))→
  (∀j,cd C (fY shs obs) (mE obs ds (ds.drop shs.length)) σ own hv w N j (eD obs j))→
  Calls C.P f args w fun e w'=>∃v σ' own' hv' dr os,e=.returned v∧d=.tup (dr::os)∧os.length=obs.length∧σ.le σ'∧σ'.ok w'∧Below 0 w w'∧
   (∀k,k<w.heap.size→own k=none→w'.heap[k]?=w.heap[k]?)∧
   (∀k o x,σ'.c k o=some x→(σ.c k o=some x∨N≤k)∧¬cx k)∧(∀k x,σ'.m k=some x→(σ.m k=some x∨N≤k)∧¬cx k)∧(∀k,σ'.m k=some cD→N≤k→k<w.heap.size→own k≠none)∧
   (∀k j,own' k=some j→N≤k∧k<w'.heap.size∧(∀o,σ'.c k o=none)∧σ'.m k=none∧(k<w.heap.size→own k≠none))∧
   (∀(t:Nat) (sh:Sh),shs[t]?=some sh→nl sh=false→aH C (fY shs obs) (mE obs ds os) σ' hv' sh (args.getD t undef) (ds.getD t .none))∧
   (∀j,cd C (fY shs obs) (mE obs ds os) σ' own' hv' w' N j (eD obs j))∧Rep C.cap σ' res v dr
theorem aH.ctx {C C':Ctx}(fy:C'.cap=C.cap){S:St}{ρ:Env}{σ:Im}{hv:Nat→Value}{s:Sh}(hp:tw s=true){v:Value}{d:D}(h:aH C S ρ σ hv s v d):aH C' S ρ σ hv s v d:=by
 cases s with
 |dat t=>show Rep C'.cap σ t v d;rw[fy];exact h
 |opt gs s=>cases hp
 |eptr j ver a b=>cases hp
 |yv=>cases hp
 |agg l=>cases hp
 |_=>exact h
theorem cd.ctx {C C':Ctx}(fy:C'.cap=C.cap){S:St}{ρ:Env}{σ:Im}{own:Nat→Option Nat}{hv:Nat→Value}{w:World}{N j:Nat}{ob:Ob}(hp:Kg ob=true∨ob=.dead)(h:cd C S ρ σ own hv w N j ob):cd C' S ρ σ own hv w N j ob:=by
 rcases hp with hp|rfl
 ·cases ob with
  |row T e=>obtain⟨cells,xs,h1,h2,h3,h4⟩:=h;exact⟨cells,xs,h1,h2,by rw[fy];exact h3,h4⟩
  |mp kt et=>obtain⟨k,arr,clock,es,h1,h2,h3,h4,h5,h6,h7⟩:=h;exact⟨k,arr,clock,es,h1,h2,h3,h4,h5,h6,by rw[fy];exact h7⟩
  |box ag shs=>
   obtain⟨k,cs,T,ds,h1,h2,h3,h4,h5,h6,h7⟩:=h;exact⟨k,cs,T,ds,h1,h2,h3,h4,h5,h6,fun i s hs=>⟨(h7 i s hs).1,(h7 i s hs).2.ctx fy (bF.1 hp s (jM hs))⟩⟩
  |_=>cases hp
 ·trivial
theorem Z9 {obs:List (Nat×Ob)}(h:(obs.all fun x=>Kg x.2)=true)(j:Nat):Kg (eD obs j)=true∨eD obs j=.dead:=by
 induction obs with
 |nil=>exact .inr rfl
 |cons x l ih=>
  simp only[qJ,ao] at h;simp only[eD];cases hb:Nat.beq x.1 j
  ·exact ih h.2
  ·exact .inl h.1
theorem tV.ctx {C C':Ctx}{f:Nat}{shs:List Sh}{obs:List (Nat×Ob)}{res:Ty}{ds:List D}{d:D}(h:tV C f shs obs res ds d)(hP:C'.P=C.P)(fy:C'.cap=C.cap)(ri:C'.glob=C.glob):tV C' f shs obs res ds d:=by
 intro N σ own hv w args cx hp av hC bn hN aE bX kP h1 h2;have aT:=hp;simp only[xx,ao] at aT;have sV:∀t s,shs[t]?=some s→tw s=true:=fun t s hs=>bF.1 aT.1 s (jM hs);have hC':CtxOK C σ:=⟨fun g x hx=>by have:=hC.glob g x (by rw[ri];exact hx);rwa [fy] at this,fun g x hx=>hC.mg g x (by rw[ri];exact hx)⟩
 have:=h N σ own hv w args cx hp av hC' bn hN aE bX kP (fun t=>by
  cases hs:shs[t]? with
  |none=>rw[aJ,hs];trivial
  |some s=>have:=h1 t;rw[aJ,hs] at this ⊢;exact this.ctx fy.symm (sV t s hs)) (fun j=>(h2 j).ctx fy.symm (Z9 aT.2 j))
 rw[hP];refine this.mono fun e w' hh=>?_;obtain⟨v,σ',own',hv',dr,os,g1,g2,g3,g4,g5,g6,g7,g8,g9,g10,g11,g12,g13,g14⟩:=hh;exact⟨v,σ',own',hv',dr,os,g1,g2,g3,g4,g5,g6,g7,g8,g9,g10,g11,fun t sh hs hd=>(g12 t sh hs hd).ctx fy (sV t sh hs),fun j=>(g13 j).ctx fy (Z9 aT.2 j),by rw[fy];exact g14⟩
theorem eF.cap {c c':Nat→Option CSig}(hc:c'=c){σ:Im}{e:Ty}{cells:List Value}{xs:List D}(h:eF c σ e cells xs):eF c' σ e cells xs:=hc▸h
theorem B4.ctx {C C':Ctx}{f:Nat}{T:TypeId}{e:Ty}{ts:List Ty}{ds:List D}{d:D}(h:B4 C f T e ts ds d)(hP:C'.P=C.P)(fy:C'.cap=C.cap)(ri:C'.glob=C.glob):B4 C' f T e ts ds d:=by
 intro N σ w v args xs cells ds' h1 h2 h3 h4 h5 h6 h7 h8;rw[hP];refine(h N σ w v args xs cells ds' h1 h2 ⟨fun g x hx=>by have:=h3.glob g x (by rw[ri];exact hx);rwa [fy] at this,fun g x hx=>h3.mg g x (by rw[ri];exact hx)⟩ h4 h5 (h6.cap fy.symm) h7 ⟨h8.1,h8.2.1,fun i t hi=>by have:=h8.2.2 i t hi;rwa [fy] at this⟩).mono fun x w' hh=>?_;obtain⟨v',j4,dj,g1,g2,g3,g4,g5,g6,g7⟩:=hh;exact⟨v',j4,dj,g1,g2,g3,g4,g5,g6.cap fy,g7⟩
def gQ (C:Ctx)(f:Nat)(shs:List Sh)(obs:List (Nat×Ob))(res:Ty)(ds:List D)(d:D):Prop:=
 match JM shs obs with
 |some m=>B4 C f m.1 m.2.1 m.2.2 ds d
 |none=>tV C f shs obs res ds d
theorem gQ.ctx {C C':Ctx}{f:Nat}{shs:List Sh}{obs:List (Nat×Ob)}{res:Ty}{ds:List D}{d:D}(h:gQ C f shs obs res ds d)(hP:C'.P=C.P)(fy:C'.cap=C.cap)(ri:C'.glob=C.glob):gQ C' f shs obs res ds d:=by
 unfold gQ at h ⊢;split at h
 ·exact B4.ctx h hP fy ri
 ·exact tV.ctx h hP fy ri
theorem aaA {shs:List Sh}{obs:List (Nat×Ob)}(h:∀x,x∈obs→x.2≠.tr):JM shs obs=none:=by
 unfold JM;split
 ·exact absurd rfl (h (1,.tr) (by simp))
 ·rfl
theorem gQ.of {C:Ctx}{f:Nat}{shs:List Sh}{obs:List (Nat×Ob)}{res:Ty}{ds:List D}{d:D}(ht:∀x,x∈obs→x.2≠.tr)(h:tV C f shs obs res ds d):gQ C f shs obs res ds d:=by
 unfold gQ;rw[aaA ht];exact h
theorem gQ.plain {C:Ctx}{f:Nat}{shs:List Sh}{obs:List (Nat×Ob)}{res:Ty}{ds:List D}{d:D}(hp:xx shs obs=true)(h:gQ C f shs obs res ds d):tV C f shs obs res ds d:=by
 unfold gQ at h;rw[aaA fun x hx e=>?_] at h
 ·exact h
 ·simp only[xx,ao] at hp;have:=bF.1 hp.2 x hx;rw[e] at this;cases this
def cX (C:Ctx)(Φ:aL):Prop:=∀f ds d,Φ f ds=some d→∀s,C.sig f=some s→(oG s.mode=false→gh C f s ds d)∧∀shs obs,s.mode=.ob shs obs→gQ C f shs obs s.res ds d
def jY:List Ty→Ty→Option (List Ty)
 |[.fn ys .bool],.tup []=>some ys
 |_,_=>none
def dt (C:Ctx):Prop:=(∀f cs,C.cap f=some cs→jY cs.args cs.res=none→C.sig f=some ⟨cs.args++cs.caps,cs.res,.dat⟩)∧∀f s,C.sig f=some s→∃fn,C.P.funcs[f]?=some fn∧fn.body.isSome=true∧(fn.name== "runtime.NumGoroutine")=false
def vU (S:St):List AgC→List Nat
 |[]=>[]
 |.obj j ver::l=>bif Nat.beq ver (S.ver j)&&kY (S.o j) then j::vU S l else vU S l
 |_::l=>vU S l
def bP (S:St)(gs:List (Nat×Bool)):List Operand→List Nat
 |[]=>[]
 |x::xs=>
  match fa S gs x with
  |.obj j ver=>bif Nat.beq ver (S.ver j)&&kY (S.o j) then j::bP S gs xs else bP S gs xs
  |.agg l=>vU S l++bP S gs xs
  |_=>bP S gs xs
def ju (gs:List (Nat×Bool))(s:Sh):Sh:=
 match gs with
 |[]=>s
 |_=>.opt gs s
def St.fzs (S:St)(js:List Nat):St:=js.foldl St.fz S
def lX:List RC→List Ty
 |[]=>[]
 |.dat t::l=>t::lX l
 |.row _ e::l=>.slice e.rol::lX l
def CY (fr:List Nat)(dst:Nat)(s:Sig):Option Sig:=
 match s.mode with
 |.rows l=>bif !(fr.any (Nat.beq (2000000+dst)))&&Ty.beq s.res (.agg (lX l)) then some {s with mode:=.dat} else some s
 |_=>some s
theorem KE:∀{l:List RC} {i:Nat} {t:Ty},(lX l)[i]?=some t→(l[i]?=some (.dat t))∨∃T e,l[i]?=some (.row T e)∧t=.slice e.rol
 |[],i,t,h=>by simp[lX] at h
 |.dat u::l,0,t,h=>by simp[lX] at h;subst h;exact .inl rfl
 |.row T e::l,0,t,h=>by simp[lX] at h;exact .inr ⟨T,e,rfl,h.symm⟩
 |.dat u::l,i+1,t,h=>by simpa using KE (l:=l) (i:=i) (by simpa [lX] using h)
 |.row T e::l,i+1,t,h=>by simpa using KE (l:=l) (i:=i) (by simpa [lX] using h)
theorem RE:∀(l:List RC),(lX l).length=l.length
 |[]=>rfl
 |.dat _::l=>by simp[lX,RE l]
 |.row ..::l=>by simp[lX,RE l]
theorem gh.asDat {C:Ctx}{f:Nat}{s:Sig}{ds:List D}{d:D}{l:List RC}(hm:s.mode=.rows l)(hr:s.res=.agg (lX l))(h:gh C f s ds d):gh C f {s with mode:=.dat} ds d:=by
 intro σ w args h1 h2 h3;refine(h σ w args h1 h2 h3).mono fun e w' hh=>?_;obtain⟨v,σ',rfl,hle,av,hb,da,cQ,dG⟩:=hh;simp only[l8,hm] at dG;obtain⟨vs,ds,ow,rfl,rfl,l1,l2,dQ,qd⟩:=dG
 have hex:∀i,∃cs:List Value,∀T e,l[i]?=some (.row T e)→∃xs,ds.getD i .none=.list xs∧w'.ownsRow w.heap.size T e.size (vs.getD i undef) xs.length cs∧eF C.cap σ' e cs xs∧∀k,(vs.getD i undef).ownBlock=some k→ow k=some i:=fun i=>by
  cases hl:l[i]? with
  |none=>exact⟨[],fun _ _ h=>by cases h⟩
  |some c=>
   cases c with
   |dat t=>exact⟨[],fun _ _ h=>by cases h⟩
   |row T e=>
    obtain⟨cs,xs,g1,g2,g3,g4⟩:=dQ i _ hl;exact⟨cs,fun T' e' h=>by cases h;exact⟨xs,g1,g2,g3,g4⟩⟩
 let cs:Nat→List Value:=fun i=>Classical.choose (hex i)
 have dv:∀i T e,l[i]?=some (.row T e)→∃xs,ds.getD i .none=.list xs∧w'.ownsRow w.heap.size T e.size (vs.getD i undef) xs.length (cs i)∧eF C.cap σ' e (cs i) xs∧∀k,(vs.getD i undef).ownBlock=some k→ow k=some i:=fun i=>VE (hex i)
 let qk:Nat→Nat→Bool:=fun i k=>decide ((vs.getD i undef).ownBlock=some k)&&(match l[i]? with|some (.row ..)=>true|_=>false)
 let τ:Im:={c:=fun k o=>match ow k with|some i=>(bif qk i k then(cs i)[o]? else none)|none=>σ'.c k o,m:=fun k=>match ow k with|some i=>(bif qk i k then some hG else none)|none=>σ'.m k}
 have jT:σ'.le τ:=by
  refine⟨fun k o x hx=>?_,fun k x hx=>?_⟩
  ·cases hk:ow k with
   |none=>simp only[τ,hk];exact hx
   |some i=>have:=(qd k i hk).2.2.1 o;rw[this] at hx;cases hx
  ·cases hk:ow k with
   |none=>simp only[τ,hk];exact hx
   |some i=>have:=(qd k i hk).2.2.2;rw[this] at hx;cases hx
 have sW:∀i k,qk i k=true→∃T e,l[i]?=some (.row T e)∧(vs.getD i undef).ownBlock=some k:=fun i k hk=>by
  simp only[qk,ao,decide_eq_true_eq] at hk;obtain⟨bu,cm⟩:=hk;split at cm
  ·rename_i T e hl;exact⟨T,e,hl,bu⟩
  ·cases cm
 refine⟨_,τ,rfl,hle.trans jT,⟨fun k o x hx=>?_,fun k x hx=>?_,fun k o x hx=>?_⟩,hb,fun k o x hx=>?_,fun k x hx=>?_,?_⟩
 ·simp only[τ] at hx;split at hx
  ·rename_i i hi;cases hr:qk i k with
   |false=>rw[hr] at hx;cases hx
   |true=>
    rw[hr,cond_true] at hx;obtain⟨T,e,hl,mi⟩:=sW i k hr;obtain⟨xs,g1,g2,g3,g4⟩:=dv i T e hl;have:=g2.cells mi o x hx;rw[sy] at this;simpa using this
  ·exact av.c k o x hx
 ·simp only[τ] at hx;split at hx
  ·rename_i i hi;cases hr:qk i k with
   |false=>rw[hr] at hx;cases hx
   |true=>
    rw[hr,cond_true] at hx;cases hx;obtain⟨T,e,hl,mi⟩:=sW i k hr;obtain⟨xs,g1,g2,g3,g4⟩:=dv i T e hl;obtain⟨fN,T',fz,e'⟩:=acm g2 mi;exact .inr (.inr ⟨rfl,fN,T',fz,e'⟩)
  ·exact av.m k x hx
 ·simp only[τ] at hx;split at hx
  ·rename_i i hi;cases hr:qk i k with
   |false=>rw[hr] at hx;cases hx
   |true=>
    obtain⟨T,e,hl,mi⟩:=sW i k hr;obtain⟨xs,g1,g2,g3,g4⟩:=dv i T e hl;exact .inr (acn g2 mi o)
  ·exact av.f k o x hx
 ·simp only[τ] at hx;split at hx
  ·rename_i i hi;exact .inr (qd k i hi).1
  ·exact da k o x hx
 ·simp only[τ] at hx;split at hx
  ·rename_i i hi;exact .inr (qd k i hi).1
  ·exact cQ k x hx
 ·simp only[l8,hr];have hlen:=RE l;refine .agg (lX l) vs ds (by omega) (by omega) (fun i t hi=>?_) (fun i t hi=>?_)
  ·rcases KE hi with hl|⟨T,e,hl,rfl⟩
   ·exact(dQ i _ hl).2.mono jT
   ·obtain⟨xs,g1,g2,⟨us,g3,g4⟩,g5⟩:=dv i T e hl;rw[g1];rcases g2.2 with⟨e1,e2⟩|⟨g,cap,cur,e1,e2,e3,e4,e5,e6,e7⟩
    ·rw[e1];have:xs=[]:=LU e2;subst this;exact .nil _
    ·rw[e1];have mi:(vs.getD i undef).ownBlock=some g:=by rw[e1];rfl
     refine .slice e.rol g 0 xs.length cap xs us rfl e4 e5 (fun i x hx=>((g3 i x hx).mono jT).unf_rol) (fun j m u hj hu=>?_) (fun _=>by
      have hR:qk i g=true:=by simp only[qk,mi,hl];simp
      simp only[τ,g5 g mi,hR,cond_true])
     rw[Ty.rol_size];have hR:qk i g=true:=by simp only[qk,mi,hl];simp
     simp only[τ,g5 g mi,hR,cond_true,gS];exact g4 j m u hj hu
  ·rcases KE hi with hl|⟨T,e,hl,rfl⟩
   ·exact(dQ i _ hl).1
   ·rfl
theorem ahK {C:Ctx}{fr:List Nat}{dst f:Nat}{s s':Sig}{ds:List D}{d:D}(hs:CY fr dst s=some s')(hm:s'.mode=.dat)(h:oG s.mode=false→gh C f s ds d):gh C f s' ds d:=by
 unfold CY at hs;split at hs
 ·rename_i l hl;cases hb:(!(fr.any (Nat.beq (2000000+dst)))&&Ty.beq s.res (.agg (lX l)))<;>simp only[hb,cond_true,cond_false] at hs
  ·cases hs;rw[hl] at hm;cases hm
  ·cases hs;simp only[ao] at hb;exact gh.asDat hl (Ty.beq_eq _ _ hb.2) (h (by rw[hl];rfl))
 ·cases hs;exact h (by rw[hm];rfl)
def pO (C:Ctx)(S:St)(gs:List (Nat×Bool))(dst:Nat)(f:Nat)(args:List Operand):Option (St×Sh×List PI):=
 ((C.sig f).bind (CY C.fr dst)).bind fun s=>
   match s.mode with
   |.dat=>
    (kG C (S.fzs (bP S gs args)) gs args).bind fun u=>
      bif Ty.subs u.1 s.args then some (bif s.res.pure then S else S.fzs (bP S gs args),.dat s.res,[.call gs dst f u.2]) else Option.none
   |_=>Option.none
def C5 (C:Ctx)(S:St)(dst:Nat)(f:Nat)(args:List Operand):kK:=
 (C.sig f).bind fun s=>
    match s.mode with
    |.row T e=>
     (kG C (S.fzs (bP S [] args)) [] args).bind fun u=>
       bif Ty.subs u.1 s.args then some (mkObj (bif e.pure then S else S.fzs (bP S [] args)) dst (.row T e),[.call [] dst f u.2,.setO dst (.r dst),.setR dst (.con .none)]) else Option.none
    |_=>Option.none
def jn (dst:Nat)(l:List RC)(j:Nat):Option (Nat×TypeId×Ty):=
 bif Nat.beq (j%4096) dst&&Nat.ble 4096 j then(match l[j/4096-1]? with|some (.row T e)=>some (j/4096-1,T,e)|_=>Option.none) else Option.none
theorem adi {dst i:Nat}{l:List RC}{T:TypeId}{e:Ty}(hd:dst<4096)(h:l[i]?=some (.row T e)):jn dst l (gI dst i)=some (i,T,e):=by
 unfold jn gI;have e1:(4096*(i+1)+dst)%4096=dst:=by omega
 have e2:(4096*(i+1)+dst)/4096-1=i:=by omega
 have e3:Nat.ble 4096 (4096*(i+1)+dst)=true:=Nat.ble_eq_true_of_le (by omega);rw[e1,e2,e3,h,gR];rfl
theorem ark {dst i j:Nat}{l:List RC}{T:TypeId}{e:Ty}(h:jn dst l j=some (i,T,e)):j=gI dst i∧l[i]?=some (.row T e):=by
 unfold jn at h;cases hb:(Nat.beq (j%4096) dst&&Nat.ble 4096 j)<;>simp only[hb,cond_true,cond_false] at h
 ·cases h
 simp only[ao] at hb;have h1:=ay hb.1;have h2:=jN hb.2;split at h
 ·rename_i hl;cases h;exact⟨by unfold gI;omega,hl⟩
 ·cases h
def St.newRows (S:St)(dst:Nat)(l:List RC):St:=⟨S.r,fun j=>match jn dst l j with|some x=>.row x.2.1 x.2.2|Option.none=>S.o j,fun j=>match jn dst l j with|some _=>S.ver j+1|Option.none=>S.ver j⟩
def nz (S:St)(dst:Nat):List RC→Nat→List AgC
 |[],_=>[]
 |.dat t::l,i=>.dat t::nz S dst l (i+1)
 |.row ..::l,i=>.obj (gI dst i) (S.ver (gI dst i)+1)::nz S dst l (i+1)
def Bu (dst:Nat):List RC→Nat→List PI
 |[],_=>[]
 |.dat _::l,i=>Bu dst l (i+1)
 |.row ..::l,i=>.setO (gI dst i) (.cell (.r dst) i)::Bu dst l (i+1)
def C6 (C:Ctx)(S:St)(dst:Nat)(f:Nat)(args:List Operand):kK:=
 (C.sig f).bind fun s=>
    match s.mode with
    |.rows l=>
     (kG C (S.fzs (bP S [] args)) [] args).bind fun u=>
       bif Ty.subs u.1 s.args&&Nat.blt dst 4096 then
         some (((S.fzs (bP S [] args)).newRows dst l).setR dst (.agg (nz (S.fzs (bP S [] args)) dst l 0)),.call [] dst f u.2::Bu dst l 0) else Option.none
    |_=>Option.none
theorem adj (S:St)(dst:Nat):∀(l:List RC) (i:Nat),(nz S dst l i).length=l.length∧∀(n:Nat) (c:AgC),(nz S dst l i)[n]?=some c→(∃t,l[n]?=some (.dat t)∧c=.dat t)∨∃T e,l[n]?=some (.row T e)∧c=.obj (gI dst (i+n)) (S.ver (gI dst (i+n))+1)
 |[],i=>⟨rfl,fun n c h=>by simp[nz] at h⟩
 |x::l,i=>by
  obtain⟨h1,h2⟩:=adj S dst l (i+1);have e:∀n,i+1+n=i+(n+1):=fun n=>by omega
  cases x with
  |dat t=>
   refine⟨by simp[nz,h1],fun n c h=>?_⟩;cases n with
   |zero=>simp[nz] at h;exact .inl ⟨t,rfl,h.symm⟩
   |succ n=>simp only[nz,GK] at h ⊢;have:=h2 n c h;rwa [e] at this
  |row T y=>
   refine⟨by simp[nz,h1],fun n c h=>?_⟩;cases n with
   |zero=>simp[nz] at h;exact .inr ⟨T,y,rfl,by rw[iW];exact h.symm⟩
   |succ n=>simp only[nz,GK] at h ⊢;have:=h2 n c h;rwa [e] at this
theorem RD (Φ:aL)(dst:Nat):∀(l:List RC) (i:Nat) (ρ ρ':Env),PI.runs Φ (Bu dst l i) ρ=some ρ'→ρ'.r=ρ.r∧(∀j,(∀(n:Nat) (T:TypeId) (e:Ty),l[n]?=some (.row T e)→j≠gI dst (i+n))→ρ'.o j=ρ.o j)∧
 ∀(n:Nat) (T:TypeId) (e:Ty),l[n]?=some (.row T e)→ρ'.o (gI dst (i+n))=(ρ.r dst).c (i+n)
 |[],i,ρ,ρ',h=>by
  simp only[Bu,PI.runs,aS] at h;subst h;exact⟨rfl,fun _ _=>rfl,fun n T e h=>by simp at h⟩
 |x::l,i,ρ,ρ',h=>by
  have e:∀n,i+1+n=i+(n+1):=fun n=>by omega
  cases x with
  |dat t=>
   obtain⟨h1,h2,h3⟩:=RD Φ dst l (i+1) ρ ρ' h;refine⟨h1,fun j hj=>h2 j fun n T y hn=>by rw[e];exact hj (n+1) T y (by simpa using hn),fun n T y hn=>?_⟩;cases n with
   |zero=>simp at hn
   |succ n=>have:=h3 n T y (by simpa using hn);rwa [e] at this
  |row T0 y0=>
   simp only[Bu,PI.runs,PI.run,j8] at h;obtain⟨h1,h2,h3⟩:=RD Φ dst l (i+1) _ ρ' h;refine⟨h1,fun j hj=>?_,fun n T y hn=>?_⟩
   ·rw[h2 j fun n T y hn=>by rw[e];exact hj (n+1) T y (by simpa using hn)];exact bo _ _ (by have:=hj 0 T0 y0 rfl;rwa [iW] at this)
   ·cases n with
    |zero=>
     rw[iW,h2 _ fun n T y hn=>by unfold gI;omega];exact aK _ _ _
    |succ n=>have:=h3 n T y (by simpa using hn);rwa [e] at this
def C4 (C:Ctx)(S:St)(dst:Nat)(f:Nat)(args:List Operand):kK:=
 (C.sig f).bind fun s=>
    match s.mode,args with
    |.ob shs obs,x::xs=>
     match JM shs obs,fa S [] x with
     |some m,.obj j ver=>
      match S.o j with
      |.row T e=>
       bif Nat.beq ver (S.ver j)&&(Nat.beq T m.1&&Ty.beq e m.2.1) then
            (kG C S [] xs).bind fun u=>
             bif Ty.subs u.1 m.2.2 then some ((S.newO j (.row T e)).setR dst (.obj j (S.ver j+1)),[.call [] dst f (.o j::u.2),.setO j (.r dst),.setR dst (.con .none)]) else Option.none
       else Option.none
      |_=>Option.none
     |_,_=>Option.none
    |_,_=>Option.none
def nZ (C:Ctx)(S:St)(gs:List (Nat×Bool))(dst:Nat)(x:Operand)(args:List Operand):Option (St×Sh×List PI):=
 match use C S gs x with
 |some (.fn aa r,e)=>
  match jY aa r with
  |some _=>Option.none
  |Option.none=>
  (kG C (S.fzs (bP S gs args)) gs args).bind fun u=>
    bif Ty.subs u.1 aa then some (bif r.pure then S else S.fzs (bP S gs args),.dat r,[.callc gs dst e u.2]) else Option.none
 |_=>Option.none
theorem oc:∀(js:List Nat) (S:St),(S.fzs js).ver=S.ver∧(S.fzs js).r=S.r
 |[],S=>⟨rfl,rfl⟩
 |j::js,S=>by
  obtain⟨h1,h2⟩:=oc js (S.fz j);obtain⟨k1,k2⟩:=It S j;exact⟨h1.trans k1,h2.trans k2⟩
section
variable {C:Ctx} {S:St} {ρ:Env} {σ:Im} {own:Nat→Option Nat} {hv:Nat→Value} {w0:World} {σ0:Base} {A:Nat→Prop} {a:Act} {w:World} {gs:List (Nat×Bool)} {Φ:aL} {dst:Nat}
theorem Inv.fzs:∀(js:List Nat) {S:St} {σ:Im} {own:Nat→Option Nat},Inv C S ρ σ own hv w0 σ0 A a w→∃σ' own',σ.le σ'∧Inv C (S.fzs js) ρ σ' own' hv w0 σ0 A a w
 |[],S,σ,own,h=>⟨σ,own,.refl σ,h⟩
 |j::js,S,σ,own,h=>by
  obtain⟨σ1,dq,hle,h1⟩:=h.fz j;obtain⟨σ2,jk,jT,h2⟩:=Inv.fzs js h1;exact⟨σ2,jk,hle.trans jT,h2⟩
theorem Inv.world (h:Inv C S ρ σ own hv w0 σ0 A a w){σ':Im}{w':World}(hle:σ.le σ')(av:σ'.ok w')(hb:Below w.heap.size w w')(da:∀k o x,σ'.c k o=some x→σ.c k o=some x∨w.heap.size≤k)
 (cQ:∀k x,σ'.m k=some x→σ.m k=some x∨w.heap.size≤k):Inv C S ρ σ' own hv w0 σ0 A a w':=by
 have aE:=h.below.size;refine h.step (fun _=>False) rfl hle av (fun k o x hx=>(da k o x hx).imp id (fun e=>⟨by omega,.inr e⟩)) (fun k x hx=>(cQ k x hx).imp id (fun e=>⟨by omega,.inr e⟩)) (hb.mono aE) (.refl S hv) (fun j _=>⟨rfl,rfl,rfl,fun k hk=>⟨hk,hb.block k (h.owns k j hk).2.1⟩⟩) (fun _ hf=>hf.elim) (fun k j hk=>?_) (fun _=>id) (fun t=>.inl ⟨rfl,rfl,rfl⟩) (fun _ _=>rfl) (fun k hk _=>hb.block k hk) (fun k i hk=>.inl ⟨i,hk⟩) (fun _ hf=>hf.elim);obtain⟨g1,g2,g3,g4⟩:=h.owns k j hk;refine⟨g1,by have:=hb.size;omega,fun o=>?_,?_⟩
 ·cases hc:σ'.c k o with
  |none=>rfl
  |some x=>rcases da k o x hc with e|e
           ·rw[g3 o] at e;cases e
           ·omega
 ·cases hc:σ'.m k with
  |none=>rfl
  |some x=>rcases cQ k x hc with e|e
           ·rw[g4] at e;cases e
           ·omega
theorem CtxOK.mono {C:Ctx}{σ σ':Im}(h:CtxOK C σ)(hle:σ.le σ'):CtxOK C σ':=⟨fun g x hx=>(h.glob g x hx).mono hle,fun g x hx=>hle.m _ _ (h.mg g x hx)⟩
theorem BW (h:Inv C S ρ σ own hv w0 σ0 A a w)(hC:CtxOK C σ0)(hg:holds gs ρ=true){xs:List Operand}{u:List Ty×List PE}{ts:List Ty}(hu:kG C S gs xs=some u)(hs:Ty.subs u.1 ts=true):po C σ ts (xs.map a.eval) (PE.evs ρ u.2):=by
 obtain⟨l1,l2,aO⟩:=afa h hC hg _ _ hu;have hl:=Ty.subs_len _ _ hs;refine⟨by rw[eN];omega,by rw[PE.evs_eq,eN];omega,fun i t hi=>?_⟩;obtain⟨s,eT,cH⟩:=Ty.subs_get _ _ hs i t hi;exact(aO i s eT).sub cH
theorem Gf {o:Oper}{f:Nat}{args:Array Operand}{ts:Array TypeId}(aY:dt C){s:Sig}(hs:C.sig f=some s)(ho:o.op=.call {callee:=.value (.func f),args:=args,argTypes:=ts}):
 (execOp a.eval o).run C.P w=.ok (.enter f (args.map a.eval)) w:=by
 obtain⟨fn,h1,h2,h3⟩:=aY.2 f s hs;obtain⟨bd,gU⟩:=VY.1 h2;have h4:¬fn.name= "runtime.NumGoroutine" :=by simpa using h3
 simp[execOp,ho,resolve,Act.eval,Deferred.ofValue,invoke,callFunc,h1,gU,h4]
theorem adY {o:Oper}{x:Operand}{f:Nat}{vs:List Value}{args:Array Operand}{ts:Array TypeId}(aY:dt C){s:Sig}(hs:C.sig f=some s)(hx:a.eval x=.func (.func f) #[] vs.toArray)(ho:o.op=.call {callee:=.value x,args:=args,argTypes:=ts}):
 (execOp a.eval o).run C.P w=.ok (.enter f (args.map a.eval++vs.toArray)) w:=by
 obtain⟨fn,h1,h2,h3⟩:=aY.2 f s hs;obtain⟨bd,gU⟩:=VY.1 h2;have h4:¬fn.name= "runtime.NumGoroutine" :=by simpa using h3
 simp[execOp,ho,resolve,hx,Deferred.ofValue,invoke,callFunc,h1,gU,h4]
theorem WD (h:Inv C S ρ σ own hv w0 σ0 A a w)(hC:CtxOK C σ0)(ht:¬A dst)(af:dst<a.tmps.size)(dO:∀g,g∈gs→A g.1)(hg:holds gs ρ=true){f:Nat}{s:Sig}{js:List Nat}{vals:List Value}{ds:List D}{d:D}(kU:s.mode=.dat)(hfn:gh C f s ds d)
 (dD:∀σ1 dq,σ.le σ1→Inv C (S.fzs js) ρ σ1 dq hv w0 σ0 A a w→po C σ1 s.args vals ds) {K:Act→World→Prop} {Q:Exit→Act→World→Prop}
 (hK:∀a' w',Good C w0 σ0 ((bif s.res.pure then S else S.fzs js).setR dst (ju gs (.dat s.res))) (ρ.setR dst d) (fun u=>A u∨u=dst) a' w'→a'.tmps.size=a.tmps.size→K a' w'):
 Calls C.P f vals.toArray w (fun e kH=>match e with|.returned v=>K (a.put (some dst) v) kH|.panicked chain=>Q (.panic chain) a kH|.outgrown=>LetsOut Q):=by
 obtain⟨σ1,dq,lG,h1⟩:=Inv.fzs js h;have pY:=hfn σ1 w vals.toArray h1.ok (hC.mono h1.le) (by simpa using dD σ1 dq lG h1);refine pY.mono fun e w' hh=>?_;obtain⟨v,σ',rfl,hle,av,hb,da,cQ,dG⟩:=hh;simp only[l8,kU] at dG;refine hK _ _ ?_ (size_put _ _ _);have hh:holds gs (ρ.setR dst d)=true:=by rw[Eb (t:=dst) (d:=d) fun g hm e=>ht (by rw[←e];exact dO g hm)];exact hg
 have put:∀{S2:St} {σ2:Im} {jk:Nat→Option Nat},Inv C S2 ρ σ2 jk hv w0 σ0 A a w'→Rep C.cap σ2 s.res v d→Good C w0 σ0 (S2.setR dst (ju gs (.dat s.res))) (ρ.setR dst d) (fun u=>A u∨u=dst) (a.put (some dst) v) w':=by
  intro S2 σ2 jk h2 hr;cases gs with
  |nil=>exact⟨_,_,_,h2.setReg ht (s:=.dat s.res) hr af (fun _ _ e=>by cases e)⟩
  |cons g bO=>
   refine⟨_,_,_,h2.setReg ht (s:=.opt (g::bO) (.dat s.res)) ⟨fun _=>hr,fun e=>absurd (hh.symm.trans e) (by decide)⟩ af (fun gs s e=>?_)⟩;cases e;exact⟨dO,fun _ _ e=>by cases e⟩
 cases hp:s.res.pure with
 |true=>
  simp only[cond_true];exact put (h.world (.refl σ) (h.ok.below hb) hb (fun _ _ _ hx=>.inl hx) (fun _ _ hx=>.inl hx)) (dG.pure hp)
 |false=>
  simp only[cond_false];exact put (h1.world hle av hb da cQ) dG
theorem Cy {o:Oper}{f:Nat}{args:Array Value}{K:Act→World→Prop}{Q:Exit→Act→World→Prop}(hd:o.dst=some dst)(hx:(execOp a.eval o).run C.P w=.ok (.enter f args) w)
 (h:Calls C.P f args w (fun e kH=>match e with|.returned v=>K (a.put (some dst) v) kH|.panicked chain=>Q (.panic chain) a kH|.outgrown=>LetsOut Q)):o.wp C.P a w K Q:=by
 simp only[Oper.wp,hx,Oper.upon,hd];refine h.mono fun e kH hh=>?_;cases e<;>exact hh
theorem aik (h:Inv C S ρ σ own hv w0 σ0 A a w)(hC:CtxOK C σ0)(aY:dt C)(hΦ:cX C Φ)(ht:¬A dst)(af:dst<a.tmps.size)(dO:∀g,g∈gs→A g.1)(hg:holds gs ρ=true){f:Nat}{args:Array Operand}{ts:Array TypeId}{r:St×Sh×List PI}
 (hr:pO C S gs dst f args.toList=some r) {o:Oper} (hd:o.dst=some dst) (ho:o.op=.call {callee:=.value (.func f),args:=args,argTypes:=ts}):bV C w0 σ0 Φ S ρ A a w o (r.1.setR dst (ju gs r.2.1),r.2.2):=by
 simp only[pO,aq] at hr;obtain⟨s,⟨s0,hs,qf⟩,hr⟩:=hr;split at hr
 case h_2=>cases hr
 rename_i kU;simp only[aq] at hr;obtain⟨u,hu,hr⟩:=hr;cases bS:Ty.subs u.1 s.args<;>simp only[bS,cond_true,cond_false] at hr
 ·cases hr
 cases hr;intro ρ' ah K Q hK;simp only[PI.runs,PI.run,hg,cond_true,aq,az] at ah;obtain⟨ρ1,⟨d,bl,rfl⟩,ah⟩:=ah;cases ah;have hfn:=ahK qf kU (hΦ f _ d bl s0 hs).1;refine Cy hd (Gf aY hs ho) ?_;have jW:args.map a.eval=(args.toList.map a.eval).toArray:=by apply sf;rw[vH]
 rw[jW];have gV:(fun u=>A u∨o.dst=some u)=(fun u=>A u∨u=dst):=by funext u;rw[hd];simp[eq_comm]
 rw[gV] at hK;exact WD h hC ht af dO hg (js:=bP S gs args.toList) kU hfn (fun σ1 dq _ h1=>BW h1 hC hg hu bS) hK
theorem aia (h:Inv C S ρ σ own hv w0 σ0 A a w)(hC:CtxOK C σ0)(aY:dt C)(hΦ:cX C Φ)(ht:¬A dst)(af:dst<a.tmps.size)(dO:∀g,g∈gs→A g.1)(hg:holds gs ρ=true){x:Operand}{args:Array Operand}{ts:Array TypeId}{r:St×Sh×List PI}
 (hr:nZ C S gs dst x args.toList=some r) {o:Oper} (hd:o.dst=some dst) (ho:o.op=.call {callee:=.value x,args:=args,argTypes:=ts}):bV C w0 σ0 Φ S ρ A a w o (r.1.setR dst (ju gs r.2.1),r.2.2):=by
 unfold nZ at hr;split at hr
 case h_2=>cases hr
 rename_i aa r0 e Pf;split at hr
 case h_1=>cases hr
 rename_i On;simp only[aq] at hr;obtain⟨u,hu,hr⟩:=hr;cases bS:Ty.subs u.1 aa<;>simp only[bS,cond_true,cond_false] at hr
 ·cases hr
 cases hr;have hx:=cr h hC hg Pf;intro ρ' ah K Q hK;simp only[PI.runs,PI.run,hg,cond_true,aq] at ah;obtain⟨ρ1,oC,ah⟩:=ah;cases ah;split at oC
 case h_2=>cases oC
 rename_i f caps bK;simp only[az] at oC;obtain⟨d,bl,rfl⟩:=oC;rw[bK] at hx;generalize fR:a.eval x=xv at hx;generalize bh:Ty.fn aa r0=ty at hx;cases hx with
 |fn f cs vs ds hc h1 h2 aO=>
  cases bh;have hs:=aY.1 f cs hc On;have hfn:=(hΦ f _ d bl _ hs).1 rfl;refine Cy hd (adY aY hs fR ho) ?_;have jW:args.map a.eval++vs.toArray=(args.toList.map a.eval++vs).toArray:=by apply sf;simp
  rw[jW];have gV:(fun u=>A u∨o.dst=some u)=(fun u=>A u∨u=dst):=by funext u;rw[hd];simp[eq_comm]
  rw[gV] at hK;refine WD h hC ht af dO hg (js:=bP S gs args.toList) (s:=⟨cs.args++cs.caps,cs.res,.dat⟩) rfl hfn (fun σ1 dq lG i1=>?_) hK;obtain⟨g1,g2,g3⟩:=BW i1 hC hg hu bS;refine⟨by simp only[kL,g1,h1],by simp only[kL,g2,h2],fun i t hi=>?_⟩;rw[l7] at hi;split at hi
  ·rename_i af;have:=g3 i t hi;rw[aJ,aJ,j6 (by omega),j6 (by omega)];simpa [aJ] using this
  ·rename_i fA;have:=(aO _ t hi).mono lG;rw[aJ,aJ,lC (by omega),lC (by omega),g1,g2];simpa [aJ] using this
theorem aie (h:Inv C S ρ σ own hv w0 σ0 A a w)(hC:CtxOK C σ0)(aY:dt C)(hΦ:cX C Φ)(ht:¬A dst)(af:dst<a.tmps.size){f:Nat}{args:Array Operand}{ts:Array TypeId}{r:St×List PI}
 (hr:C5 C S dst f args.toList=some r) {o:Oper} (hd:o.dst=some dst) (ho:o.op=.call {callee:=.value (.func f),args:=args,argTypes:=ts}):bV C w0 σ0 Φ S ρ A a w o r:=by
 simp only[C5,aq] at hr;obtain⟨s,hs,hr⟩:=hr;split at hr
 case h_2=>cases hr
 rename_i T e kU;simp only[aq] at hr;obtain⟨u,hu,hr⟩:=hr;cases bS:Ty.subs u.1 s.args<;>simp only[bS,cond_true,cond_false] at hr
 ·cases hr
 cases hr;intro ρ' ah K Q hK;have DR:holds ([]:List (Nat×Bool)) ρ=true:=rfl;simp only[PI.runs,PI.run,DR,cond_true,aq,az] at ah;obtain⟨ρ1,⟨d,bl,rfl⟩,ρ2,g2,ρ3,g3,g4⟩:=ah;cases g2;cases g3;cases g4;have hfn:=(hΦ f _ d bl s hs).1 (by rw[kU];rfl);obtain⟨σ1,dq,lG,h1⟩:=Inv.fzs (bP S [] args.toList) h;have jW:args.map a.eval=(args.toList.map a.eval).toArray:=by apply sf;rw[vH]
 refine Cy hd (Gf aY hs ho) ?_;rw[jW];have pY:=hfn σ1 w (args.toList.map a.eval).toArray h1.ok (hC.mono h1.le) (by simpa using BW h1 hC rfl hu bS);refine pY.mono fun e' w' hh=>?_;obtain⟨v,σ',rfl,hle,av,hb,da,cQ,dG⟩:=hh;simp only[l8,kU] at dG;obtain⟨cells,xs,rfl,bX,jx,m6⟩:=dG;refine hK _ _ ?_ (size_put _ _ _);have gV:(fun u=>A u∨o.dst=some u)=(fun u=>A u∨u=dst):=by funext u;rw[hd];simp[eq_comm]
 rw[gV];have main:∀{S2:St} {σ1 σ2:Im} {jk:Nat→Option Nat},Inv C S2 ρ σ1 jk hv w0 σ0 A a w→σ1.le σ2→σ2.ok w'→(∀k o x,σ2.c k o=some x→σ1.c k o=some x∨w.heap.size≤k)→(∀k x,σ2.m k=some x→σ1.m k=some x∨w.heap.size≤k)→eF C.cap σ2 e cells xs→(∀k,v.ownBlock=some k→(∀o,σ2.c k o=none)∧σ2.m k=none)→
  Good C w0 σ0 (mkObj S2 dst (.row T e)) ((ρ.setO dst (.list xs)).setR dst .none) (fun u=>A u∨u=dst) (a.put (some dst) v) w':=by
  intro S2 σ1 σ2 jk h2 jT ON ame amh alq alw;have aE:=h1.below.size
  have lJ:=h2.newOσ dst (.row T e) (.list xs) v (fun k=>decide (v.ownBlock=some k)) jT ON ame amh hb (fun k hk=>bX.lt k (by simpa using hk)) (fun k hk=>alw k (by simpa using hk)) ⟨cells,xs,by simp[Env.setO,aK],by
        rw[aK];refine⟨bX.1,?_⟩;rcases bX.2 with e1|⟨g,cap,cur,e1,e2,e3⟩
        ·exact .inl e1
        ·exact .inr ⟨g,cap,cur,e1,by omega,e3⟩,alq,fun k hk=>by rw[aK] at hk;simp[fF,hk]⟩
  have Zd:=lJ.setObj ht (j:=dst) (v:=v) (aK _ _ _) af;have e:(S2.newO dst (.row T e)).ver dst=S2.ver dst+1:=aK _ _ _;rw[e] at Zd;exact⟨_,_,_,Zd⟩
 have eρ:((ρ.setR dst (.list xs)).setO dst ((PE.r dst).ev (ρ.setR dst (.list xs)))).setR dst ((PE.con D.none).ev ((ρ.setR dst (.list xs)).setO dst ((PE.r dst).ev (ρ.setR dst (.list xs)))))=(ρ.setO dst (.list xs)).setR dst .none:=by
  have:∀d1 d2:D,bT (bT ρ.r dst d1) dst d2=bT ρ.r dst d2:=by
   intro d1 d2;funext i;simp only[fj];split<;>rfl
  simp[Env.setR,Env.setO,PE.ev,aK,this]
 show Good C w0 σ0 _ _ _ _ _;rw[eρ];cases hp:e.pure with
 |true=>
  simp only[cond_true];refine main h (.refl σ) (h.ok.below hb) (fun _ _ _ hx=>.inl hx) (fun _ _ hx=>.inl hx) ?_ (fun k hk=>?_)
  ·obtain⟨vs,k1,k2⟩:=jx;exact⟨vs,fun i x hx=>(k1 i x hx).pure hp,k2⟩
  ·obtain⟨f1,f2⟩:=m6 k hk;refine⟨fun o=>?_,?_⟩
   ·cases hc:σ.c k o with
    |none=>rfl
    |some x=>have:=hle.c _ _ _ (lG.c _ _ _ hc);rw[f1 o] at this;cases this
   ·cases hc:σ.m k with
    |none=>rfl
    |some x=>have:=hle.m _ _ (lG.m _ _ hc);rw[f2] at this;cases this
 |false=>
  simp only[cond_false];exact main h1 hle av da cQ jx m6
theorem aih (h:Inv C S ρ σ own hv w0 σ0 A a w)(hC:CtxOK C σ0)(aY:dt C)(hΦ:cX C Φ)(ht:¬A dst)(af:dst<a.tmps.size){f:Nat}{args:Array Operand}{ts:Array TypeId}{r:St×List PI}
 (hr:C6 C S dst f args.toList=some r) {o:Oper} (hd:o.dst=some dst) (ho:o.op=.call {callee:=.value (.func f),args:=args,argTypes:=ts}):bV C w0 σ0 Φ S ρ A a w o r:=by
 simp only[C6,aq] at hr;obtain⟨s,hs,hr⟩:=hr;split at hr
 case h_2=>cases hr
 rename_i l kU;simp only[aq] at hr;obtain⟨u,hu,hr⟩:=hr;cases bS:(Ty.subs u.1 s.args&&Nat.blt dst 4096)<;>simp only[bS,cond_true,cond_false] at hr
 ·cases hr
 cases hr;simp only[ao,iX] at bS;obtain⟨bS,rh⟩:=bS;intro ρ' ah K Q hK;have DR:holds ([]:List (Nat×Bool)) ρ=true:=rfl;simp only[PI.runs,PI.run,DR,cond_true,aq,az] at ah;obtain⟨ρ1,⟨d,bl,rfl⟩,ah⟩:=ah;have hfn:=(hΦ f _ d bl s hs).1 (by rw[kU];rfl);obtain⟨σ1,dq,lG,h1⟩:=Inv.fzs (bP S [] args.toList) h;generalize S.fzs (bP S [] args.toList)=S1 at hu h1 hK ⊢;have jW:args.map a.eval=(args.toList.map a.eval).toArray:=by apply sf;rw[vH]
 refine Cy hd (Gf aY hs ho) ?_;rw[jW];have pY:=hfn σ1 w (args.toList.map a.eval).toArray h1.ok (hC.mono h1.le) (by simpa using BW h1 hC rfl hu bS);refine pY.mono fun e' w' hh=>?_;obtain⟨v,σ',rfl,hle,av,hb,da,cQ,dG⟩:=hh;simp only[l8,kU] at dG;obtain⟨vs,ds,ow,rfl,rfl,l1,l2,dQ,qd⟩:=dG;refine hK _ _ ?_ (size_put _ _ _);have gV:(fun u=>A u∨o.dst=some u)=(fun u=>A u∨u=dst):=by funext u;rw[hd];simp[eq_comm]
 rw[gV];obtain⟨r1,r2,r3⟩:=RD Φ dst l 0 _ ρ' ah;simp only[gS] at r2 r3;have adB:(ρ.setR dst (.agg ds)).r dst=.agg ds:=aK _ _ _;rw[adB] at r3;have aE:=h1.below.size
 let W:Nat→Prop:=fun j=>∃x,jn dst l j=some x
 let own':Nat→Option Nat:=fun k=>match ow k with
  |some i=>some (gI dst i)
  |none=>match dq k with
   |some j=>match jn dst l j with|some _=>none|none=>some j
   |none=>none
 let hv':Nat→Value:=fun j=>match jn dst l j with|some x=>vs.getD x.1 undef|none=>hv j
 have OC:∀j,¬W j→jn dst l j=none:=fun j hj=>by
  cases e:jn dst l j with
  |none=>rfl
  |some x=>exact absurd ⟨x,e⟩ hj
 have fU:∀j,¬W j→ρ'.o j=ρ.o j:=fun j hj=>r2 j fun n T e hn e1=>hj ⟨(n,T,e),by rw[e1];exact adi rh hn⟩
 have wN:∀k j,dq k=some j→ow k=none:=fun k j hk=>by
  cases e:ow k with
  |none=>rfl
  |some i=>have:=qd k i e;have:=h1.owns k j hk;omega
 have rf:Compat S1 hv ((S1.newRows dst l).setR dst (.agg (nz S1 dst l 0))) hv':=⟨fun j=>by
  show S1.ver j≤(match jn dst l j with|some _=>S1.ver j+1|none=>S1.ver j);split
  ·exact Nat.le_succ _
  ·exact bf _,fun j e=>by
  have e:(match jn dst l j with|some _=>S1.ver j+1|none=>S1.ver j)=S1.ver j:=e;show(match jn dst l j with|some x=>vs.getD x.1 undef|none=>hv j)=hv j;cases hj:jn dst l j with
  |none=>rfl
  |some x=>rw[hj] at e;simp only at e;omega⟩
 refine⟨σ',own',hv',?_⟩
 refine h1.step (w':=w') W rfl hle av (fun k o x hx=>(da k o x hx).imp id fun e=>⟨by omega,.inr e⟩) (fun k x hx=>(cQ k x hx).imp id fun e=>⟨by omega,.inr e⟩) (hb.mono aE) rf
  (fun j hj=>⟨?_,fU j hj,?_,fun k hk=>⟨?_,hb.block k (h1.owns k j hk).2.1⟩⟩) (fun j hj=>?_) (fun k i hk=>?_) (fun _=>.inl) (fun t=>?_) (fun t hA=>?_) (fun k hk _=>hb.block k hk) (fun k i hk=>?_) (fun j hj=>?_)
 ·show(match jn dst l j with|some x=>Ob.row x.2.1 x.2.2|none=>S1.o j)=S1.o j;rw[OC j hj]
 ·show(match jn dst l j with|some x=>vs.getD x.1 undef|none=>hv j)=hv j;rw[OC j hj]
 ·show own' k=some j;simp only[own',wN k j hk,hk,OC j hj]
 ·obtain⟨⟨i,T,e⟩,hx⟩:=hj;obtain⟨rfl,hi⟩:=ark hx;show cd C _ ρ' σ' own' hv' w' w0.heap.size (gI dst i) (match jn dst l (gI dst i) with|some x=>Ob.row x.2.1 x.2.2|none=>S1.o (gI dst i));rw[hx];obtain⟨cells,xs,g1,g2,g3,g4⟩:=dQ i _ hi;have e2:hv' (gI dst i)=vs.getD i undef:=by simp only[hv',hx]
  refine⟨cells,xs,?_,?_,g3,fun k hk=>?_⟩
  ·rw[r3 i T e hi];simpa [D.c,D.cells] using g1
  ·rw[e2];refine⟨g2.1,?_⟩;rcases g2.2 with e1|⟨g,cap,cur,e1,e3,e4⟩
   ·exact .inl e1
   ·exact .inr ⟨g,cap,cur,e1,by omega,e4⟩
  ·rw[e2] at hk;simp only[own',g4 k hk]
 ·simp only[own'] at hk;split at hk
  ·rename_i i' df;have:=qd k i' df;exact⟨by omega,this.2.1,this.2.2.1,this.2.2.2⟩
  ·split at hk
   ·rename_i j hj;obtain⟨g1,g2,g3,g4⟩:=h1.owns k j hj;refine⟨g1,by have:=hb.size;omega,fun o=>?_,?_⟩
    ·cases hc:σ'.c k o with
     |none=>rfl
     |some x=>rcases da k o x hc with e|e
              ·rw[g3 o] at e;cases e
              ·omega
    ·cases hc:σ'.m k with
     |none=>rfl
     |some x=>rcases cQ k x hc with e|e
              ·rw[g4] at e;cases e
              ·omega
   ·cases hk
 ·by_cases hu:t=dst
  ·subst hu;refine .inr ⟨?_,fun gs s e=>?_⟩
   ·rw[ye];have e3:ρ'.r t=.agg ds:=by rw[r1];exact adB
    simp only[St.setR,aK,af,and_self,if_true,e3];obtain⟨q1,q2⟩:=adj S1 t l 0;refine⟨vs,ds,rfl,rfl,by omega,by omega,fun i c hc=>?_⟩;rcases q2 i c hc with⟨ty,hl,rfl⟩|⟨T,e,hl,rfl⟩
    ·exact dQ i _ hl
    ·rw[gS];have hx:=adi rh hl;refine⟨?_,fun _=>?_⟩
     ·show S1.ver (gI t i)+1≤(match jn t l (gI t i) with|some _=>S1.ver (gI t i)+1|none=>S1.ver (gI t i));rw[hx];exact bf _
     ·simp only[hv',hx]
   ·simp only[St.setR,aK] at e;cases e
  ·refine .inl ⟨bo _ _ hu,?_,?_⟩
   ·rw[ye];simp[hu]
   ·rw[r1];exact bo _ _ hu
 ·rw[r1];exact bo _ _ (fun e=>ht (e▸hA))
 ·simp only[own'] at hk;split at hk
  ·rename_i i' df;exact .inr (qd k i' df).1
  ·split at hk
   ·rename_i j hj;exact .inl ⟨j,hj⟩
   ·cases hk
 ·obtain⟨x,hx⟩:=hj;show(match jn dst l j with|some x=>Ob.row x.2.1 x.2.2|none=>S1.o j)≠.tr;rw[hx];intro e;cases e
theorem aic (h:Inv C S ρ σ own hv w0 σ0 A a w)(hC:CtxOK C σ0)(aY:dt C)(hΦ:cX C Φ)(ht:¬A dst)(af:dst<a.tmps.size){f:Nat}{args:Array Operand}{ts:Array TypeId}{r:St×List PI}
 (hr:C4 C S dst f args.toList=some r) {o:Oper} (hd:o.dst=some dst) (ho:o.op=.call {callee:=.value (.func f),args:=args,argTypes:=ts}):bV C w0 σ0 Φ S ρ A a w o r:=by
 simp only[C4,aq] at hr;obtain⟨s,hs,hr⟩:=hr;split at hr
 case h_2=>cases hr
 rename_i shs obs x xs kU dD;split at hr
 case h_2=>cases hr
 rename_i m j ver lH fV;split at hr
 case h_2=>cases hr
 rename_i T e eo;cases hb:(Nat.beq ver (S.ver j)&&(Nat.beq T m.1&&Ty.beq e m.2.1))<;>simp only[hb,cond_true,cond_false] at hr
 ·cases hr
 simp only[ao] at hb;have dz:=ay hb.1;have hT:=ay hb.2.1;have he:=Ty.beq_eq _ _ hb.2.2;simp only[aq] at hr;obtain⟨u,hu,hr⟩:=hr;cases bS:Ty.subs u.1 m.2.2<;>simp only[bS,cond_true,cond_false] at hr
 ·cases hr
 cases hr;intro ρ' ah K Q hK;have DR:holds ([]:List (Nat×Bool)) ρ=true:=rfl;simp only[PI.runs,PI.run,DR,cond_true,aq,az] at ah;obtain⟨ρ1,⟨d,bl,rfl⟩,ρ2,g2,ρ3,g3,g4⟩:=ah;cases g2;cases g3;cases g4;have hfn:=(hΦ f _ d bl s hs).2 shs obs kU;unfold gQ at hfn;rw[lH] at hfn;simp only at hfn;rw[←hT,←he] at hfn;have cn:=(rV h (gs:=[]) rfl x).1;rw[fV] at cn;have cn:=cn.2 dz;have aX:=h.objs j;rw[eo] at aX;obtain⟨cells,ys,h1,h2,h3,h4⟩:=aX;have jW:args.map a.eval=(a.eval x::xs.map a.eval).toArray:=by apply sf;rw[vH,dD];rfl
 refine Cy hd (Gf aY hs ho) ?_;rw[jW,cn];have aE:=h.below.size
 have pY:=hfn w0.heap.size σ w (hv j) (xs.map a.eval) ys cells (PE.evs ρ u.2) (by simp[PE.evs,PE.ev,h1]) h.ok (hC.mono h.le) aE h2 h3 (fun k hk=>by
  have:=h.owns k j (h4 k hk);exact this.2) (BW h hC rfl hu bS)
 refine pY.mono fun e' w' hh=>?_;obtain⟨v',j4,dj,rfl,rfl,DF,wN,amu,alp,IN⟩:=hh;refine hK _ _ ?_ (size_put _ _ _);have gV:(fun u=>A u∨o.dst=some u)=(fun u=>A u∨u=dst):=by funext u;rw[hd];simp[eq_comm]
 rw[gV]
 have Ph:=h.updO j (.row T e) (.list j4) v' (fun k=>decide (v'.ownBlock=some k)) DF (fun k hk aw=>wN k hk (fun e=>aw (h4 k e))) (fun k hk=>by
  have bm:v'.ownBlock=some k:=by simpa using hk
  exact⟨(IN k bm).1.imp (h4 k) id,(IN k bm).2⟩)
  ⟨dj,j4,by simp[Env.setO,aK],by rw[aK];exact amu,alp,fun k hk=>by rw[aK] at hk;simp[fF,hk]⟩
 have h9:=Ph.setObj ht (j:=j) (v:=v') (aK _ _ _) af;have e1:(S.newO j (.row T e)).ver j=S.ver j+1:=aK _ _ _;rw[e1] at h9;have eρ:((ρ.setR dst (.list j4)).setO j ((PE.r dst).ev (ρ.setR dst (.list j4)))).setR dst ((PE.con D.none).ev ((ρ.setR dst (.list j4)).setO j ((PE.r dst).ev (ρ.setR dst (.list j4)))))=(ρ.setO j (.list j4)).setR dst .none:=by
  have:∀d1 d2:D,bT (bT ρ.r dst d1) dst d2=bT ρ.r dst d2:=by
   intro d1 d2;funext i;simp only[fj];split<;>rfl
  simp[Env.setR,Env.setO,PE.ev,aK,this]
 show Good C w0 σ0 _ _ _ _ _;rw[eρ];exact⟨_,_,_,h9⟩
end
def iS:Nat:=1000000013
abbrev nG:=Sh×Option (Ty×PE)
def GV (C:Ctx)(S:St)(x:Operand):nG:=(fa S [] x,use C S [] x)
def WG (c:Nat×Nat):nG:=(.ptr c.1 c.2 0,none)
def cI:List Nat→List Nat→Nat→Option Nat
 |i::is,j::js,k=>bif Nat.beq i k then some j else cI is js k
 |_,_,_=>none
def aqv:Sh→Sh→List (Nat×Nat)
 |.obj i _,.obj j _=>[(i,j)]
 |.ptr i _ _,.ptr j _ _=>[(i,j)]
 |.fclo _ a,.fclo _ b=>(a.zip b).map fun x=>(x.1.1,x.2.1)
 |_,_=>[]
def QQ:List Sh→List Sh→List (Nat×Nat)
 |a::aa,b::bs=>aqv a b++QQ aa bs
 |_,_=>[]
def aqu:Ob→Ob→List (Nat×Nat)
 |.box _ a,.box _ b=>QQ a b
 |_,_=>[]
def aaa:List (Nat×Nat)→Nat→Nat
 |[],_=>iS
 |x::l,i=>bif Nat.beq x.1 i then x.2 else aaa l i
def apl (S:St)(obs:List (Nat×Ob))(p:List (Nat×Nat)):List (Nat×Nat):=p++p.flatMap fun x=>aqu (eD obs x.1) (S.o x.2)
def Xv (S:St)(shs:List Sh)(obs:List (Nat×Ob))(acts:List nG):List Nat:=obs.map fun o=>aaa (apl S obs (QQ shs (acts.map (·.1)))) o.1
section
variable (ver:Nat→Nat) (is js:List Nat)
def Gc:List (Nat×Nat)→Option (List (Nat×Nat))
 |[]=>some []
 |x::l=>bif Nat.beq x.2 0 then(cI is js x.1).bind fun j=>(Gc l).map fun r=>(j,ver j)::r else none
def kD:Sh→Option Sh
 |.dat t=>some (.dat t)
 |.none=>some .none
 |.obj i v=>bif Nat.beq v 0 then(cI is js i).map fun j=>.obj j (ver j) else none
 |.ptr i v off=>bif Nat.beq v 0 then(cI is js i).map fun j=>.ptr j (ver j) off else none
 |.fclo f caps=>(Gc ver is js caps).map (.fclo f)
 |_=>none
def Gd:List Sh→Option (List Sh)
 |[]=>some []
 |s::l=>(kD ver is js s).bind fun a=>(Gd l).map (a::·)
def qC:Ob→Option Ob
 |.row T e=>some (.row T e)
 |.mp a b=>some (.mp a b)
 |.box ag shs=>(Gd ver is js shs).map (.box ag)
 |_=>none
end
def Dm (c:Sh):Sh→Bool
 |.none=>true
 |.dat b=>match c with|.dat a=>Ty.sub a b|_=>false
 |x=>Sh.beq c x
def zR:List Sh→List Sh→Bool
 |[],[]=>true
 |a::aa,b::bs=>Dm a b&&zR aa bs
 |_,_=>false
def zQ:Ob→Ob→Bool
 |.box x a,.box y b=>(x==y)&&zR a b
 |.row T a,.row U b=>Nat.beq T U&&Ty.beq a b
 |.mp a b,.mp c d=>Ty.beq a c&&Ty.beq b d
 |_,_=>false
def q8 (S:St)(is js:List Nat):List (Nat×Ob)→List Nat→Bool
 |[],[]=>true
 |o::obs,j::jl=>(match qC S.ver is js o.2 with|some x=>zQ (S.o j) x|none=>false)&&q8 S is js obs jl
 |_,_=>false
def Dk (S:St)(is js:List Nat)(a:nG)(s:Sh):Option PE:=
 match s with
 |.dat t=>(match a.2 with|some x=>bif Ty.sub x.1 t then some x.2 else none|none=>none)
 |.none=>some (.con .none)
 |s=>(match kD S.ver is js s with|some x=>bif Sh.beq a.1 x then some (.con .none) else none|none=>none)
def uv (S:St)(is js:List Nat):List nG→List Sh→Option (List PE)
 |[],[]=>some []
 |a::aa,s::ss=>(Dk S is js a s).bind fun e=>(uv S is js aa ss).map (e::·)
 |_,_=>none
def pM:List Sh→List Nat
 |[]=>[]
 |.obj i _::l=>i::pM l
 |.ptr i _ _::l=>i::pM l
 |.fclo _ c::l=>c.map (·.1)++pM l
 |_::l=>pM l
def aC (l:List Nat)(x:Nat):Bool:=l.any (Nat.beq x)
def vD (ver:Nat→Nat)(shs:List Sh)(is js:List Nat):Nat→Nat:=fun j=>match cI js is j with|some i=>bif aC (pM shs) i then ver j else ver j+1|none=>ver j
def St.handed (S:St)(shs:List Sh)(obs:List (Nat×Ob))(is js:List Nat):St:=
 ⟨S.r,fun j=>match cI js is j with|some i=>(match qC (vD S.ver shs is js) is js (eD obs i) with|some o=>o|none=>.dead)|none=>S.o j,vD S.ver shs is js⟩
def zT (S:St):List Operand→List Sh→List Nat
 |x::xs,s::ss=>(bif nl s then bP S [] [x] else[])++zT S xs ss
 |_,_=>[]
def Gk:List Nat→Nat→List PI
 |[],_=>[]
 |j::js,k=>.setO j (.tget (.o iS) k)::Gk js (k+1)
def Nj (S:St)(res:Ty)(f:Nat)(shs:List Sh)(obs:List (Nat×Ob))(acts:List nG)(is js:List Nat):Option (St×Ty×List PI):=
 (uv S is js acts shs).bind fun es=>
    bif xx shs obs&&(gM is&&gM js&&q8 S is js obs js&&oF (S.o iS)&& !aC js iS) then some (S.handed shs obs is js,res,.mcall iS f (es++js.map .o)::Gk js 1) else none
def Nk (C:Ctx)(S:St)(res:Ty)(f:Nat)(shs:List Sh)(obs:List (Nat×Ob))(acts:List nG):Option (St×Ty×List PI):=
 Nj S res f shs obs acts (obs.map (·.1)) (Xv S shs obs acts)
def qX (C:Ctx)(S:St)(f:Nat)(args:List Operand)(caps:List (Nat×Nat)):Option (St×Ty×List PI):=
 (C.sig f).bind fun s=>
    match s.mode with
    |.ob shs obs=>Nk C (S.fzs (zT S args shs)) s.res f shs obs (args.map (GV C (S.fzs (zT S args shs)))++caps.map WG)
    |_=>none
theorem ZD {l:List Nat}{x:Nat}:aC l x=true↔x∈l:=by
 unfold aC;rw[vM];exact⟨fun⟨y,hy,h⟩=>by rw[ay h];exact hy,fun h=>⟨x,h,gR x⟩⟩
theorem Z5:∀{is js:List Nat} {i j:Nat},cI is js i=some j→∃k:Nat,is[k]?=some i∧js[k]?=some j
 |[],_,i,j,h=>by cases h
 |_::_,[],i,j,h=>by cases h
 |x::is,y::js,i,j,h=>by
  simp only[cI] at h;cases hb:Nat.beq x i<;>simp only[hb,cond_true,cond_false] at h
  ·obtain⟨k,h1,h2⟩:=Z5 h;exact⟨k+1,h1,h2⟩
  ·cases h;exact⟨0,by rw[ay hb];rfl,rfl⟩
theorem JC:∀{is js:List Nat} {i j k:Nat},is.Nodup→is[k]?=some i→js[k]?=some j→cI is js i=some j
 |[],_,i,j,k,_,h,_=>by simp at h
 |_::_,[],i,j,k,_,_,h=>by simp at h
 |x::is,y::js,i,j,k,hn,h1,h2=>by
  simp only[cI];cases k with
  |zero=>simp at h1 h2;subst h1 h2;rw[gR];rfl
  |succ k=>
   simp at h1 h2;have aw:x≠i:=fun e=>by subst e;exact(mU.1 hn).1 (jM h1)
   rw[eH aw];exact JC (mU.1 hn).2 h1 h2
theorem JD {is js:List Nat}(h2:js.Nodup){i j:Nat}(h:cI is js i=some j):cI js is j=some i:=by
 obtain⟨k,g1,g2⟩:=Z5 h;exact JC h2 g2 g1
theorem anV (obs:List (Nat×Ob))(f:Nat→D):∀{is js:List Nat} {i j:Nat},is=obs.map (·.1)→cI is js i=some j→nr obs (js.map f) i=f j:=by
 induction obs with
 |nil=>intro is js i j h1 h2;subst h1;cases h2
 |cons x l ih=>
  intro is js i j h1 h2;subst h1;cases js with
  |nil=>cases h2
  |cons y js=>
   simp only[gk,cI] at h2;simp only[gk,nr];cases hb:Nat.beq x.1 i<;>simp only[hb,cond_true,cond_false] at h2 ⊢
   ·exact ih rfl h2
   ·cases h2;rfl
theorem Z3:∀{obs:List (Nat×Ob)} {js:List Nat} {os:List D} {i j:Nat},os.length=obs.length→cI (obs.map (·.1)) js i=some j→∃k:Nat,js[k]?=some j∧nr obs os i=os.getD k .none
 |[],_,_,i,j,_,h=>by cases h
 |_::_,[],_,i,j,_,h=>by cases h
 |_::_,_::_,[],i,j,hl,h=>by simp at hl
 |x::obs,y::js,o::os,i,j,hl,h=>by
  simp only[gk,cI] at h;simp only[nr];cases hb:Nat.beq x.1 i<;>simp only[hb,cond_true,cond_false] at h ⊢
  ·obtain⟨k,h1,h2⟩:=Z3 (obs:=obs) (js:=js) (os:=os) (by simpa using hl) h;exact⟨k+1,h1,by simpa using h2⟩
  ·cases h;exact⟨0,rfl,rfl⟩
theorem Z8:∀{obs:List (Nat×Ob)} {js:List Nat} {i:Nat},js.length=obs.length→cI (obs.map (·.1)) js i=none→eD obs i=.dead
 |[],_,i,_,_=>rfl
 |x::obs,[],i,hl,h=>by simp at hl
 |x::obs,y::js,i,hl,h=>by
  simp only[gk,cI] at h;simp only[eD];cases hb:Nat.beq x.1 i<;>simp only[hb,cond_true,cond_false] at h ⊢
  ·exact Z8 (by simpa using hl) h
  ·cases h
theorem XF {S:St}{is js:List Nat}:∀{obs:List (Nat×Ob)} {jl:List Nat},q8 S is js obs jl=true→jl.length=obs.length
 |[],[],_=>rfl
 |[],_::_,h=>by simp[q8] at h
 |_::_,[],h=>by simp[q8] at h
 |o::obs,j::jl,h=>by simp only[q8,ao] at h;simp[XF h.2]
theorem XE {S:St}{is js:List Nat}:∀{obs:List (Nat×Ob)} {jl:List Nat},q8 S is js obs jl=true→∀{i j:Nat},cI (obs.map (·.1)) jl i=some j→∃x,qC S.ver is js (eD obs i)=some x∧zQ (S.o j) x=true
 |[],_,_,i,j,h=>by cases h
 |_::_,[],_,i,j,h=>by cases h
 |o::obs,y::jl,hf,i,j,h=>by
  simp only[q8,ao] at hf;simp only[gk,cI] at h;simp only[eD];cases hb:Nat.beq o.1 i<;>simp only[hb,cond_true,cond_false] at h ⊢
  ·exact XE hf.2 h
  ·cases h;have h1:=hf.1;split at h1
   ·rename_i x hx;exact⟨x,hx,h1⟩
   ·cases h1
theorem XG:∀{a b:List Sh},zR a b=true→a.length=b.length∧∀(i:Nat) (y:Sh),b[i]?=some y→∃x,a[i]?=some x∧Dm x y=true
 |[],[],_=>⟨rfl,fun i y h=>by simp at h⟩
 |[],_::_,h=>by simp[zR] at h
 |_::_,[],h=>by simp[zR] at h
 |a::aa,b::bs,h=>by
  simp only[zR,ao] at h;obtain⟨g1,g2⟩:=XG h.2;refine⟨by simp[g1],fun i y hy=>?_⟩;cases i with
  |zero=>simp at hy;subst hy;exact⟨a,rfl,h.1⟩
  |succ i=>simp at hy;simpa using g2 i y hy
theorem SA {ver:Nat→Nat}{is js:List Nat}:∀{a b:List Sh},Gd ver is js a=some b→b.length=a.length∧∀(i:Nat) (x:Sh),a[i]?=some x→∃y,b[i]?=some y∧kD ver is js x=some y
 |[],b,h=>by simp only[Gd,aS] at h;subst h;exact⟨rfl,fun i x h=>by simp at h⟩
 |s::l,b,h=>by
  simp only[Gd,aq,az] at h;obtain⟨y,hy,r,hr,rfl⟩:=h;obtain⟨g1,g2⟩:=SA hr;refine⟨by simp[g1],fun i x hx=>?_⟩;cases i with
  |zero=>simp at hx;subst hx;exact⟨y,rfl,hy⟩
  |succ i=>simp at hx;simpa using g2 i x hx
theorem K9 {ver:Nat→Nat}{is js:List Nat}:∀{a b:List (Nat×Nat)},Gc ver is js a=some b→b.length=a.length∧∀(i x v:Nat),a[i]?=some (x,v)→∃j,b[i]?=some (j,ver j)∧cI is js x=some j∧v=0
 |[],b,h=>by simp only[Gc,aS] at h;subst h;exact⟨rfl,fun i x v h=>by simp at h⟩
 |s::l,b,h=>by
  simp only[Gc] at h;cases hb:Nat.beq s.2 0<;>simp only[hb,cond_true,cond_false] at h
  ·cases h
  simp only[aq,az] at h;obtain⟨y,hy,r,hr,rfl⟩:=h;obtain⟨g1,g2⟩:=K9 hr;refine⟨by simp[g1],fun i x v hx=>?_⟩;cases i with
  |zero=>simp at hx;subst hx;exact⟨y,rfl,hy,ay hb⟩
  |succ i=>simp at hx;simpa using g2 i x v hx
theorem Sz {ver:Nat→Nat}{is js:List Nat}{s x:Sh}(h:kD ver is js s=some x):(∀gs s',s≠.opt gs s')∧∀gs s',x≠.opt gs s':=by
 cases s<;>simp only[kD] at h
 case none=>cases h;exact⟨(fun _ _ e=>by cases e),(fun _ _ e=>by cases e)⟩
 case dat=>cases h;exact⟨(fun _ _ e=>by cases e),(fun _ _ e=>by cases e)⟩
 case obj i v=>
  cases hb:Nat.beq v 0<;>simp only[hb,cond_true,cond_false] at h
  ·cases h
  simp only[az] at h;obtain⟨j,_,rfl⟩:=h;exact⟨(fun _ _ e=>by cases e),(fun _ _ e=>by cases e)⟩
 case ptr i v off=>
  cases hb:Nat.beq v 0<;>simp only[hb,cond_true,cond_false] at h
  ·cases h
  simp only[az] at h;obtain⟨j,_,rfl⟩:=h;exact⟨(fun _ _ e=>by cases e),(fun _ _ e=>by cases e)⟩
 case fclo f caps=>
  simp only[az] at h;obtain⟨j,_,rfl⟩:=h;exact⟨(fun _ _ e=>by cases e),(fun _ _ e=>by cases e)⟩
 all_goals cases h
section
variable {C:Ctx} {S S1:St} {ρ ρ1:Env} {σ σ1:Im} {own dq:Nat→Option Nat} {hv aQ:Nat→Value} {w0:World} {σ0:Base} {A:Nat→Prop} {a:Act} {w w1:World} {Φ:aL} {dst:Nat}
 {is js:List Nat} {shs:List Sh} {obs:List (Nat×Ob)} {ρf:Env}
theorem adK (hσ:Im.leR C.cap σ σ1){eV:Nat→Value}(fW:∀i j,cI is js i=some j→eV i=hv j){s x:Sh}(hr:kD S.ver is js s=some x){v:Value}{d:D}(h:aH C S ρ σ hv x v d):aH C (fY shs obs) ρf σ1 eV s v d:=by
 cases s<;>simp only[kD] at hr
 case none=>trivial
 case dat=>cases hr;exact hσ.rep h
 case obj i ver=>
  cases hb:Nat.beq ver 0<;>simp only[hb,cond_true,cond_false] at hr
  ·cases hr
  simp only[az] at hr;obtain⟨j,hj,rfl⟩:=hr;exact⟨by rw[ay hb];exact pA _,fun _=>by rw[fW i j hj];exact h.2 rfl⟩
 case ptr i ver off=>
  cases hb:Nat.beq ver 0<;>simp only[hb,cond_true,cond_false] at hr
  ·cases hr
  simp only[az] at hr;obtain⟨j,hj,rfl⟩:=hr;exact⟨by rw[ay hb];exact pA _,fun _=>by rw[fW i j hj];exact h.2 rfl⟩
 case fclo f caps=>
  simp only[az] at hr;obtain⟨c,hc,rfl⟩:=hr;obtain⟨g1,g2⟩:=K9 hc;obtain⟨vs,h1,h2,h3⟩:=h;refine⟨vs,h1,by omega,fun i x ver hi=>?_⟩;obtain⟨j,e1,e2,e3⟩:=g2 i x ver hi;exact⟨by rw[e3];exact pA _,fun _=>by rw[fW x j e2];exact(h3 i j _ e1).2 rfl⟩
 all_goals cases hr
theorem arQ (hσ:σ.le σ1){eV:Nat→Value}(fW:∀i j,cI is js i=some j→eV i=aQ j){s x:Sh}(hr:kD S1.ver is js s=some x){v:Value}{d:D}(h:aH C (fY shs obs) ρf σ eV s v d):aH C S1 ρ1 σ1 aQ x v d:=by
 cases s<;>simp only[kD] at hr
 case none=>cases hr;trivial
 case dat=>cases hr;exact Rep.mono hσ h
 case obj i ver=>
  cases hb:Nat.beq ver 0<;>simp only[hb,cond_true,cond_false] at hr
  ·cases hr
  simp only[az] at hr;obtain⟨j,hj,rfl⟩:=hr;exact⟨bf _,fun _=>by rw[←fW i j hj];exact h.2 (ay hb)⟩
 case ptr i ver off=>
  cases hb:Nat.beq ver 0<;>simp only[hb,cond_true,cond_false] at hr
  ·cases hr
  simp only[az] at hr;obtain⟨j,hj,rfl⟩:=hr;exact⟨bf _,fun _=>by rw[←fW i j hj];exact h.2 (ay hb)⟩
 case fclo f caps=>
  simp only[az] at hr;obtain⟨c,hc,rfl⟩:=hr;obtain⟨g1,g2⟩:=K9 hc;obtain⟨vs,h1,h2,h3⟩:=h;refine⟨vs,h1,by omega,fun i j ver hi=>?_⟩;have af:i<caps.length:=by have:=(fm.1 hi).1;omega
  obtain⟨j',e1,e2,e3⟩:=g2 i _ _ (bA af);rw[hi] at e1;cases e1;exact⟨bf _,fun _=>by rw[←fW _ j e2];exact(h3 i _ _ (bA af)).2 e3⟩
 all_goals cases hr
theorem ajb {c x:Sh}(hf:Dm c x=true){v:Value}{d:D}(h:aH C S ρ σ hv c v d):aH C S ρ σ hv x v d:=by
 cases x with
 |none=>trivial
 |dat b=>
  simp only[Dm] at hf;split at hf
  ·exact Rep.sub h hf
  ·cases hf
 |_=>simp only[Dm] at hf;rw[Sh.beq_eq _ _ hf] at h;exact h
theorem apI (hσ:Im.leR C.cap σ σ1){eV:Nat→Value}{ET:Nat→Option Nat}(fW:∀i j,cI is js i=some j→eV i=hv j)(bX:∀k j i,own k=some j→cI js is j=some i→ET k=some i)(bn:js.Nodup){i j N:Nat}(dk:cI is js i=some j)(hρ:ρf.o i=ρ.o j){ob x:Ob}
 (hr:qC S.ver is js ob=some x) (hf:zQ (S.o j) x=true) (h:cd C S ρ σ own hv w N j (S.o j)):cd C (fY shs obs) ρf σ1 ET eV w N i ob:=by
 have iz:=JD bn dk;cases ob<;>simp only[qC] at hr
 case row T e=>
  cases hr;cases ho:S.o j<;>rw[ho] at hf h<;>simp only[zQ,ao] at hf<;>try (cases hf;done)
  obtain⟨cells,xs,h1,h2,h3,h4⟩:=h;rw[ay hf.1,Ty.beq_eq _ _ hf.2] at*;exact⟨cells,xs,by rw[hρ];exact h1,by rw[fW i j dk];exact h2,h3.monoR hσ,fun k hk=>bX k j i (h4 k (by rw[←fW i j dk];exact hk)) iz⟩
 case mp kt et=>
  cases hr;cases ho:S.o j<;>rw[ho] at hf h<;>simp only[zQ,ao] at hf<;>try (cases hf;done)
  obtain⟨k,arr,clock,es,h1,h2,h3,h4,h5,h6,h7⟩:=h;rw[Ty.beq_eq _ _ hf.1,Ty.beq_eq _ _ hf.2] at*;exact⟨k,arr,clock,es,by rw[fW i j dk];exact h1,bX k j i h2 iz,h3,by rw[hρ];exact h4,h5,h6,fun n e p he hp=>⟨hσ.rep (h7 n e p he hp).1,hσ.rep (h7 n e p he hp).2⟩⟩
 case box ag cs=>
  simp only[az] at hr;obtain⟨fN,dv,rfl⟩:=hr;cases ho:S.o j<;>rw[ho] at hf h<;>simp only[zQ,ao] at hf<;>try (cases hf;done)
  obtain⟨k,vs,T,ds,h1,h2,h3,h4,h5,h6,h7⟩:=h;obtain⟨l1,g1⟩:=XG hf.2;obtain⟨l2,g2⟩:=SA dv;refine⟨k,vs,T,ds,by rw[fW i j dk];exact h1,bX k j i h2 iz,h3,by omega,by rw[hρ];exact h5,by omega,fun n s hs=>?_⟩;obtain⟨y,hy,Em⟩:=g2 n s hs;obtain⟨z,hz,Ak⟩:=g1 n y hy;exact⟨(Sz Em).1,adK hσ fW Em (ajb Ak (h7 n z hz).2)⟩
 all_goals cases hr
theorem apJ (hσ:σ.le σ1){eV:Nat→Value}{ET:Nat→Option Nat}(fW:∀i j,cI is js i=some j→eV i=aQ j)(bX:∀k i j,ET k=some i→cI is js i=some j→dq k=some j){i j N:Nat}(dk:cI is js i=some j)(hρ:ρ1.o j=ρf.o i){ob x:Ob}
 (hr:qC S1.ver is js ob=some x) (h:cd C (fY shs obs) ρf σ ET eV w N i ob):cd C S1 ρ1 σ1 dq aQ w N j x:=by
 cases ob<;>simp only[qC] at hr
 case row T e=>
  cases hr;obtain⟨cells,xs,h1,h2,h3,h4⟩:=h;exact⟨cells,xs,by rw[hρ];exact h1,by rw[←fW i j dk];exact h2,h3.mono hσ,fun k hk=>bX k i j (h4 k (by rw[fW i j dk];exact hk)) dk⟩
 case mp kt et=>
  cases hr;obtain⟨k,arr,clock,es,h1,h2,h3,h4,h5,h6,h7⟩:=h;exact⟨k,arr,clock,es,by rw[←fW i j dk];exact h1,bX k i j h2 dk,h3,by rw[hρ];exact h4,h5,h6,fun n e p he hp=>⟨(h7 n e p he hp).1.mono hσ,(h7 n e p he hp).2.mono hσ⟩⟩
 case box ag cs=>
  simp only[az] at hr;obtain⟨fN,dv,rfl⟩:=hr;obtain⟨k,vs,T,ds,h1,h2,h3,h4,h5,h6,h7⟩:=h;obtain⟨l2,g2⟩:=SA dv;refine⟨k,vs,T,ds,by rw[←fW i j dk];exact h1,bX k i j h2 dk,h3,by omega,by rw[hρ];exact h5,by omega,fun n s hs=>?_⟩;have af:n<cs.length:=by have:=(fm.1 hs).1;omega
  obtain⟨y,hy,Em⟩:=g2 n _ (bA af);rw[hs] at hy;cases hy;exact⟨(Sz Em).2,arQ hσ fW Em (h7 n _ (bA af)).2⟩
 all_goals cases hr
theorem arP {ver:Nat→Nat}{ob x:Ob}(hr:qC ver is js ob=some x):x≠.tr:=by
 cases ob<;>simp only[qC] at hr
 case row=>cases hr;intro e;cases e
 case mp=>cases hr;intro e;cases e
 case box=>
  simp only[az] at hr;obtain⟨_,_,rfl⟩:=hr;intro e;cases e
 all_goals cases hr
theorem CtxOK.noM (h:CtxOK C σ):CtxOK C σ.noM:=⟨fun g x hx=>(h.glob g x hx).noM,fun g x hx=>by
 have:=h.mg g x hx;have aw:σ.m g≠some cD:=fun e'=>by rw[this] at e';exact tK (uc e')
 simp only[Im.noM,if_neg aw,this]⟩
def GB (C:Ctx)(S:St)(ρ:Env)(σ:Im)(hv:Nat→Value)(x:nG)(v:Value)(d:D):Prop:=aH C S ρ σ hv x.1 v d∧∀y,x.2=some y→Rep C.cap σ y.1 v (y.2.ev ρ)
theorem XC:∀{acts:List nG} {shs:List Sh} {es:List PE},uv S is js acts shs=some es→acts.length=shs.length∧es.length=shs.length∧∀(t:Nat) (s:Sh),shs[t]?=some s→∃x e,acts[t]?=some x∧es[t]?=some e∧Dk S is js x s=some e
 |[],[],es,h=>by simp only[uv,aS] at h;subst h;exact⟨rfl,rfl,fun t s h=>by simp at h⟩
 |[],_::_,es,h=>by simp[uv] at h
 |_::_,[],es,h=>by simp[uv] at h
 |x::acts,s::shs,es,h=>by
  simp only[uv,aq,az] at h;obtain⟨e,he,r,hr,rfl⟩:=h;obtain⟨g1,g2,g3⟩:=XC hr;refine⟨by simp[g1],by simp[g2],fun t s' hs=>?_⟩;cases t with
  |zero=>simp at hs;subst hs;exact⟨x,e,rfl,rfl,he⟩
  |succ t=>simp at hs;simpa using g3 t s' hs
theorem ai9 (hσ:Im.leR C.cap σ σ1){eV:Nat→Value}(fW:∀i j,cI is js i=some j→eV i=hv j){x:nG}{s:Sh}{e:PE}(hf:Dk S is js x s=some e){v:Value}{d:D}(h:GB C S ρ σ hv x v d):aH C (fY shs obs) ρf σ1 eV s v (e.ev ρ):=by
 have gen:∀s,(match kD S.ver is js s with|some y=>bif Sh.beq x.1 y then some (PE.con .none) else none|none=>none)=some e→nl s=false→aH C (fY shs obs) ρf σ1 eV s v (e.ev ρ):=by
  intro s hm hd;split at hm
  ·rename_i y hy;cases hb:Sh.beq x.1 y<;>simp only[hb,cond_true,cond_false] at hm
   ·cases hm
   have h1:=h.1;rw[Sh.beq_eq _ _ hb] at h1;have:=adK (shs:=shs) (obs:=obs) (ρf:=ρf) hσ fW hy h1;cases s with
   |dat t=>cases hd
   |opt gs s'=>exact absurd rfl ((Sz hy).1 gs s')
   |eptr j ver size off=>simp[kD] at hy
   |agg l=>simp[kD] at hy
   |_=>exact this
  ·cases hm
 unfold Dk at hf;split at hf
 ·rename_i t;split at hf
  ·rename_i y hy;cases hb:Ty.sub y.1 t<;>simp only[hb,cond_true,cond_false] at hf
   ·cases hf
   cases hf;exact hσ.rep ((h.2 y hy).sub hb)
  ·cases hf
 ·trivial
 ·rename_i lI p9;refine gen _ hf ?_;cases s<;>first|rfl|exact absurd rfl (lI _)
theorem ahU {eV Pk:Nat→Value}{σ σ':Im}{ρf ρf':Env}{args:Nat→Value}{ds ds':Nat→D}(h1:∀(t:Nat) (s:Sh),shs[t]?=some s→aH C (fY shs obs) ρf σ eV s (args t) (ds t))(h2:∀(t:Nat) (s:Sh),shs[t]?=some s→nl s=false→aH C (fY shs obs) ρf' σ' Pk s (args t) (ds' t))
 (hz:∀s,s∈shs→∃x,kD S.ver is js s=some x) {i:Nat} (hi:i∈pM shs):Pk i=eV i:=by
 have key:∀(l:List Sh),(∀s,s∈l→∃t:Nat,shs[t]?=some s)→i∈pM l→Pk i=eV i:=by
  intro l
  induction l with
  |nil=>intro _ h;cases h
  |cons s l ih=>
   intro hl hi;obtain⟨t,ht⟩:=hl s (dB ..);have Aq:∀s,s∈l→∃t:Nat,shs[t]?=some s:=fun s hs=>hl s (dy _ hs);obtain⟨x,hx⟩:=hz s (jM ht);have a1:=h1 t s ht;have a2:=h2 t s ht;cases s<;>simp only[pM] at hi
   case obj j ver=>
        simp only[kD] at hx;cases hb:Nat.beq ver 0<;>simp only[hb,cond_true,cond_false] at hx
        ·cases hx
        rcases cT.1 hi with e|e
        ·subst e;rw[←(a1.2 (ay hb)),←((a2 rfl).2 (ay hb))]
        ·exact ih Aq e
   case ptr j ver off=>
        simp only[kD] at hx;cases hb:Nat.beq ver 0<;>simp only[hb,cond_true,cond_false] at hx
        ·cases hx
        rcases cT.1 hi with e|e
        ·subst e;obtain⟨k1,e1,e2⟩:=a1.2 (ay hb);obtain⟨k2,e3,e4⟩:=(a2 rfl).2 (ay hb);rw[e2] at e4;cases e4;rw[e1,e3]
        ·exact ih Aq e
   case fclo f caps=>
        simp only[kD,az] at hx;obtain⟨c,hc,_⟩:=hx;obtain⟨_,g2⟩:=K9 hc;rcases dJ.1 hi with e|e
        ·obtain⟨y,hy,e1⟩:=ei.1 e;subst e1;obtain⟨m,hm⟩:=yw hy;obtain⟨vs,b1,b2,b3⟩:=a1;obtain⟨sc,c1,c2,c3⟩:=a2 rfl;rw[b1] at c1;have iM:vs=sc:=by simpa using c1
         subst iM;obtain⟨_,_,_,AF⟩:=g2 m y.1 y.2 hm;rw[←(b3 m y.1 y.2 hm).2 AF,←(c3 m y.1 y.2 hm).2 AF]
        ·exact ih Aq e
   all_goals exact ih Aq hi
 exact key shs (fun s hs=>yw hs) hi
end
section
variable {C:Ctx} {S:St} {ρ:Env} {σ:Im} {own:Nat→Option Nat} {hv:Nat→Value} {w0:World} {σ0:Base} {A:Nat→Prop} {a:Act} {w:World} {Φ:aL} {dst:Nat}
 {is js:List Nat} {shs:List Sh} {obs:List (Nat×Ob)}
theorem Below.weak {B:Nat}{w w':World}(h:Below 0 w w')(hk:∀k,k<B→w'.heap[k]?=w.heap[k]?):Below B w w':=⟨h.os,h.tape,h.output,h.size,hk⟩
def oN (js is:List Nat)(own:Nat→Option Nat):Nat→Option Nat:=fun k=>(own k).bind (cI js is)
def ES (js is:List Nat)(own own':Nat→Option Nat):Nat→Option Nat:=fun k=>
 match own' k with
 |some i=>cI is js i
 |none=>match own k with|some j=>(match cI js is j with|some _=>none|none=>some j)|none=>none
theorem handed (h:Inv C S ρ σ own hv w0 σ0 A a w)(hC:CtxOK C σ0)(amz:xx shs obs=true)(DU:is=obs.map (·.1))(YR:is.Nodup)(Je:js.Nodup)(IZ:q8 S is js obs js=true){acts:List nG}{es:List PE}(jy:uv S is js acts shs=some es)
 (IV:S.o iS=.dead) (Jo:iS∉js) {vals:List Value} (hvl:vals.length=acts.length) (akP:∀(t:Nat) (x:nG),acts[t]?=some x→∃d,GB C S ρ σ hv x (vals.getD t undef) d) {f:Nat} {res:Ty} {d:D}
 (hfn:tV C f shs obs res (es.map (PE.ev ρ)++js.map ρ.o) d):
 Calls C.P f vals.toArray w fun e w'=>∃v dr os,e=.returned v∧d=.tup (dr::os)∧os.length=js.length∧
  ∀ρ':Env,ρ'.r=ρ.r→(∀(k j:Nat),js[k]?=some j→ρ'.o j=os.getD k .none)→(∀j,j∉js→j≠iS→ρ'.o j=ρ.o j)→
   ∃σ1 dq aQ,Inv C (S.handed shs obs is js) ρ' σ1 dq aQ w0 σ0 A a w'∧Rep C.cap σ1 res v dr:=by
 obtain⟨al1,al2,dD⟩:=XC jy;have gr:=XF IZ;have uM:w0.heap.size≤w.heap.size:=h.below.size;obtain⟨tr,fx,cx,hf,sX⟩:=h.frame
 let eV:Nat→Value:=fun i=>match cI is js i with|some j=>hv j|none=>undef
 have fW:∀i j,cI is js i=some j→eV i=hv j:=fun i j e=>by simp only[eV,e]
 have YJ:Im.leR C.cap σ σ.noM:=⟨Rep.noM,fun _ _ _ e=>e⟩
 have D8:∀k x,σ.noM.m k=some x→σ.m k=some x∧x≠cD:=by
  intro k x e;by_cases hd:σ.m k=some cD
  ·simp[Im.noM,hd] at e
  ·simp only[Im.noM,if_neg hd] at e;exact⟨e,fun e2=>hd (by rw[e,e2])⟩
 have wH:(es.map (PE.ev ρ)++js.map ρ.o).drop shs.length=js.map ρ.o:=by rw[List.drop_append];simp[al2]
 have alB:∀t e,es[t]?=some e→(es.map (PE.ev ρ)++js.map ρ.o).getD t .none=e.ev ρ:=fun t e he=>by
  have af:=(fm.1 he).1;rw[aJ,j6 (by simpa using af),ct,he];rfl
 have amL:∀s,s∈shs→∃x,kD S.ver is js s=some x:=by
  intro s hs;obtain⟨t,ht⟩:=yw hs;obtain⟨x,e,_,_,he⟩:=dD t s ht;unfold Dk at he;split at he
  ·exact⟨_,rfl⟩
  ·exact⟨_,rfl⟩
  ·split at he
   ·rename_i y hy;exact⟨y,hy⟩
   ·cases he
 have YD:∀t,aH C (fY shs obs) (mE obs (es.map (PE.ev ρ)++js.map ρ.o) ((es.map (PE.ev ρ)++js.map ρ.o).drop shs.length)) σ.noM eV (shs.getD t .none) (vals.toArray.getD t undef) ((es.map (PE.ev ρ)++js.map ρ.o).getD t .none):=by
  intro t;cases hs:shs[t]? with
  |none=>rw[aJ,hs];trivial
  |some s=>
   obtain⟨x,e,hx,he,IY⟩:=dD t s hs;obtain⟨d',akQ⟩:=akP t x hx;rw[aJ (l:=shs),hs,alB t e he];have e1:vals.toArray.getD t undef=vals.getD t undef:=by simp[dV,aJ]
   rw[e1];exact ai9 YJ fW IY akQ
 have alN:∀i,cd C (fY shs obs) (mE obs (es.map (PE.ev ρ)++js.map ρ.o) ((es.map (PE.ev ρ)++js.map ρ.o).drop shs.length)) σ.noM (oN js is own) eV w w0.heap.size i (eD obs i):=by
  intro i;cases dk:cI is js i with
  |none=>subst DU;rw[Z8 gr dk];trivial
  |some j=>
   subst DU;obtain⟨x,hx,I0⟩:=XE IZ dk;refine apI YJ fW (fun k j' i' hk hl=>by simp only[oN,hk,j8,hl]) Je dk ?_ hx I0 (h.objs j);show nr obs _ i=_;rw[wH];exact anV obs ρ.o rfl dk
 have pY:=hfn w0.heap.size σ.noM (oN js is own) eV w vals.toArray (fun k=>(∃j,own k=some j∧cI js is j=none)∨σ.m k=some cD∨(cx k)) amz ⟨h.ok.c,fun k x e=>h.ok.m k x (D8 k x e).1,h.ok.f⟩ ((hC.mono h.le).noM)
  (fun k e=>(D8 k _ e).2 rfl) uM (by simp;omega) (fun k i hk=>by
    simp only[oN,aq] at hk;obtain⟨j,hj,_⟩:=hk;obtain⟨g1,g2,g3,g4⟩:=h.owns k j hj;exact⟨g1,g2,g3,by by_cases e:σ.m k=some cD<;>simp[Im.noM,e,g4]⟩) (fun k hk=>by
    rcases hk with⟨j,hj,hn⟩|hk|hk
    ·obtain⟨g1,g2,g3,g4⟩:=h.owns k j hj;exact⟨g2,by simp[oN,hj,hn],g3,by by_cases e:σ.m k=some cD<;>simp[Im.noM,e,g4]⟩
    ·have D5:=h.ok.m k _ hk;have hn:own k=none:=by
      cases e:own k with
      |none=>rfl
      |some j=>rw[(h.owns k j e).2.2.2] at hk;cases hk
     refine⟨D5.lt,by simp[oN,hn],fun o=>?_,by simp[Im.noM,hk]⟩;cases e:σ.c k o with
     |none=>exact e
     |some x=>
      have c1:=h.ok.c k o x e;rcases D5 with⟨m1,_⟩|⟨_,m2⟩|⟨m3,_⟩
      ·exact absurd rfl m1
      ·simp[World.cell?,m2] at c1
      ·exact absurd m3.symm tK
    ·have kR:=σ0.sub _ _ _ _ hf.F k hk;have hn:own k=none:=by
      cases e:own k with
      |none=>rfl
      |some j=>exact absurd kR (hf.own k j e)
     refine⟨σ0.lt _ _ _ _ hf.F k kR,by simp[oN,hn],fun o=>?_,?_⟩
     ·cases e:σ.c k o with
      |none=>exact e
      |some x=>exact absurd hk (hf.c k o x e)
     ·cases e:σ.m k with
      |none=>simp[Im.noM,e]
      |some x=>exact absurd hk (hf.m k x e)) YD alN
 refine pY.mono fun e w' hh=>?_;obtain⟨v,σ',own',hv',dr,os,rfl,hd,OO,hle,av,hb,jh,da,cQ,uF,YZ,wN,OM,dG⟩:=hh;refine⟨v,dr,os,rfl,hd,by omega,fun ρ' jf mq wV=>?_⟩;have D9:∀k,k<w.heap.size→own k=none→w'.heap[k]?=w.heap[k]?:=fun k hk hn=>jh k hk (by simp[oN,hn]);have amt:∀k j,own k=some j→cI js is j=none→w'.heap[k]?=w.heap[k]?:=fun k j hk hn=>jh k (h.owns k j hk).2.1 (by simp[oN,hk,hn])
 have Yj:∀k o x,σ.c k o=some x→own k=none:=fun k o x e=>by
  cases e1:own k with
  |none=>rfl
  |some j=>rw[(h.owns k j e1).2.2.1 o] at e;cases e
 have YP:∀k x,σ.m k=some x→own k=none:=fun k x e=>by
  cases e1:own k with
  |none=>rfl
  |some j=>rw[(h.owns k j e1).2.2.2] at e;cases e
 have Jj:σ.ok w':=⟨fun k o x e=>by rw[World.cell?_of_block (D9 k (h.lt e) (Yj k o x e))];exact h.ok.c k o x e,fun k x e=>(h.ok.m k x e).keep (D9 k (h.ltm e) (YP k x e)),h.ok.fz fun k o x e=>D9 k (h.lt e) (Yj k o x e)⟩
 have lG:σ.le (σ'.plus σ):=Im.plus_le2 av Jj;have jT:σ'.le (σ'.plus σ):=Im.plus_le1 σ' σ;have dv:∀k o x,(σ'.plus σ).c k o=some x→σ'.c k o=some x:=fun k o x e=>(Im.plus_c e).elim id (fun e=>hle.c k o x e)
 have Ar:∀k x,(σ'.plus σ).m k=some x→σ'.m k=some x∨(σ.m k=some x∧x=cD):=fun k x e=>(Im.plus_m e).elim .inl (fun e=>by
  by_cases hd:x=cD
  ·exact .inr ⟨e,hd⟩
  ·refine .inl (hle.m k x ?_);have:σ.m k≠some cD:=fun e2=>hd (by rw[e] at e2;cases e2;rfl);simp only[Im.noM,if_neg this,e])
 let aQ:Nat→Value:=fun j=>match cI js is j with|some i=>hv' i|none=>hv j
 have anl:∀i j,cI is js i=some j→hv' i=aQ j:=fun i j e=>by simp only[aQ,JD Je e]
 have alk:∀i,i∈pM shs→hv' i=eV i:=fun i hi=>ahU (S:=S) (is:=is) (js:=js) (args:=fun t=>vals.toArray.getD t undef) (ds:=fun t=>(es.map (PE.ev ρ)++js.map ρ.o).getD t .none) (ds':=fun t=>(es.map (PE.ev ρ)++js.map ρ.o).getD t .none) (fun t s hs=>by
  have:=YD t;rw[aJ (l:=shs),hs] at this;exact this) (fun t s hs hd=>wN t s hs hd) amL hi
 have rf:Compat S hv (S.handed shs obs is js) aQ:=by
  refine⟨fun j=>?_,fun j e=>?_⟩
  ·show S.ver j≤vD S.ver shs is js j;unfold vD;split
   ·cases aC (pM shs) _<;>simp
   ·exact bf _
  ·change vD S.ver shs is js j=S.ver j at e;show aQ j=hv j;simp only[aQ];unfold vD at e;split at e
   ·rename_i i hi;cases hb:aC (pM shs) i<;>rw[hb] at e
    ·simp at e
    ·try simp only[hi]
     rw[alk i (ZD.1 hb),fW i j (JD YR hi)]
   ·rename_i hi;try simp only[hi]
 have m6:∀k j,ES js is own own' k=some j→(k<w.heap.size→own k≠none)∧w0.heap.size≤k∧k<w'.heap.size∧(∀o,σ'.c k o=none)∧σ'.m k=none∧σ.m k≠some cD:=by
  intro k j hk;simp only[ES] at hk;split at hk
  ·rename_i i hi;obtain⟨g1,g2,g3,g4,g5⟩:=YZ k i hi;have g6:k<w.heap.size→own k≠none:=fun af e=>g5 af (by simp[oN,e]);refine⟨g6,g1,g2,g3,g4,fun e=>?_⟩;exact g6 (h.ltm e) (YP k _ e)
  ·split at hk
   ·rename_i j' bE;split at hk
    ·cases hk
    ·rename_i hn;obtain⟨g1,g2,g3,g4⟩:=h.owns k j' bE;have kP:(∃j,own k=some j∧cI js is j=none)∨σ.m k=some cD∨(cx k):=.inl ⟨j',bE,hn⟩;refine⟨fun _ e=>(by rw[bE] at e;cases e),g1,sr g2 hb.size,fun o=>?_,?_,fun e=>?_⟩
     ·cases e:σ'.c k o with
      |none=>rfl
      |some x=>exact absurd kP (da k o x e).2
     ·cases e:σ'.m k with
      |none=>rfl
      |some x=>exact absurd kP (cQ k x e).2
     ·rw[g4] at e;cases e
   ·cases hk
 refine⟨σ'.plus σ,ES js is own own',aQ,⟨h.defers.mono lG,Im.plus_ok av Jj,h.le.trans lG,h.old,fun k o x e=>?_,fun k x e=>?_,h.below.trans (Below.weak hb fun k hk=>?_),h.bw,fun k j hk=>?_,fun t=>?_,fun j=>?_,h.opts,?_⟩,dG.mono jT⟩
 ·rcases(da k o x (dv k o x e)).1 with e1|e1
  ·exact h.newc k o x e1
  ·exact .inr e1
 ·rcases Ar k x e with e1|e1
  ·rcases(cQ k x e1).1 with e2|e2
   ·exact h.newm k x (D8 k x e2).1
   ·exact .inr e2
  ·exact h.newm k x e1.1
 ·have cm:k<w0.heap.size:=sr hk h.bw;refine D9 k (by omega) ?_;cases e:own k with
  |none=>rfl
  |some j=>have:=(h.owns k j e).1;omega
 ·obtain⟨_,g1,g2,g3,g4,g5⟩:=m6 k j hk;refine⟨g1,g2,fun o=>?_,?_⟩
  ·cases e:(σ'.plus σ).c k o with
   |none=>rfl
   |some x=>have:=dv k o x e;rw[g3 o] at this;cases this
  ·cases e:(σ'.plus σ).m k with
   |none=>rfl
   |some x=>
    rcases Ar k x e with e1|e1
    ·rw[g4] at e1;cases e1
    ·exact absurd (by rw[e1.1,e1.2]) g5
 ·show aH C _ ρ' _ aQ (S.r t) _ (ρ'.r t);rw[jf]
  exact aH.mono lG rf (fun gs s e=>by
   unfold holds;rw[jf]) (fun gs s e=>(h.opts t gs s e).2) (h.regs t)
 ·show cd C _ ρ' _ _ aQ w' _ j (match cI js is j with|some i=>(match qC (vD S.ver shs is js) is js (eD obs i) with|some o=>o|none=>.dead)|none=>S.o j);split
  ·rename_i i hi;have dk:=JD YR hi;split
   ·rename_i x hx;refine apJ (S1:=S.handed shs obs is js) jT anl (fun k i' j' hk hl=>by simp only[ES,hk,hl]) dk ?_ hx (OM i);subst DU;obtain⟨k,bu,cm⟩:=Z3 (os:=os) OO dk;show ρ'.o j=nr obs os i;rw[cm];exact mq k j bu
   ·trivial
  ·rename_i hn
   have OE:j∉js:=fun hm=>by
        obtain⟨k,hk⟩:=yw hm;have af:k<is.length:=by
         have:=(fm.1 hk).1;rw[DU,eN];omega
        have:=JC Je hk (bA af);rw[hn] at this;cases this
   by_cases I6:j=iS
   ·subst I6;rw[IV];trivial
   ·refine(h.objs j).mono lG rf (by show aQ j=hv j;simp only[aQ,hn]) (wV j OE I6) (fun k hk=>⟨?_,amt k j hk hn⟩);have:own' k=none:=by
     cases e:own' k with
     |none=>rfl
     |some i=>exact absurd (by simp[oN,hk,hn]) ((YZ k i e).2.2.2.2 (h.owns k j hk).2.1)
    simp only[ES,this,hk,hn]
 ·refine⟨tr,fx,cx,⟨σ0.keep _ _ _ _ _ hf.F hb fun k hk=>?_,fun k j hk kR=>?_,fun k o x e hc=>?_,fun k x e hc=>?_,fun k e hB hk=>?_⟩,fun j hj=>?_⟩
  ·refine D9 k (σ0.lt _ _ _ _ hf.F k hk) ?_;cases e:own k with
   |none=>rfl
   |some j=>exact absurd hk (hf.own k j e)
  ·have af:=σ0.lt _ _ _ _ hf.F k kR;have:=(m6 k j hk).1 af;cases e:own k with
   |none=>exact this e
   |some j'=>exact hf.own k j' e kR
  ·exact(da k o x (dv k o x e)).2 (.inr (.inr hc))
  ·rcases Ar k x e with e1|e1
   ·exact(cQ k x e1).2 (.inr (.inr hc))
   ·exact hf.m k x e1.1 hc
  ·rcases Ar k _ e with e1|e1
   ·have af:=σ0.lt _ _ _ _ hf.F k hk;refine uF k e1 hB af ?_;have:own k=none:=by
     cases e:own k with
     |none=>rfl
     |some j=>exact absurd hk (hf.own k j e)
    simp[oN,this]
   ·exact hf.d k e1.1 hB hk
  ·change (match cI js is j with|some i=>(match qC (vD S.ver shs is js) is js (eD obs i) with|some o=>o|none=>.dead)|none=>S.o j)=.tr at hj;split at hj
   ·rename_i i hi;split at hj
    ·rename_i x hx;exact absurd hj (arP hx)
    ·cases hj
   ·rename_i hn
    have OE:j∉js:=fun hm=>by
     obtain⟨k,hk⟩:=yw hm;have af:k<is.length:=by
         have:=(fm.1 hk).1;rw[DU,eN];omega
     have:=JC Je hk (bA af);rw[hn] at this;cases this
    have I6:j≠iS:=fun e=>by subst e;rw[IV] at hj;cases hj
    rw[wV j OE I6];exact sX j hj
theorem ad5:∀(js:List Nat) (k:Nat) {ρ ρ':Env} {l:List D},PI.runs Φ (Gk js k) ρ=some ρ'→ρ.o iS=.tup l→iS∉js→js.Nodup→
 ρ'.r=ρ.r∧(∀(i j:Nat),js[i]?=some j→ρ'.o j=l.getD (k+i) .none)∧∀j,j∉js→ρ'.o j=ρ.o j
 |[],k,ρ,ρ',l,h,hs,hn,hd=>by
  simp only[Gk,PI.runs,aS] at h;subst h;exact⟨rfl,fun i j e=>by simp at e,fun _ _=>rfl⟩
 |x::js,k,ρ,ρ',l,h,hs,hn,hd=>by
  simp only[Gk,PI.runs,PI.run,j8,PE.ev,hs,D.tget] at h;simp only[cT,not_or] at hn;have fS:=mU.1 hd;obtain⟨g1,g2,g3⟩:=ad5 js (k+1) h (by simp only[Env.setO];rw[bo _ _ hn.1];exact hs) hn.2 fS.2;refine⟨g1,fun i j e=>?_,fun j hj=>?_⟩
  ·cases i with
   |zero=>simp at e;subst e;rw[g3 _ fS.1];simp[Env.setO,aK]
   |succ i=>simp at e;rw[g2 i j e];congr 1;omega
  ·simp only[cT,not_or] at hj;rw[g3 j hj.2];simp only[Env.setO];exact bo _ _ hj.1
theorem afY (h:Inv C S ρ σ own hv w0 σ0 A a w)(hC:CtxOK C σ0)(x:Operand):∃d,GB C S ρ σ hv (GV C S x) (a.eval x) d:=by
 cases x with
 |tmp t=>
  refine⟨ρ.r t,?_,fun y hy=>cr (gs:=[]) h hC rfl hy⟩;have:=(mK (gs:=[]) h rfl t).1;simpa [Act.eval,GV,fa] using this
 |_=>exact⟨.none,trivial,fun y hy=>cr (gs:=[]) h hC rfl hy⟩
theorem Xc (h:Inv C S ρ σ own hv w0 σ0 A a w)(hC:CtxOK C σ0)(hΦ:cX C Φ){f:Nat}{args:List Operand}{caps:List (Nat×Nat)}{vs:List Value}(iM:vs.length=caps.length)
 (fy:∀(i j ver:Nat),caps[i]?=some (j,ver)→ver≤S.ver j∧(ver=S.ver j→vs.getD i undef=hv j)) (ak2:∀(i j ver:Nat),caps[i]?=some (j,ver)→ver=S.ver j→∃k,hv j=.pointer (some ⟨k,0,none⟩)) {r:St×Ty×List PI} (hr:qX C S f args caps=some r)
 {ρ1:Env} (ah:PI.runs Φ r.2.2 ρ=some ρ1):
 Calls C.P f (args.map a.eval++vs).toArray w fun e w'=>∃v σ1 dq aQ,e=.returned v∧Inv C r.1 ρ1 σ1 dq aQ w0 σ0 A a w'∧Rep C.cap σ1 r.2.1 v ((ρ1.o iS).tget 0):=by
 simp only[qX,aq] at hr;obtain⟨s,hs,hr⟩:=hr;split at hr
 case h_2=>cases hr
 rename_i shs obs kU;obtain⟨σ2,jk,jT,h2⟩:=Inv.fzs (zT S args shs) h;have dz:=(oc (zT S args shs) S).1;generalize S.fzs (zT S args shs)=S2 at hr h2 dz;unfold Nk Nj at hr;generalize Xv S2 shs obs (args.map (GV C S2)++caps.map WG)=js at hr;simp only[aq] at hr;obtain⟨es,jy,hr⟩:=hr;cases hb:(xx shs obs&&(gM (obs.map (·.1))&&gM js&&q8 S2 (obs.map (·.1)) js obs js&&oF (S2.o iS)&& !aC js iS))<;>simp only[hb,cond_true,cond_false] at hr
 ·cases hr
 cases hr;simp only[ao,iU] at hb;obtain⟨b0,⟨⟨⟨b1,b2⟩,b3⟩,b4⟩,b5⟩:=hb;have lI:=lL b1;have p9:=lL b2;have IV:S2.o iS=.dead:=by
  cases e:S2.o iS<;>rw[e] at b4<;>first|rfl|cases b4
 have Jo:iS∉js:=fun hm=>by rw[ZD.2 hm] at b5;cases b5
 simp only[PI.runs,PI.run,aq,az] at ah;obtain⟨ρ2,⟨d,hd,rfl⟩,ah⟩:=ah;rw[PE.evs_eq,px,GN] at hd;have e1:js.map (PE.ev ρ∘PE.o)=js.map ρ.o:=rfl;rw[e1] at hd;have hfn:=((hΦ f _ d hd s hs).2 shs obs kU).plain b0
 have pY:=handed h2 hC b0 rfl lI p9 b3 jy IV Jo (vals:=args.map a.eval++vs) (by simp[iM]) (fun t x hx=>by
  rw[l7] at hx;split at hx
  ·rename_i af;rw[eN] at af;rw[ct,bA af] at hx;cases hx;have:(args.map a.eval++vs).getD t undef=a.eval args[t]:=by
        rw[aJ,j6 (by simpa using af),ct,bA af];rfl
   rw[this];exact afY h2 hC _
  ·rename_i fA;rw[eN] at fA hx;rw[ct,az] at hx;obtain⟨c,hc,rfl⟩:=hx;obtain⟨j,ver⟩:=c;have cn:(args.map a.eval++vs).getD t undef=vs.getD (t-args.length) undef:=by
        rw[aJ,lC (by simpa using fA),eN,aJ]
   obtain⟨g1,g2⟩:=fy _ j ver hc;refine⟨.none,⟨by rw[dz];exact g1,fun e=>?_⟩,fun y hy=>by cases hy⟩;rw[dz] at e;obtain⟨k,hk⟩:=ak2 _ j ver hc e;exact⟨k,hk,by rw[cn,g2 e,hk]⟩) (hfn:=hfn)
 refine pY.mono fun e w' hh=>?_;obtain⟨v,dr,os,rfl,rfl,OO,m5⟩:=hh;obtain⟨g1,g2,g3⟩:=ad5 js 1 (l:=dr::os) ah (by simp[Env.setO,aK]) Jo p9
 obtain⟨σ1,dq,aQ,hinv,bL⟩:=m5 ρ1 g1 (fun k j hk=>by
  have:=g2 k j hk;rw[B9] at this;simpa using this) (fun j hj aw=>by rw[g3 j hj];simp only[Env.setO];exact bo _ _ aw)
 refine⟨v,σ1,dq,aQ,rfl,hinv,?_⟩;rw[g3 iS Jo];simpa [Env.setO,aK,D.tget] using bL
def qo (S:St)(dst:Option Nat)(r:St×Ty×List PI):St×List PI:=
 match dst with
 |some d=>(r.1.setR d (.dat r.2.1),r.2.2++[.setR d (.tget (.o iS) 0)])
 |none=>(r.1,r.2.2)
theorem ar4 {a b:List PI}{ρ:Env}:PI.runs Φ (a++b) ρ=(PI.runs Φ a ρ).bind (PI.runs Φ b):=by
 induction a generalizing ρ with
 |nil=>simp[PI.runs]
 |cons x a ih=>
  simp only[GG,PI.runs];cases x.run Φ ρ with
  |none=>rfl
  |some ρ1=>simp[ih]
theorem WC {o:Oper}{f:Nat}{vals:List Value}(ht:∀d,o.dst=some d→¬A d∧d<a.tmps.size){r:St×Ty×List PI}(hx:(execOp a.eval o).run C.P w=.ok (.enter f vals.toArray) w)
 (hc:∀ρ1,PI.runs Φ r.2.2 ρ=some ρ1→Calls C.P f vals.toArray w fun e w'=>∃v σ1 dq aQ,e=.returned v∧Inv C r.1 ρ1 σ1 dq aQ w0 σ0 A a w'∧Rep C.cap σ1 r.2.1 v ((ρ1.o iS).tget 0)):bV C w0 σ0 Φ S ρ A a w o (qo S o.dst r):=by
 intro ρ' ah K Q hK;simp only[Oper.wp,hx,Oper.upon];cases hd:o.dst with
 |none=>
  rw[hd] at ah hK;refine(hc ρ' ah).mono fun e w' hh=>?_;obtain⟨v,σ1,dq,aQ,rfl,hinv,bL⟩:=hh;refine hK _ _ ⟨σ1,dq,aQ,?_⟩ rfl;have:(fun u=>A u∨(none:Option Nat)=some u)=A:=by funext u;simp
  rw[this];exact hinv
 |some d=>
  rw[hd] at ah hK;obtain⟨t1,t2⟩:=ht d hd;simp only[qo,ar4,aq] at ah;obtain⟨ρ1,h1,h2⟩:=ah;simp[PI.runs,PI.run,PE.ev] at h2;subst h2;refine(hc ρ1 h1).mono fun e w' hh=>?_;obtain⟨v,σ1,dq,aQ,rfl,hinv,bL⟩:=hh;refine hK _ _ ⟨σ1,dq,aQ,?_⟩ (size_put _ _ _);have:(fun u=>A u∨some d=some u)=(fun u=>A u∨u=d):=by funext u;simp[eq_comm]
  rw[this];exact hinv.setReg t1 (s:=.dat r.2.1) bL t2 (fun _ _ e=>by cases e)
theorem Xd (h:Inv C S ρ σ own hv w0 σ0 A a w)(hC:CtxOK C σ0)(aY:dt C)(hΦ:cX C Φ){f:Nat}{args:Array Operand}{ts:Array TypeId}{r:St×Ty×List PI}{o:Oper}(ht:∀d,o.dst=some d→¬A d∧d<a.tmps.size)
 (hr:qX C S f args.toList []=some r) (ho:o.op=.call {callee:=.value (.func f),args:=args,argTypes:=ts}):bV C w0 σ0 Φ S ρ A a w o (qo S o.dst r):=by
 have hs:∃s,C.sig f=some s:=by
  simp only[qX,aq] at hr;obtain⟨s,hs,_⟩:=hr;exact⟨s,hs⟩
 obtain⟨s,hs⟩:=hs;have hx:=Gf (a:=a) (w:=w) aY hs ho;have jW:args.map a.eval=(args.toList.map a.eval++[]).toArray:=by apply sf;simp
 rw[jW] at hx;exact WC ht hx fun ρ1 ah=>Xc h hC hΦ (vs:=[]) rfl (fun i j ver e=>by simp at e) (fun i j ver e=>by simp at e) hr ah
def yI (S:St):List (Nat×Nat)→Bool
 |[]=>true
 |c::l=>Nat.beq c.2 (S.ver c.1)&&(match S.o c.1 with|.box ..=>true|_=>false)&&yI S l
theorem WI (h:Inv C S ρ σ own hv w0 σ0 A a w):∀{l:List (Nat×Nat)},yI S l=true→∀(i j ver:Nat),l[i]?=some (j,ver)→ver=S.ver j∧∃k,hv j=.pointer (some ⟨k,0,none⟩)
 |[],_,i,j,ver,e=>by simp at e
 |c::l,hl,i,j,ver,e=>by
  simp only[yI,ao] at hl;cases i with
  |zero=>
   simp at e;subst e;refine⟨ay hl.1.1,?_⟩;have h1:=hl.1.2;have h2:=h.objs j;split at h1
   ·rename_i ag shs eo;simp only at eo;rw[eo] at h2;obtain⟨k,cs,T,ds,g1,_⟩:=h2;exact⟨k,g1⟩
   ·cases h1
  |succ i=>simp at e;exact WI h hl.2 i j ver e
def zL (C:Ctx)(S:St)(t:Nat)(args:List Operand):Option (St×Ty×List PI):=
 match kE S [] t with
 |.fclo f caps=>bif yI S caps then qX C S f args caps else none
 |_=>none
theorem Xb (h:Inv C S ρ σ own hv w0 σ0 A a w)(hC:CtxOK C σ0)(aY:dt C)(hΦ:cX C Φ){t:Nat}{args:Array Operand}{ts:Array TypeId}{r:St×Ty×List PI}{o:Oper}(ht:∀d,o.dst=some d→¬A d∧d<a.tmps.size)
 (hr:zL C S t args.toList=some r) (ho:o.op=.call {callee:=.value (.tmp t),args:=args,argTypes:=ts}):bV C w0 σ0 Φ S ρ A a w o (qo S o.dst r):=by
 unfold zL at hr;split at hr
 case h_2=>cases hr
 rename_i f caps fV;cases hb:yI S caps<;>simp only[hb,cond_true,cond_false] at hr
 ·cases hr
 have gu:=(mK (gs:=[]) h rfl t).1;rw[fV] at gu;obtain⟨vs,h1,h2,h3⟩:=gu;have hs:∃s,C.sig f=some s:=by
  simp only[qX,aq] at hr;obtain⟨s,hs,_⟩:=hr;exact⟨s,hs⟩
 obtain⟨s,hs⟩:=hs;have hx:=adY (a:=a) (w:=w) (vs:=vs) (x:=.tmp t) aY hs (by simpa [Act.eval] using h1) ho;have jW:args.map a.eval++vs.toArray=(args.toList.map a.eval++vs).toArray:=by apply sf;simp
 rw[jW] at hx;exact WC ht hx fun ρ1 ah=>Xc h hC hΦ h2 h3 (fun i j ver e _=>(WI h hb i j ver e).2) hr ah
def CB (S:St):List Operand→Option (List (Nat×Nat))
 |[]=>some []
 |x::xs=>
  match x with
  |.tmp t=>
   match kE S [] t with
   |.ptr j ver off=>bif Nat.beq ver (S.ver j)&&Nat.beq off 0 then(CB S xs).map fun r=>(j,ver)::r else none
   |_=>none
  |_=>none
def C9 (C:Ctx)(S:St)(dst:Nat)(fn:Fn)(first caps:Array Operand):Option (St×List PI):=
 match fn,first.toList with
 |.func f,[]=>
  match C.sig f with
  |some s=>bif oG s.mode then(CB S caps.toList).map fun c=>(S.setR dst (.fclo f c),[.setR dst (.con .none)]) else none
  |none=>none
 |_,_=>none
theorem WJ (h:Inv C S ρ σ own hv w0 σ0 A a w):∀{l:List Operand} {c:List (Nat×Nat)},CB S l=some c→c.length=l.length∧∀(i j ver:Nat),c[i]?=some (j,ver)→ver≤S.ver j∧(ver=S.ver j→(l.map a.eval).getD i undef=hv j)
 |[],c,e=>by simp only[CB,aS] at e;subst e;exact⟨rfl,fun i j ver e=>by simp at e⟩
 |x::xs,c,e=>by
  simp only[CB] at e;split at e
  case h_2=>cases e
  rename_i t;split at e
  case h_2=>cases e
  rename_i j ver off fV;cases hb:(Nat.beq ver (S.ver j)&&Nat.beq off 0)<;>simp only[hb,cond_true,cond_false] at e
  ·cases e
  simp only[ao] at hb;simp only[az] at e;obtain⟨r,hr,rfl⟩:=e;obtain⟨g1,g2⟩:=WJ h hr;have gu:=(mK (gs:=[]) h rfl t).1;rw[fV] at gu;refine⟨by simp[g1],fun i j' mP e=>?_⟩;cases i with
  |zero=>
   simp at e;obtain⟨rfl,rfl⟩:=e;refine⟨gu.1,fun e=>?_⟩;obtain⟨k,k1,k2⟩:=gu.2 e;have e0:off=0:=ay hb.2;subst e0;rw[k1,←k2];simp[Act.eval]
  |succ i=>simp at e;simpa using g2 i j' mP e
theorem ais (h:Inv C S ρ σ own hv w0 σ0 A a w)(ht:¬A dst)(af:dst<a.tmps.size){fn:Fn}{first caps:Array Operand}{r:St×List PI}{o:Oper}(hr:C9 C S dst fn first caps=some r)(hd:o.dst=some dst)(ho:o.op=.makeFunc fn first caps):bV C w0 σ0 Φ S ρ A a w o r:=by
 unfold C9 at hr;split at hr
 case h_2=>cases hr
 rename_i f DQ;split at hr
 case h_2=>cases hr
 rename_i s hs;cases hb:oG s.mode<;>simp only[hb,cond_true,cond_false] at hr
 ·cases hr
 simp only[az] at hr;obtain⟨c,hc,rfl⟩:=hr;obtain⟨g1,g2⟩:=WJ h hc;have DN:first=#[]:=by rw[←tS];simpa using DQ
 refine bV.value hd fun ρ' ah=>⟨.func (.func f) #[] (caps.toList.map a.eval).toArray,w,?_,?_⟩
 ·subst DN;have e9:caps.map a.eval=(caps.toList.map a.eval).toArray:=by apply sf;rw[vH]
  simp[execOp,ho,Instr.makeFunc,e9]
 ·have hρ:ρ'=ρ.setR dst .none:=by simp[PI.runs,PI.run,PE.ev] at ah;exact ah.symm
  subst hρ;exact⟨_,_,_,h.setReg ht (s:=.fclo f c) ⟨_,rfl,by simp[g1],g2⟩ af (fun _ _ e=>by cases e)⟩
end
end Cx
