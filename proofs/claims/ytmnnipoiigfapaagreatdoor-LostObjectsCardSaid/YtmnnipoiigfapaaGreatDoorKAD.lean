/-
  Calls.
-/
import Derived.Test.YtmnnipoiigfapaaGreatDoorKAC
set_option linter.unusedSimpArgs false
set_option linter.unusedVariables false
noncomputable section
namespace Cx
open Go Go.RowKit
open Classical in
def Im.noM (σ:Im):Im:=⟨σ.c,fun k=>if σ.m k=some cO then none else σ.m k⟩
theorem Rep.noM {cap:Nat→Option CSig}{σ:Im}{t:Ty}{v:Value}{d:D}(h:Rep cap σ t v d):Rep cap σ.noM t v d:=by
 induction h with
 |int k n h1 h2=>exact .int k n h1 h2
 |bool b=>exact .bool b
 |str s h=>exact .str s h
 |agg ts vs ds h1 h2 _ ho ih=>exact .agg ts vs ds h1 h2 ih ho
 |tup ts vs ds h1 h2 _ ih=>exact .tup ts vs ds h1 h2 ih
 |nil e=>exact .nil e
 |emp e a=>exact .emp e a
 |nils e=>exact .nils e
 |nsl0 e=>exact .nsl0 e
 |nsl e k o n c xs _ hx ih=>exact .nsl e k o n c xs ih hx
 |slice e k o n c xs vs hn hc hm _ hv ih=>exact .slice e k o n c xs vs hn hc hm ih hv
 |mapnil kt et=>exact .mapnil kt et
 |map kt et r jd es hm hl hx hk _ j5 C5=>
  refine .map kt et r jd es ?_ hl hx j5 C5;have aB:σ.m r≠some cO:=fun e=>by rw[hm] at e;cases e;exact Di hl hk rfl
  simp only[Im.noM,if_neg aB,hm]
 |ref t k o v d _ hv ih=>exact .ref t k o v d ih hv
 |fn f cs vs ds hc h1 h2 _ ih=>exact .fn f cs vs ds hc h1 h2 ih
 |fnnil aa r=>exact .fnnil aa r
def Im.plus (σ τ:Im):Im:=⟨fun k o=>(σ.c k o).or (τ.c k o),fun k=>(σ.m k).or (τ.m k)⟩
theorem Im.plus_le1 (σ τ:Im):σ.le (σ.plus τ):=⟨fun k o v h=>by simp[Im.plus,h],fun k v h=>by simp[Im.plus,h]⟩
theorem qu.det {w:World}{k:Nat}{x y:List (Value×Value)}(h:qu w k x)(g:qu w k y):x=y:=by
 rcases h with⟨_,a,c,h1,h2⟩|⟨h1,h2⟩<;>rcases g with⟨_,a',c',g1,g2⟩|⟨g1,g2⟩
 ·rw[h1] at g1;cases g1;rw[←h2,←g2]
 ·rw[h1] at g2;cases g2
 ·rw[h2] at g1;cases g1
 ·rw[h1,g1]
theorem Im.plus_le2 {σ τ:Im}{w:World}(h:σ.ok w)(g:τ.ok w):τ.le (σ.plus τ):=by
 refine⟨fun k o v e=>?_,fun k v e=>?_⟩
 ·show(σ.c k o).or (τ.c k o)=some v;cases hc:σ.c k o with
  |none=>simpa using e
  |some u=>have:=(h.c k o u hc).symm.trans (g.c k o v e);simpa using this
 ·show(σ.m k).or (τ.m k)=some v;cases hc:σ.m k with
  |none=>simpa using e
  |some u=>simpa using(h.m k u hc).det (g.m k v e)
theorem Im.plus_ok {σ τ:Im}{w:World}(h:σ.ok w)(g:τ.ok w):(σ.plus τ).ok w:=by
 refine⟨fun k o v e=>?_,fun k v e=>?_⟩
 ·change (σ.c k o).or (τ.c k o)=some v at e;cases hc:σ.c k o with
  |none=>rw[hc] at e;exact g.c k o v (by simpa using e)
  |some u=>rw[hc] at e;simp at e;subst e;exact h.c k o u hc
 ·change (σ.m k).or (τ.m k)=some v at e;cases hc:σ.m k with
  |none=>rw[hc] at e;exact g.m k v (by simpa using e)
  |some u=>rw[hc] at e;simp at e;subst e;exact h.m k u hc
theorem Im.plus_c {σ τ:Im}{k o:Nat}{v:Value}(h:(σ.plus τ).c k o=some v):σ.c k o=some v∨τ.c k o=some v:=by
 change (σ.c k o).or (τ.c k o)=some v at h;cases hc:σ.c k o with
 |none=>rw[hc] at h;exact .inr (by simpa using h)
 |some u=>rw[hc] at h;exact .inl (by simpa using h)
theorem Im.plus_m {σ τ:Im}{k:Nat}{v:List (Value×Value)}(h:(σ.plus τ).m k=some v):σ.m k=some v∨τ.m k=some v:=by
 change (σ.m k).or (τ.m k)=some v at h;cases hc:σ.m k with
 |none=>rw[hc] at h;exact .inr (by simpa using h)
 |some u=>rw[hc] at h;exact .inl (by simpa using h)
def Ty.pureT:Ty→Bool
 |.int _|.bool|.str|.nils _=>true
 |_=>false
def Ty.pure:Ty→Bool
 |.tup ts=>ts.all Ty.pureT
 |.agg ts=>ts.all Ty.pureT
 |t=>Ty.pureT t
theorem Rep.pureT {cap:Nat→Option CSig}{σ τ:Im}{t:Ty}{v:Value}{d:D}(h:Rep cap σ t v d)(hp:t.pureT=true):Rep cap τ t v d:=by
 cases h<;>simp[Ty.pureT] at hp<;>constructor<;>assumption
theorem Rep.pure {cap:Nat→Option CSig}{σ τ:Im}{t:Ty}{v:Value}{d:D}(h:Rep cap σ t v d)(hp:t.pure=true):Rep cap τ t v d:=by
 cases h with
 |agg ts vs ds h1 h2 h ho=>exact .agg ts vs ds h1 h2 (fun i t hi=>(h i t hi).pureT (bE.1 hp t (lF hi))) ho
 |tup ts vs ds h1 h2 h=>exact .tup ts vs ds h1 h2 (fun i t hi=>(h i t hi).pureT (bE.1 hp t (lF hi)))
 |int k n h1 h2=>exact .int k n h1 h2
 |bool b=>exact .bool b
 |str s h=>exact .str s h
 |nils e=>exact .nils e
 |_=>simp[Ty.pure,Ty.pureT] at hp
def TJ (C:Ctx)(σ':Im)(B:Nat)(w':World)(ow:Nat→Option Nat)(i:Nat):RC→Value→D→Prop
 |.dat t,v,d=>t.one=true∧Rep C.cap σ' t v d
 |.row T e,v,d=>∃cells xs,d=.list xs∧w'.ownsRow B T e.size v xs.length cells∧dW C.cap σ' e cells xs∧∀k,v.ownBlock=some k→ow k=some i
def lH (C:Ctx)(s:Sig)(σ':Im)(w w':World)(v:Value)(d:D):Prop:=
 match s.mode with
 |.dat=>Rep C.cap σ' s.res v d
 |.it _=>True
 |.ob ..=>True
 |.rows l=>∃(vs:List Value) (ds:List D) (ow:Nat→Option Nat),v=.agg vs.toArray∧d=.agg ds∧vs.length=l.length∧ds.length=l.length∧(∀(i:Nat) (c:RC),l[i]?=some c→TJ C σ' w.heap.size w' ow i c (vs.getD i undef) (ds.getD i .none))∧
   ∀k i,ow k=some i→w.heap.size≤k∧k<w'.heap.size∧(∀o,σ'.c k o=none)∧σ'.m k=none
 |.row T e=>∃cells xs,d=.list xs∧w'.ownsRow w.heap.size T e.size v xs.length cells∧dW C.cap σ' e cells xs∧∀k,v.ownBlock=some k→(∀o,σ'.c k o=none)∧σ'.m k=none
def oe (C:Ctx)(σ:Im)(ts:List Ty)(args:List Value)(ds:List D):Prop:=
 args.length=ts.length∧ds.length=ts.length∧∀(i:Nat) (t:Ty),ts[i]?=some t→Rep C.cap σ t (args.getD i undef) (ds.getD i .none)
def gK (C:Ctx)(f:Nat)(s:Sig)(ds:List D)(d:D):Prop:=
 ∀(σ:Im) (w:World) (args:Array Value),σ.ok w→CtxOK C σ→oe C σ s.args args.toList ds→
  Calls C.P f args w fun e w'=>∃v σ',e=.returned v∧σ.le σ'∧σ'.ok w'∧Below w.heap.size w w'∧
   (∀k o x,σ'.c k o=some x→σ.c k o=some x∨w.heap.size≤k)∧(∀k x,σ'.m k=some x→σ.m k=some x∨w.heap.size≤k)∧lH C s σ' w w' v d
def dU:List (Nat×Ob)→Nat→Ob
 |[],_=>.dead
 |x::l,j=>bif Nat.beq x.1 j then x.2 else dU l j
def mR:List (Nat×Ob)→List D→Nat→D
 |x::l,d::ds,j=>bif Nat.beq x.1 j then d else mR l ds j
 |_,_,_=>.none
def fG (shs:List Sh)(obs:List (Nat×Ob)):St:=⟨fun t=>shs.getD t .none,fun j=>dU obs j,fun _=>0⟩
def l8 (obs:List (Nat×Ob))(ds os:List D):Env:=⟨fun t=>ds.getD t .none,fun j=>mR obs os j⟩
def mO:Sh→Bool
 |.dat _=>true
 |_=>false
def pg:Mode→Bool
 |.ob ..=>true
 |_=>false
def sq:Sh→Bool
 |.none|.dat _|.obj ..|.ptr ..|.fclo ..=>true
 |_=>false
def Iz:Ob→Bool
 |.row ..|.mp ..=>true
 |.box _ shs=>shs.all sq
 |_=>false
def wA (shs:List Sh)(obs:List (Nat×Ob)):Bool:=shs.all sq&&obs.all fun x=>Iz x.2
def H6:List Sh→List (Nat×Ob)→Option (TypeId×Ty×List Ty)
 |.obj 0 0::l,[(0,.row T e),(1,.tr)]=>(Ur l).map fun ts=>(T,e,ts)
 |_,_=>none
def AS (C:Ctx)(f:Nat)(T:TypeId)(e:Ty)(ts:List Ty)(ds:List D)(d:D):Prop:=
 ∀(N:Nat) (σ:Im) (w:World) (v:Value) (args:List Value) (xs:List D) (cells:List Value) (ds':List D),ds=.list xs::ds'→σ.ok w→CtxOK C σ→N≤w.heap.size→w.ownsRow N T e.size v xs.length cells→dW C.cap σ e cells xs→
  (∀k,v.ownBlock=some k→k<w.heap.size∧(∀o,σ.c k o=none)∧σ.m k=none)→oe C σ ts args ds'→
  Calls C.P f (v::args).toArray w fun x w'=>∃v' jK dv,x=.returned v'∧d=.list jK∧Below N w w'∧(∀k,k<w.heap.size→v.ownBlock≠some k→w'.heap[k]?=w.heap[k]?)∧
   w'.ownsRow N T e.size v' jK.length dv∧dW C.cap σ e dv jK∧∀k,v'.ownBlock=some k→(v.ownBlock=some k∨w.heap.size≤k)∧k<w'.heap.size
def sQ (C:Ctx)(f:Nat)(shs:List Sh)(obs:List (Nat×Ob))(res:Ty)(ds:List D)(d:D):Prop:=
 ∀(N:Nat) (σ:Im) (own:Nat→Option Nat) (hv:Nat→Value) (w:World) (args:Array Value) (cx:Nat→Prop),wA shs obs=true→σ.ok w→CtxOK C σ→(∀k,σ.m k≠some cO)→N≤w.heap.size→args.size=shs.length→
  (∀k j,own k=some j→N≤k∧k<w.heap.size∧(∀o,σ.c k o=none)∧σ.m k=none)→
  (∀k,cx k→k<w.heap.size∧own k=none∧(∀o,σ.c k o=none)∧σ.m k=none)→
  (∀t,aH C (fG shs obs) (l8 obs ds (ds.drop shs.length)) σ hv (shs.getD t .none) (args.getD t undef) (ds.getD t .none))→
  (∀j,cd C (fG shs obs) (l8 obs ds (ds.drop shs.length)) σ own hv w N j (dU obs j))→
  Calls C.P f args w fun e w'=>∃v σ' own' hv' dr os,e=.returned v∧d=.tup (dr::os)∧os.length=obs.length∧σ.le σ'∧σ'.ok w'∧Below 0 w w'∧
   (∀k,k<w.heap.size→own k=none→w'.heap[k]?=w.heap[k]?)∧
   (∀k o x,σ'.c k o=some x→(σ.c k o=some x∨N≤k)∧¬cx k)∧(∀k x,σ'.m k=some x→(σ.m k=some x∨N≤k)∧¬cx k)∧(∀k,σ'.m k=some cO→N≤k→k<w.heap.size→own k≠none)∧
   (∀k j,own' k=some j→N≤k∧k<w'.heap.size∧(∀o,σ'.c k o=none)∧σ'.m k=none∧(k<w.heap.size→own k≠none))∧
   (∀(t:Nat) (sh:Sh),shs[t]?=some sh→mO sh=false→aH C (fG shs obs) (l8 obs ds os) σ' hv' sh (args.getD t undef) (ds.getD t .none))∧
   (∀j,cd C (fG shs obs) (l8 obs ds os) σ' own' hv' w' N j (dU obs j))∧Rep C.cap σ' res v dr
theorem aH.ctx {C C':Ctx}(fM:C'.cap=C.cap){S:St}{ρ:Env}{σ:Im}{hv:Nat→Value}{s:Sh}(hp:sq s=true){v:Value}{d:D}(h:aH C S ρ σ hv s v d):aH C' S ρ σ hv s v d:=by
 cases s with
 |dat t=>show Rep C'.cap σ t v d;rw[fM];exact h
 |opt gs s=>cases hp
 |eptr j ver a b=>cases hp
 |yv=>cases hp
 |agg l=>cases hp
 |_=>exact h
theorem cd.ctx {C C':Ctx}(fM:C'.cap=C.cap){S:St}{ρ:Env}{σ:Im}{own:Nat→Option Nat}{hv:Nat→Value}{w:World}{N j:Nat}{ob:Ob}(hp:Iz ob=true∨ob=.dead)(h:cd C S ρ σ own hv w N j ob):cd C' S ρ σ own hv w N j ob:=by
 rcases hp with hp|rfl
 ·cases ob with
  |row T e=>obtain⟨cells,xs,h1,h2,h3,h4⟩:=h;exact⟨cells,xs,h1,h2,by rw[fM];exact h3,h4⟩
  |mp kt et=>obtain⟨k,arr,clock,es,h1,h2,h3,h4,h5,h6,h7⟩:=h;exact⟨k,arr,clock,es,h1,h2,h3,h4,h5,h6,by rw[fM];exact h7⟩
  |box ag shs=>
   obtain⟨k,cs,T,ds,h1,h2,h3,h4,h5,h6,h7⟩:=h;exact⟨k,cs,T,ds,h1,h2,h3,h4,h5,h6,fun i s hs=>⟨(h7 i s hs).1,(h7 i s hs).2.ctx fM (bE.1 hp s (lF hs))⟩⟩
  |_=>cases hp
 ·trivial
theorem Xo {obs:List (Nat×Ob)}(h:(obs.all fun x=>Iz x.2)=true)(j:Nat):Iz (dU obs j)=true∨dU obs j=.dead:=by
 induction obs with
 |nil=>exact .inr rfl
 |cons x l ih=>
  simp only[pO,ak] at h;simp only[dU];cases hb:Nat.beq x.1 j
  ·exact ih h.2
  ·exact .inl h.1
theorem sQ.ctx {C C':Ctx}{f:Nat}{shs:List Sh}{obs:List (Nat×Ob)}{res:Ty}{ds:List D}{d:D}(h:sQ C f shs obs res ds d)(hP:C'.P=C.P)(fM:C'.cap=C.cap)(tK:C'.glob=C.glob):sQ C' f shs obs res ds d:=by
 intro N σ own hv w args cx hp aA hC bk hN aJ bY ky h1 h2;have aS:=hp;simp only[wA,ak] at aS;have rW:∀t s,shs[t]?=some s→sq s=true:=fun t s hs=>bE.1 aS.1 s (lF hs);have hC':CtxOK C σ:=⟨fun g x hx=>by have:=hC.glob g x (by rw[tK];exact hx);rwa [fM] at this⟩
 have:=h N σ own hv w args cx hp aA hC' bk hN aJ bY ky (fun t=>by
  cases hs:shs[t]? with
  |none=>rw[aK,hs];trivial
  |some s=>have:=h1 t;rw[aK,hs] at this ⊢;exact this.ctx fM.symm (rW t s hs)) (fun j=>(h2 j).ctx fM.symm (Xo aS.2 j))
 rw[hP];refine this.mono fun e w' hh=>?_;obtain⟨v,σ',own',hv',dr,os,g1,g2,g3,g4,g5,g6,g7,g8,g9,g10,g11,g12,g13,g14⟩:=hh;exact⟨v,σ',own',hv',dr,os,g1,g2,g3,g4,g5,g6,g7,g8,g9,g10,g11,fun t sh hs hd=>(g12 t sh hs hd).ctx fM (rW t sh hs),fun j=>(g13 j).ctx fM (Xo aS.2 j),by rw[fM];exact g14⟩
theorem dW.cap {c c':Nat→Option CSig}(hc:c'=c){σ:Im}{e:Ty}{cells:List Value}{xs:List D}(h:dW c σ e cells xs):dW c' σ e cells xs:=hc▸h
theorem AS.ctx {C C':Ctx}{f:Nat}{T:TypeId}{e:Ty}{ts:List Ty}{ds:List D}{d:D}(h:AS C f T e ts ds d)(hP:C'.P=C.P)(fM:C'.cap=C.cap)(tK:C'.glob=C.glob):AS C' f T e ts ds d:=by
 intro N σ w v args xs cells ds' h1 h2 h3 h4 h5 h6 h7 h8;rw[hP];refine(h N σ w v args xs cells ds' h1 h2 ⟨fun g x hx=>by have:=h3.glob g x (by rw[tK];exact hx);rwa [fM] at this⟩ h4 h5 (h6.cap fM.symm) h7 ⟨h8.1,h8.2.1,fun i t hi=>by have:=h8.2.2 i t hi;rwa [fM] at this⟩).mono fun x w' hh=>?_;obtain⟨v',jK,dv,g1,g2,g3,g4,g5,g6,g7⟩:=hh;exact⟨v',jK,dv,g1,g2,g3,g4,g5,g6.cap fM,g7⟩
def gu (C:Ctx)(f:Nat)(shs:List Sh)(obs:List (Nat×Ob))(res:Ty)(ds:List D)(d:D):Prop:=
 match H6 shs obs with
 |some m=>AS C f m.1 m.2.1 m.2.2 ds d
 |none=>sQ C f shs obs res ds d
theorem gu.ctx {C C':Ctx}{f:Nat}{shs:List Sh}{obs:List (Nat×Ob)}{res:Ty}{ds:List D}{d:D}(h:gu C f shs obs res ds d)(hP:C'.P=C.P)(fM:C'.cap=C.cap)(tK:C'.glob=C.glob):gu C' f shs obs res ds d:=by
 unfold gu at h ⊢;split at h
 ·exact AS.ctx h hP fM tK
 ·exact sQ.ctx h hP fM tK
theorem XV {shs:List Sh}{obs:List (Nat×Ob)}(h:∀x,x∈obs→x.2≠.tr):H6 shs obs=none:=by
 unfold H6;split
 ·exact absurd rfl (h (1,.tr) (by simp))
 ·rfl
theorem gu.of {C:Ctx}{f:Nat}{shs:List Sh}{obs:List (Nat×Ob)}{res:Ty}{ds:List D}{d:D}(ht:∀x,x∈obs→x.2≠.tr)(h:sQ C f shs obs res ds d):gu C f shs obs res ds d:=by
 unfold gu;rw[XV ht];exact h
theorem gu.plain {C:Ctx}{f:Nat}{shs:List Sh}{obs:List (Nat×Ob)}{res:Ty}{ds:List D}{d:D}(hp:wA shs obs=true)(h:gu C f shs obs res ds d):sQ C f shs obs res ds d:=by
 unfold gu at h;rw[XV fun x hx e=>?_] at h
 ·exact h
 ·simp only[wA,ak] at hp;have:=bE.1 hp.2 x hx;rw[e] at this;cases this
def cT (C:Ctx)(Φ:aP):Prop:=∀f ds d,Φ f ds=some d→∀s,C.sig f=some s→(pg s.mode=false→gK C f s ds d)∧∀shs obs,s.mode=.ob shs obs→gu C f shs obs s.res ds d
def lY:List Ty→Ty→Option (List Ty)
 |[.fn ys .bool],.tup []=>some ys
 |_,_=>none
def dj (C:Ctx):Prop:=(∀f cs,C.cap f=some cs→lY cs.args cs.res=none→C.sig f=some ⟨cs.args++cs.caps,cs.res,.dat⟩)∧∀f s,C.sig f=some s→∃fn,C.P.funcs[f]?=some fn∧fn.body.isSome=true∧(fn.name== "runtime.NumGoroutine")=false
def vg (S:St):List AgC→List Nat
 |[]=>[]
 |.obj j ver::l=>bif Nat.beq ver (S.ver j)&&kG (S.o j) then j::vg S l else vg S l
 |_::l=>vg S l
def bK (S:St)(gs:List (Nat×Bool)):List Operand→List Nat
 |[]=>[]
 |x::xs=>
  match ff S gs x with
  |.obj j ver=>bif Nat.beq ver (S.ver j)&&kG (S.o j) then j::bK S gs xs else bK S gs xs
  |.agg l=>vg S l++bK S gs xs
  |_=>bK S gs xs
def iM (gs:List (Nat×Bool))(s:Sh):Sh:=
 match gs with
 |[]=>s
 |_=>.opt gs s
def St.fzs (S:St)(js:List Nat):St:=js.foldl St.fz S
def ln:List RC→List Ty
 |[]=>[]
 |.dat t::l=>t::ln l
 |.row _ e::l=>.slice e.rol::ln l
def Bt (fr:List Nat)(dst:Nat)(s:Sig):Option Sig:=
 match s.mode with
 |.rows l=>bif !(fr.any (Nat.beq (2000000+dst)))&&Ty.beq s.res (.agg (ln l)) then some {s with mode:=.dat} else some s
 |_=>some s
theorem I0:∀{l:List RC} {i:Nat} {t:Ty},(ln l)[i]?=some t→(l[i]?=some (.dat t))∨∃T e,l[i]?=some (.row T e)∧t=.slice e.rol
 |[],i,t,h=>by simp[ln] at h
 |.dat u::l,0,t,h=>by simp[ln] at h;subst h;exact .inl rfl
 |.row T e::l,0,t,h=>by simp[ln] at h;exact .inr ⟨T,e,rfl,h.symm⟩
 |.dat u::l,i+1,t,h=>by simpa using I0 (l:=l) (i:=i) (by simpa [ln] using h)
 |.row T e::l,i+1,t,h=>by simpa using I0 (l:=l) (i:=i) (by simpa [ln] using h)
theorem Pq:∀(l:List RC),(ln l).length=l.length
 |[]=>rfl
 |.dat _::l=>by simp[ln,Pq l]
 |.row ..::l=>by simp[ln,Pq l]
theorem gK.asDat {C:Ctx}{f:Nat}{s:Sig}{ds:List D}{d:D}{l:List RC}(hm:s.mode=.rows l)(hr:s.res=.agg (ln l))(h:gK C f s ds d):gK C f {s with mode:=.dat} ds d:=by
 intro σ w args h1 h2 h3;refine(h σ w args h1 h2 h3).mono fun e w' hh=>?_;obtain⟨v,σ',rfl,hle,aA,hb,cP,cI,fB⟩:=hh;simp only[lH,hm] at fB;obtain⟨vs,ds,ow,rfl,rfl,l1,l2,dG,rV⟩:=fB
 have hex:∀i,∃cs:List Value,∀T e,l[i]?=some (.row T e)→∃xs,ds.getD i .none=.list xs∧w'.ownsRow w.heap.size T e.size (vs.getD i undef) xs.length cs∧dW C.cap σ' e cs xs∧∀k,(vs.getD i undef).ownBlock=some k→ow k=some i:=fun i=>by
  cases hl:l[i]? with
  |none=>exact⟨[],fun _ _ h=>by cases h⟩
  |some c=>
   cases c with
   |dat t=>exact⟨[],fun _ _ h=>by cases h⟩
   |row T e=>
    obtain⟨cs,xs,g1,g2,g3,g4⟩:=dG i _ hl;exact⟨cs,fun T' e' h=>by cases h;exact⟨xs,g1,g2,g3,g4⟩⟩
 let cs:Nat→List Value:=fun i=>Classical.choose (hex i)
 have dE:∀i T e,l[i]?=some (.row T e)→∃xs,ds.getD i .none=.list xs∧w'.ownsRow w.heap.size T e.size (vs.getD i undef) xs.length (cs i)∧dW C.cap σ' e (cs i) xs∧∀k,(vs.getD i undef).ownBlock=some k→ow k=some i:=fun i=>Tr (hex i)
 let zr:Nat→Nat→Bool:=fun i k=>decide ((vs.getD i undef).ownBlock=some k)&&(match l[i]? with|some (.row ..)=>true|_=>false)
 let τ:Im:={c:=fun k o=>match ow k with|some i=>(bif zr i k then(cs i)[o]? else none)|none=>σ'.c k o,m:=σ'.m}
 have jx:σ'.le τ:=by
  refine⟨fun k o x hx=>?_,fun k x hx=>hx⟩;cases hk:ow k with
  |none=>simp only[τ,hk];exact hx
  |some i=>have:=(rV k i hk).2.2.1 o;rw[this] at hx;cases hx
 have vV:∀i k,zr i k=true→∃T e,l[i]?=some (.row T e)∧(vs.getD i undef).ownBlock=some k:=fun i k hk=>by
  simp only[zr,ak,decide_eq_true_eq] at hk;obtain⟨bt,cu⟩:=hk;split at cu
  ·rename_i T e hl;exact⟨T,e,hl,bt⟩
  ·cases cu
 refine⟨_,τ,rfl,hle.trans jx,⟨fun k o x hx=>?_,aA.m⟩,hb,fun k o x hx=>?_,cI,?_⟩
 ·simp only[τ] at hx;split at hx
  ·rename_i i hi;cases hr:zr i k with
   |false=>rw[hr] at hx;cases hx
   |true=>
    rw[hr,cond_true] at hx;obtain⟨T,e,hl,tE⟩:=vV i k hr;obtain⟨xs,g1,g2,g3,g4⟩:=dE i T e hl;have:=g2.cells tE o x hx;rw[rq] at this;simpa using this
  ·exact aA.c k o x hx
 ·simp only[τ] at hx;split at hx
  ·rename_i i hi;exact .inr (rV k i hi).1
  ·exact cP k o x hx
 ·simp only[lH,hr];have hlen:=Pq l;refine .agg (ln l) vs ds (by omega) (by omega) (fun i t hi=>?_) (fun i t hi=>?_)
  ·rcases I0 hi with hl|⟨T,e,hl,rfl⟩
   ·exact(dG i _ hl).2.mono jx
   ·obtain⟨xs,g1,g2,⟨us,g3,g4⟩,g5⟩:=dE i T e hl;rw[g1];rcases g2.2 with⟨e1,e2⟩|⟨g,cap,cur,e1,e2,e3,e4,e5,e6,e7⟩
    ·rw[e1];have:xs=[]:=JV e2;subst this;exact .nil _
    ·rw[e1];have tE:(vs.getD i undef).ownBlock=some g:=by rw[e1];rfl
     refine .slice e.rol g 0 xs.length cap xs us rfl e4 e5 (fun i x hx=>((g3 i x hx).mono jx).unf_rol) (fun j m u hj hu=>?_);rw[Ty.rol_size];have hR:zr i g=true:=by simp only[zr,tE,hl];simp
     simp only[τ,g5 g tE,hR,cond_true,gz];exact g4 j m u hj hu
  ·rcases I0 hi with hl|⟨T,e,hl,rfl⟩
   ·exact(dG i _ hl).1
   ·rfl
theorem adM {C:Ctx}{fr:List Nat}{dst f:Nat}{s s':Sig}{ds:List D}{d:D}(hs:Bt fr dst s=some s')(hm:s'.mode=.dat)(h:pg s.mode=false→gK C f s ds d):gK C f s' ds d:=by
 unfold Bt at hs;split at hs
 ·rename_i l hl;cases hb:(!(fr.any (Nat.beq (2000000+dst)))&&Ty.beq s.res (.agg (ln l)))<;>simp only[hb,cond_true,cond_false] at hs
  ·cases hs;rw[hl] at hm;cases hm
  ·cases hs;simp only[ak] at hb;exact gK.asDat hl (Ty.beq_eq _ _ hb.2) (h (by rw[hl];rfl))
 ·cases hs;exact h (by rw[hm];rfl)
def oH (C:Ctx)(S:St)(gs:List (Nat×Bool))(dst:Nat)(f:Nat)(args:List Operand):Option (St×Sh×List PI):=
 ((C.sig f).bind (Bt C.fr dst)).bind fun s=>
   match s.mode with
   |.dat=>
    (kf C (S.fzs (bK S gs args)) gs args).bind fun u=>
      bif Ty.subs u.1 s.args then some (bif s.res.pure then S else S.fzs (bK S gs args),.dat s.res,[.call gs dst f u.2]) else Option.none
   |_=>Option.none
def BB (C:Ctx)(S:St)(dst:Nat)(f:Nat)(args:List Operand):kj:=
 (C.sig f).bind fun s=>
    match s.mode with
    |.row T e=>
     (kf C (S.fzs (bK S [] args)) [] args).bind fun u=>
       bif Ty.subs u.1 s.args then some (mkObj (bif e.pure then S else S.fzs (bK S [] args)) dst (.row T e),[.call [] dst f u.2,.setO dst (.r dst),.setR dst (.con .none)]) else Option.none
    |_=>Option.none
def iy (dst:Nat)(l:List RC)(j:Nat):Option (Nat×TypeId×Ty):=
 bif Nat.beq (j%4096) dst&&Nat.ble 4096 j then(match l[j/4096-1]? with|some (.row T e)=>some (j/4096-1,T,e)|_=>Option.none) else Option.none
theorem aan {dst i:Nat}{l:List RC}{T:TypeId}{e:Ty}(hd:dst<4096)(h:l[i]?=some (.row T e)):iy dst l (gj dst i)=some (i,T,e):=by
 unfold iy gj;have e1:(4096*(i+1)+dst)%4096=dst:=by omega
 have e2:(4096*(i+1)+dst)/4096-1=i:=by omega
 have e3:Nat.ble 4096 (4096*(i+1)+dst)=true:=Nat.ble_eq_true_of_le (by omega);rw[e1,e2,e3,h,gy];rfl
theorem anv {dst i j:Nat}{l:List RC}{T:TypeId}{e:Ty}(h:iy dst l j=some (i,T,e)):j=gj dst i∧l[i]?=some (.row T e):=by
 unfold iy at h;cases hb:(Nat.beq (j%4096) dst&&Nat.ble 4096 j)<;>simp only[hb,cond_true,cond_false] at h
 ·cases h
 simp only[ak] at hb;have h1:=ay hb.1;have h2:=ji hb.2;split at h
 ·rename_i hl;cases h;exact⟨by unfold gj;omega,hl⟩
 ·cases h
def St.newRows (S:St)(dst:Nat)(l:List RC):St:=⟨S.r,fun j=>match iy dst l j with|some x=>.row x.2.1 x.2.2|Option.none=>S.o j,fun j=>match iy dst l j with|some _=>S.ver j+1|Option.none=>S.ver j⟩
def mY (S:St)(dst:Nat):List RC→Nat→List AgC
 |[],_=>[]
 |.dat t::l,i=>.dat t::mY S dst l (i+1)
 |.row ..::l,i=>.obj (gj dst i) (S.ver (gj dst i)+1)::mY S dst l (i+1)
def Ao (dst:Nat):List RC→Nat→List PI
 |[],_=>[]
 |.dat _::l,i=>Ao dst l (i+1)
 |.row ..::l,i=>.setO (gj dst i) (.cell (.r dst) i)::Ao dst l (i+1)
def BC (C:Ctx)(S:St)(dst:Nat)(f:Nat)(args:List Operand):kj:=
 (C.sig f).bind fun s=>
    match s.mode with
    |.rows l=>
     (kf C (S.fzs (bK S [] args)) [] args).bind fun u=>
       bif Ty.subs u.1 s.args&&Nat.blt dst 4096 then
         some (((S.fzs (bK S [] args)).newRows dst l).setR dst (.agg (mY (S.fzs (bK S [] args)) dst l 0)),.call [] dst f u.2::Ao dst l 0) else Option.none
    |_=>Option.none
theorem aao (S:St)(dst:Nat):∀(l:List RC) (i:Nat),(mY S dst l i).length=l.length∧∀(n:Nat) (c:AgC),(mY S dst l i)[n]?=some c→(∃t,l[n]?=some (.dat t)∧c=.dat t)∨∃T e,l[n]?=some (.row T e)∧c=.obj (gj dst (i+n)) (S.ver (gj dst (i+n))+1)
 |[],i=>⟨rfl,fun n c h=>by simp[mY] at h⟩
 |x::l,i=>by
  obtain⟨h1,h2⟩:=aao S dst l (i+1);have e:∀n,i+1+n=i+(n+1):=fun n=>by omega
  cases x with
  |dat t=>
   refine⟨by simp[mY,h1],fun n c h=>?_⟩;cases n with
   |zero=>simp[mY] at h;exact .inl ⟨t,rfl,h.symm⟩
   |succ n=>simp only[mY,EX] at h ⊢;have:=h2 n c h;rwa [e] at this
  |row T y=>
   refine⟨by simp[mY,h1],fun n c h=>?_⟩;cases n with
   |zero=>simp[mY] at h;exact .inr ⟨T,y,rfl,by rw[hG];exact h.symm⟩
   |succ n=>simp only[mY,EX] at h ⊢;have:=h2 n c h;rwa [e] at this
theorem Pp (Φ:aP)(dst:Nat):∀(l:List RC) (i:Nat) (ρ ρ':Env),PI.runs Φ (Ao dst l i) ρ=some ρ'→ρ'.r=ρ.r∧(∀j,(∀(n:Nat) (T:TypeId) (e:Ty),l[n]?=some (.row T e)→j≠gj dst (i+n))→ρ'.o j=ρ.o j)∧
 ∀(n:Nat) (T:TypeId) (e:Ty),l[n]?=some (.row T e)→ρ'.o (gj dst (i+n))=(ρ.r dst).c (i+n)
 |[],i,ρ,ρ',h=>by
  simp only[Ao,PI.runs,aR] at h;subst h;exact⟨rfl,fun _ _=>rfl,fun n T e h=>by simp at h⟩
 |x::l,i,ρ,ρ',h=>by
  have e:∀n,i+1+n=i+(n+1):=fun n=>by omega
  cases x with
  |dat t=>
   obtain⟨h1,h2,h3⟩:=Pp Φ dst l (i+1) ρ ρ' h;refine⟨h1,fun j hj=>h2 j fun n T y hn=>by rw[e];exact hj (n+1) T y (by simpa using hn),fun n T y hn=>?_⟩;cases n with
   |zero=>simp at hn
   |succ n=>have:=h3 n T y (by simpa using hn);rwa [e] at this
  |row T0 y0=>
   simp only[Ao,PI.runs,PI.run,jN] at h;obtain⟨h1,h2,h3⟩:=Pp Φ dst l (i+1) _ ρ' h;refine⟨h1,fun j hj=>?_,fun n T y hn=>?_⟩
   ·rw[h2 j fun n T y hn=>by rw[e];exact hj (n+1) T y (by simpa using hn)];exact bl _ _ (by have:=hj 0 T0 y0 rfl;rwa [hG] at this)
   ·cases n with
    |zero=>
     rw[hG,h2 _ fun n T y hn=>by unfold gj;omega];exact aL _ _ _
    |succ n=>have:=h3 n T y (by simpa using hn);rwa [e] at this
def BA (C:Ctx)(S:St)(dst:Nat)(f:Nat)(args:List Operand):kj:=
 (C.sig f).bind fun s=>
    match s.mode,args with
    |.ob shs obs,x::xs=>
     match H6 shs obs,ff S [] x with
     |some m,.obj j ver=>
      match S.o j with
      |.row T e=>
       bif Nat.beq ver (S.ver j)&&(Nat.beq T m.1&&Ty.beq e m.2.1) then
            (kf C S [] xs).bind fun u=>
             bif Ty.subs u.1 m.2.2 then some ((S.newO j (.row T e)).setR dst (.obj j (S.ver j+1)),[.call [] dst f (.o j::u.2),.setO j (.r dst),.setR dst (.con .none)]) else Option.none
       else Option.none
      |_=>Option.none
     |_,_=>Option.none
    |_,_=>Option.none
def nk (C:Ctx)(S:St)(gs:List (Nat×Bool))(dst:Nat)(x:Operand)(args:List Operand):Option (St×Sh×List PI):=
 match use C S gs x with
 |some (.fn aa r,e)=>
  match lY aa r with
  |some _=>Option.none
  |Option.none=>
  (kf C (S.fzs (bK S gs args)) gs args).bind fun u=>
    bif Ty.subs u.1 aa then some (bif r.pure then S else S.fzs (bK S gs args),.dat r,[.callc gs dst e u.2]) else Option.none
 |_=>Option.none
theorem nm:∀(js:List Nat) (S:St),(S.fzs js).ver=S.ver∧(S.fzs js).r=S.r
 |[],S=>⟨rfl,rfl⟩
 |j::js,S=>by
  obtain⟨h1,h2⟩:=nm js (S.fz j);obtain⟨k1,k2⟩:=GK S j;exact⟨h1.trans k1,h2.trans k2⟩
section
variable {C:Ctx} {S:St} {ρ:Env} {σ:Im} {own:Nat→Option Nat} {hv:Nat→Value} {w0:World} {σ0:Base} {A:Nat→Prop} {a:Act} {w:World} {gs:List (Nat×Bool)} {Φ:aP} {dst:Nat}
theorem Inv.fzs:∀(js:List Nat) {S:St} {σ:Im} {own:Nat→Option Nat},Inv C S ρ σ own hv w0 σ0 A a w→∃σ' own',σ.le σ'∧Inv C (S.fzs js) ρ σ' own' hv w0 σ0 A a w
 |[],S,σ,own,h=>⟨σ,own,.refl σ,h⟩
 |j::js,S,σ,own,h=>by
  obtain⟨σ1,db,hle,h1⟩:=h.fz j;obtain⟨σ2,ix,jx,h2⟩:=Inv.fzs js h1;exact⟨σ2,ix,hle.trans jx,h2⟩
theorem Inv.world (h:Inv C S ρ σ own hv w0 σ0 A a w){σ':Im}{w':World}(hle:σ.le σ')(aA:σ'.ok w')(hb:Below w.heap.size w w')(cP:∀k o x,σ'.c k o=some x→σ.c k o=some x∨w.heap.size≤k)
 (cI:∀k x,σ'.m k=some x→σ.m k=some x∨w.heap.size≤k):Inv C S ρ σ' own hv w0 σ0 A a w':=by
 have aJ:=h.below.size;refine h.step (fun _=>False) rfl hle aA (fun k o x hx=>(cP k o x hx).imp id (fun e=>⟨by omega,.inr e⟩)) (fun k x hx=>(cI k x hx).imp id (fun e=>⟨by omega,.inr e⟩)) (hb.mono aJ) (.refl S hv) (fun j _=>⟨rfl,rfl,rfl,fun k hk=>⟨hk,hb.block k (h.owns k j hk).2.1⟩⟩) (fun _ hf=>hf.elim) (fun k j hk=>?_) (fun _=>id) (fun t=>.inl ⟨rfl,rfl,rfl⟩) (fun _ _=>rfl) (fun k hk _=>hb.block k hk) (fun k i hk=>.inl ⟨i,hk⟩) (fun _ hf=>hf.elim);obtain⟨g1,g2,g3,g4⟩:=h.owns k j hk;refine⟨g1,by have:=hb.size;omega,fun o=>?_,?_⟩
 ·cases hc:σ'.c k o with
  |none=>rfl
  |some x=>rcases cP k o x hc with e|e
           ·rw[g3 o] at e;cases e
           ·omega
 ·cases hc:σ'.m k with
  |none=>rfl
  |some x=>rcases cI k x hc with e|e
           ·rw[g4] at e;cases e
           ·omega
theorem CtxOK.mono {C:Ctx}{σ σ':Im}(h:CtxOK C σ)(hle:σ.le σ'):CtxOK C σ':=⟨fun g x hx=>(h.glob g x hx).mono hle⟩
theorem AI (h:Inv C S ρ σ own hv w0 σ0 A a w)(hC:CtxOK C σ0)(hg:holds gs ρ=true){xs:List Operand}{u:List Ty×List PE}{ts:List Ty}(hu:kf C S gs xs=some u)(hs:Ty.subs u.1 ts=true):oe C σ ts (xs.map a.eval) (PE.evs ρ u.2):=by
 obtain⟨l1,l2,aO⟩:=abL h hC hg _ _ hu;have hl:=Ty.subs_len _ _ hs;refine⟨by rw[gw];omega,by rw[PE.evs_eq,gw];omega,fun i t hi=>?_⟩;obtain⟨s,er,cn⟩:=Ty.subs_get _ _ hs i t hi;exact(aO i s er).sub cn
theorem Ey {o:Oper}{f:Nat}{args:Array Operand}{ts:Array TypeId}(aW:dj C){s:Sig}(hs:C.sig f=some s)(ho:o.op=.call {callee:=.value (.func f),args:=args,argTypes:=ts}):
 (execOp a.eval o).run C.P w=.ok (.enter f (args.map a.eval)) w:=by
 obtain⟨fn,h1,h2,h3⟩:=aW.2 f s hs;obtain⟨bd,jt⟩:=TH.1 h2;have h4:¬fn.name= "runtime.NumGoroutine" :=by simpa using h3
 simp[execOp,ho,resolve,Act.eval,Deferred.ofValue,invoke,callFunc,h1,jt,h4]
theorem aa1 {o:Oper}{x:Operand}{f:Nat}{vs:List Value}{args:Array Operand}{ts:Array TypeId}(aW:dj C){s:Sig}(hs:C.sig f=some s)(hx:a.eval x=.func (.func f) #[] vs.toArray)(ho:o.op=.call {callee:=.value x,args:=args,argTypes:=ts}):
 (execOp a.eval o).run C.P w=.ok (.enter f (args.map a.eval++vs.toArray)) w:=by
 obtain⟨fn,h1,h2,h3⟩:=aW.2 f s hs;obtain⟨bd,jt⟩:=TH.1 h2;have h4:¬fn.name= "runtime.NumGoroutine" :=by simpa using h3
 simp[execOp,ho,resolve,hx,Deferred.ofValue,invoke,callFunc,h1,jt,h4]
theorem Ub (h:Inv C S ρ σ own hv w0 σ0 A a w)(hC:CtxOK C σ0)(ht:¬A dst)(af:dst<a.tmps.size)(dF:∀g,g∈gs→A g.1)(hg:holds gs ρ=true){f:Nat}{s:Sig}{js:List Nat}{vals:List Value}{ds:List D}{d:D}(kE:s.mode=.dat)(hfn:gK C f s ds d)
 (ia:∀σ1 db,σ.le σ1→Inv C (S.fzs js) ρ σ1 db hv w0 σ0 A a w→oe C σ1 s.args vals ds) {K:Act→World→Prop} {Q:Exit→Act→World→Prop}
 (hK:∀a' w',Good C w0 σ0 ((bif s.res.pure then S else S.fzs js).setR dst (iM gs (.dat s.res))) (ρ.setR dst d) (fun u=>A u∨u=dst) a' w'→a'.tmps.size=a.tmps.size→K a' w'):
 Calls C.P f vals.toArray w (fun e kh=>match e with|.returned v=>K (a.put (some dst) v) kh|.panicked chain=>Q (.panic chain) a kh|.outgrown=>LetsOut Q):=by
 obtain⟨σ1,db,kR,h1⟩:=Inv.fzs js h;have oO:=hfn σ1 w vals.toArray h1.ok (hC.mono h1.le) (by simpa using ia σ1 db kR h1);refine oO.mono fun e w' hh=>?_;obtain⟨v,σ',rfl,hle,aA,hb,cP,cI,fB⟩:=hh;simp only[lH,kE] at fB;refine hK _ _ ?_ (size_put _ _ _);have hh:holds gs (ρ.setR dst d)=true:=by rw[CG (t:=dst) (d:=d) fun g hm e=>ht (by rw[←e];exact dF g hm)];exact hg
 have put:∀{S2:St} {σ2:Im} {ix:Nat→Option Nat},Inv C S2 ρ σ2 ix hv w0 σ0 A a w'→Rep C.cap σ2 s.res v d→Good C w0 σ0 (S2.setR dst (iM gs (.dat s.res))) (ρ.setR dst d) (fun u=>A u∨u=dst) (a.put (some dst) v) w':=by
  intro S2 σ2 ix h2 hr;cases gs with
  |nil=>exact⟨_,_,_,h2.setReg ht (s:=.dat s.res) hr af (fun _ _ e=>by cases e)⟩
  |cons g bI=>
   refine⟨_,_,_,h2.setReg ht (s:=.opt (g::bI) (.dat s.res)) ⟨fun _=>hr,fun e=>absurd (hh.symm.trans e) (by decide)⟩ af (fun gs s e=>?_)⟩;cases e;exact⟨dF,fun _ _ e=>by cases e⟩
 cases hp:s.res.pure with
 |true=>
  simp only[cond_true];exact put (h.world (.refl σ) (h.ok.below hb) hb (fun _ _ _ hx=>.inl hx) (fun _ _ hx=>.inl hx)) (fB.pure hp)
 |false=>
  simp only[cond_false];exact put (h1.world hle aA hb cP cI) fB
theorem Bi {o:Oper}{f:Nat}{args:Array Value}{K:Act→World→Prop}{Q:Exit→Act→World→Prop}(hd:o.dst=some dst)(hx:(execOp a.eval o).run C.P w=.ok (.enter f args) w)
 (h:Calls C.P f args w (fun e kh=>match e with|.returned v=>K (a.put (some dst) v) kh|.panicked chain=>Q (.panic chain) a kh|.outgrown=>LetsOut Q)):o.wp C.P a w K Q:=by
 simp only[Oper.wp,hx,Oper.upon,hd];refine h.mono fun e kh hh=>?_;cases e<;>exact hh
theorem aeh (h:Inv C S ρ σ own hv w0 σ0 A a w)(hC:CtxOK C σ0)(aW:dj C)(hΦ:cT C Φ)(ht:¬A dst)(af:dst<a.tmps.size)(dF:∀g,g∈gs→A g.1)(hg:holds gs ρ=true){f:Nat}{args:Array Operand}{ts:Array TypeId}{r:St×Sh×List PI}
 (hr:oH C S gs dst f args.toList=some r) {o:Oper} (hd:o.dst=some dst) (ho:o.op=.call {callee:=.value (.func f),args:=args,argTypes:=ts}):bR C w0 σ0 Φ S ρ A a w o (r.1.setR dst (iM gs r.2.1),r.2.2):=by
 simp only[oH,au] at hr;obtain⟨s,⟨s0,hs,oX⟩,hr⟩:=hr;split at hr
 case h_2=>cases hr
 rename_i kE;simp only[au] at hr;obtain⟨u,hu,hr⟩:=hr;cases bJ:Ty.subs u.1 s.args<;>simp only[bJ,cond_true,cond_false] at hr
 ·cases hr
 cases hr;intro ρ' ah K Q hK;simp only[PI.runs,PI.run,hg,cond_true,au,az] at ah;obtain⟨ρ1,⟨d,bj,rfl⟩,ah⟩:=ah;cases ah;have hfn:=adM oX kE (hΦ f _ d bj s0 hs).1;refine Bi hd (Ey aW hs ho) ?_;have jC:args.map a.eval=(args.toList.map a.eval).toArray:=by apply qZ;rw[uV]
 rw[jC];have gC:(fun u=>A u∨o.dst=some u)=(fun u=>A u∨u=dst):=by funext u;rw[hd];simp[eq_comm]
 rw[gC] at hK;exact Ub h hC ht af dF hg (js:=bK S gs args.toList) kE hfn (fun σ1 db _ h1=>AI h1 hC hg hu bJ) hK
theorem ad8 (h:Inv C S ρ σ own hv w0 σ0 A a w)(hC:CtxOK C σ0)(aW:dj C)(hΦ:cT C Φ)(ht:¬A dst)(af:dst<a.tmps.size)(dF:∀g,g∈gs→A g.1)(hg:holds gs ρ=true){x:Operand}{args:Array Operand}{ts:Array TypeId}{r:St×Sh×List PI}
 (hr:nk C S gs dst x args.toList=some r) {o:Oper} (hd:o.dst=some dst) (ho:o.op=.call {callee:=.value x,args:=args,argTypes:=ts}):bR C w0 σ0 Φ S ρ A a w o (r.1.setR dst (iM gs r.2.1),r.2.2):=by
 unfold nk at hr;split at hr
 case h_2=>cases hr
 rename_i aa r0 e M9;split at hr
 case h_1=>cases hr
 rename_i Mo;simp only[au] at hr;obtain⟨u,hu,hr⟩:=hr;cases bJ:Ty.subs u.1 aa<;>simp only[bJ,cond_true,cond_false] at hr
 ·cases hr
 cases hr;have hx:=cg h hC hg M9;intro ρ' ah K Q hK;simp only[PI.runs,PI.run,hg,cond_true,au] at ah;obtain⟨ρ1,nD,ah⟩:=ah;cases ah;split at nD
 case h_2=>cases nD
 rename_i f caps bH;simp only[az] at nD;obtain⟨d,bj,rfl⟩:=nD;rw[bH] at hx;generalize fw:a.eval x=xv at hx;generalize aZ:Ty.fn aa r0=ty at hx;cases hx with
 |fn f cs vs ds hc h1 h2 aO=>
  cases aZ;have hs:=aW.1 f cs hc Mo;have hfn:=(hΦ f _ d bj _ hs).1 rfl;refine Bi hd (aa1 aW hs fw ho) ?_;have jC:args.map a.eval++vs.toArray=(args.toList.map a.eval++vs).toArray:=by apply qZ;simp
  rw[jC];have gC:(fun u=>A u∨o.dst=some u)=(fun u=>A u∨u=dst):=by funext u;rw[hd];simp[eq_comm]
  rw[gC] at hK;refine Ub h hC ht af dF hg (js:=bK S gs args.toList) (s:=⟨cs.args++cs.caps,cs.res,.dat⟩) rfl hfn (fun σ1 db kR i1=>?_) hK;obtain⟨g1,g2,g3⟩:=AI i1 hC hg hu bJ;refine⟨by simp only[ko,g1,h1],by simp only[ko,g2,h2],fun i t hi=>?_⟩;rw[lD] at hi;split at hi
  ·rename_i af;have:=g3 i t hi;rw[aK,aK,kl (by omega),kl (by omega)];simpa [aK] using this
  ·rename_i eU;have:=(aO _ t hi).mono kR;rw[aK,aK,km (by omega),km (by omega),g1,g2];simpa [aK] using this
theorem aec (h:Inv C S ρ σ own hv w0 σ0 A a w)(hC:CtxOK C σ0)(aW:dj C)(hΦ:cT C Φ)(ht:¬A dst)(af:dst<a.tmps.size){f:Nat}{args:Array Operand}{ts:Array TypeId}{r:St×List PI}
 (hr:BB C S dst f args.toList=some r) {o:Oper} (hd:o.dst=some dst) (ho:o.op=.call {callee:=.value (.func f),args:=args,argTypes:=ts}):bR C w0 σ0 Φ S ρ A a w o r:=by
 simp only[BB,au] at hr;obtain⟨s,hs,hr⟩:=hr;split at hr
 case h_2=>cases hr
 rename_i T e kE;simp only[au] at hr;obtain⟨u,hu,hr⟩:=hr;cases bJ:Ty.subs u.1 s.args<;>simp only[bJ,cond_true,cond_false] at hr
 ·cases hr
 cases hr;intro ρ' ah K Q hK;have Cm:holds ([]:List (Nat×Bool)) ρ=true:=rfl;simp only[PI.runs,PI.run,Cm,cond_true,au,az] at ah;obtain⟨ρ1,⟨d,bj,rfl⟩,ρ2,g2,ρ3,g3,g4⟩:=ah;cases g2;cases g3;cases g4;have hfn:=(hΦ f _ d bj s hs).1 (by rw[kE];rfl);obtain⟨σ1,db,kR,h1⟩:=Inv.fzs (bK S [] args.toList) h;have jC:args.map a.eval=(args.toList.map a.eval).toArray:=by apply qZ;rw[uV]
 refine Bi hd (Ey aW hs ho) ?_;rw[jC];have oO:=hfn σ1 w (args.toList.map a.eval).toArray h1.ok (hC.mono h1.le) (by simpa using AI h1 hC rfl hu bJ);refine oO.mono fun e' w' hh=>?_;obtain⟨v,σ',rfl,hle,aA,hb,cP,cI,fB⟩:=hh;simp only[lH,kE] at fB;obtain⟨cells,xs,rfl,bY,iP,mH⟩:=fB;refine hK _ _ ?_ (size_put _ _ _);have gC:(fun u=>A u∨o.dst=some u)=(fun u=>A u∨u=dst):=by funext u;rw[hd];simp[eq_comm]
 rw[gC];have main:∀{S2:St} {σ1 σ2:Im} {ix:Nat→Option Nat},Inv C S2 ρ σ1 ix hv w0 σ0 A a w→σ1.le σ2→σ2.ok w'→(∀k o x,σ2.c k o=some x→σ1.c k o=some x∨w.heap.size≤k)→(∀k x,σ2.m k=some x→σ1.m k=some x∨w.heap.size≤k)→dW C.cap σ2 e cells xs→(∀k,v.ownBlock=some k→(∀o,σ2.c k o=none)∧σ2.m k=none)→
  Good C w0 σ0 (mkObj S2 dst (.row T e)) ((ρ.setO dst (.list xs)).setR dst .none) (fun u=>A u∨u=dst) (a.put (some dst) v) w':=by
  intro S2 σ1 σ2 ix h2 jx MJ aic aif ahv ahz;have aJ:=h1.below.size
  have kU:=h2.newOσ dst (.row T e) (.list xs) v (fun k=>decide (v.ownBlock=some k)) jx MJ aic aif hb (fun k hk=>bY.lt k (by simpa using hk)) (fun k hk=>ahz k (by simpa using hk)) ⟨cells,xs,by simp[Env.setO,aL],by
        rw[aL];refine⟨bY.1,?_⟩;rcases bY.2 with e1|⟨g,cap,cur,e1,e2,e3⟩
        ·exact .inl e1
        ·exact .inr ⟨g,cap,cur,e1,by omega,e3⟩,ahv,fun k hk=>by rw[aL] at hk;simp[fc,hk]⟩
  have Wl:=kU.setObj ht (j:=dst) (v:=v) (aL _ _ _) af;have e:(S2.newO dst (.row T e)).ver dst=S2.ver dst+1:=aL _ _ _;rw[e] at Wl;exact⟨_,_,_,Wl⟩
 have eρ:((ρ.setR dst (.list xs)).setO dst ((PE.r dst).ev (ρ.setR dst (.list xs)))).setR dst ((PE.con D.none).ev ((ρ.setR dst (.list xs)).setO dst ((PE.r dst).ev (ρ.setR dst (.list xs)))))=(ρ.setO dst (.list xs)).setR dst .none:=by
  have:∀d1 d2:D,bQ (bQ ρ.r dst d1) dst d2=bQ ρ.r dst d2:=by
   intro d1 d2;funext i;simp only[eN];split<;>rfl
  simp[Env.setR,Env.setO,PE.ev,aL,this]
 show Good C w0 σ0 _ _ _ _ _;rw[eρ];cases hp:e.pure with
 |true=>
  simp only[cond_true];refine main h (.refl σ) (h.ok.below hb) (fun _ _ _ hx=>.inl hx) (fun _ _ hx=>.inl hx) ?_ (fun k hk=>?_)
  ·obtain⟨vs,k1,k2⟩:=iP;exact⟨vs,fun i x hx=>(k1 i x hx).pure hp,k2⟩
  ·obtain⟨f1,f2⟩:=mH k hk;refine⟨fun o=>?_,?_⟩
   ·cases hc:σ.c k o with
    |none=>rfl
    |some x=>have:=hle.c _ _ _ (kR.c _ _ _ hc);rw[f1 o] at this;cases this
   ·cases hc:σ.m k with
    |none=>rfl
    |some x=>have:=hle.m _ _ (kR.m _ _ hc);rw[f2] at this;cases this
 |false=>
  simp only[cond_false];exact main h1 hle aA cP cI iP mH
theorem aee (h:Inv C S ρ σ own hv w0 σ0 A a w)(hC:CtxOK C σ0)(aW:dj C)(hΦ:cT C Φ)(ht:¬A dst)(af:dst<a.tmps.size){f:Nat}{args:Array Operand}{ts:Array TypeId}{r:St×List PI}
 (hr:BC C S dst f args.toList=some r) {o:Oper} (hd:o.dst=some dst) (ho:o.op=.call {callee:=.value (.func f),args:=args,argTypes:=ts}):bR C w0 σ0 Φ S ρ A a w o r:=by
 simp only[BC,au] at hr;obtain⟨s,hs,hr⟩:=hr;split at hr
 case h_2=>cases hr
 rename_i l kE;simp only[au] at hr;obtain⟨u,hu,hr⟩:=hr;cases bJ:(Ty.subs u.1 s.args&&Nat.blt dst 4096)<;>simp only[bJ,cond_true,cond_false] at hr
 ·cases hr
 cases hr;simp only[ak,hH] at bJ;obtain⟨bJ,qh⟩:=bJ;intro ρ' ah K Q hK;have Cm:holds ([]:List (Nat×Bool)) ρ=true:=rfl;simp only[PI.runs,PI.run,Cm,cond_true,au,az] at ah;obtain⟨ρ1,⟨d,bj,rfl⟩,ah⟩:=ah;have hfn:=(hΦ f _ d bj s hs).1 (by rw[kE];rfl);obtain⟨σ1,db,kR,h1⟩:=Inv.fzs (bK S [] args.toList) h;generalize S.fzs (bK S [] args.toList)=S1 at hu h1 hK ⊢;have jC:args.map a.eval=(args.toList.map a.eval).toArray:=by apply qZ;rw[uV]
 refine Bi hd (Ey aW hs ho) ?_;rw[jC];have oO:=hfn σ1 w (args.toList.map a.eval).toArray h1.ok (hC.mono h1.le) (by simpa using AI h1 hC rfl hu bJ);refine oO.mono fun e' w' hh=>?_;obtain⟨v,σ',rfl,hle,aA,hb,cP,cI,fB⟩:=hh;simp only[lH,kE] at fB;obtain⟨vs,ds,ow,rfl,rfl,l1,l2,dG,rV⟩:=fB;refine hK _ _ ?_ (size_put _ _ _);have gC:(fun u=>A u∨o.dst=some u)=(fun u=>A u∨u=dst):=by funext u;rw[hd];simp[eq_comm]
 rw[gC];obtain⟨r1,r2,r3⟩:=Pp Φ dst l 0 _ ρ' ah;simp only[gz] at r2 r3;have aaD:(ρ.setR dst (.agg ds)).r dst=.agg ds:=aL _ _ _;rw[aaD] at r3;have aJ:=h1.below.size
 let W:Nat→Prop:=fun j=>∃x,iy dst l j=some x
 let own':Nat→Option Nat:=fun k=>match ow k with
  |some i=>some (gj dst i)
  |none=>match db k with
   |some j=>match iy dst l j with|some _=>none|none=>some j
   |none=>none
 let hv':Nat→Value:=fun j=>match iy dst l j with|some x=>vs.getD x.1 undef|none=>hv j
 have MA:∀j,¬W j→iy dst l j=none:=fun j hj=>by
  cases e:iy dst l j with
  |none=>rfl
  |some x=>exact absurd ⟨x,e⟩ hj
 have fA:∀j,¬W j→ρ'.o j=ρ.o j:=fun j hj=>r2 j fun n T e hn e1=>hj ⟨(n,T,e),by rw[e1];exact aan qh hn⟩
 have vM:∀k j,db k=some j→ow k=none:=fun k j hk=>by
  cases e:ow k with
  |none=>rfl
  |some i=>have:=rV k i e;have:=h1.owns k j hk;omega
 have qf:Compat S1 hv ((S1.newRows dst l).setR dst (.agg (mY S1 dst l 0))) hv':=⟨fun j=>by
  show S1.ver j≤(match iy dst l j with|some _=>S1.ver j+1|none=>S1.ver j);split
  ·exact Nat.le_succ _
  ·exact bf _,fun j e=>by
  have e:(match iy dst l j with|some _=>S1.ver j+1|none=>S1.ver j)=S1.ver j:=e;show(match iy dst l j with|some x=>vs.getD x.1 undef|none=>hv j)=hv j;cases hj:iy dst l j with
  |none=>rfl
  |some x=>rw[hj] at e;simp only at e;omega⟩
 refine⟨σ',own',hv',?_⟩
 refine h1.step (w':=w') W rfl hle aA (fun k o x hx=>(cP k o x hx).imp id fun e=>⟨by omega,.inr e⟩) (fun k x hx=>(cI k x hx).imp id fun e=>⟨by omega,.inr e⟩) (hb.mono aJ) qf
  (fun j hj=>⟨?_,fA j hj,?_,fun k hk=>⟨?_,hb.block k (h1.owns k j hk).2.1⟩⟩) (fun j hj=>?_) (fun k i hk=>?_) (fun _=>.inl) (fun t=>?_) (fun t hA=>?_) (fun k hk _=>hb.block k hk) (fun k i hk=>?_) (fun j hj=>?_)
 ·show(match iy dst l j with|some x=>Ob.row x.2.1 x.2.2|none=>S1.o j)=S1.o j;rw[MA j hj]
 ·show(match iy dst l j with|some x=>vs.getD x.1 undef|none=>hv j)=hv j;rw[MA j hj]
 ·show own' k=some j;simp only[own',vM k j hk,hk,MA j hj]
 ·obtain⟨⟨i,T,e⟩,hx⟩:=hj;obtain⟨rfl,hi⟩:=anv hx;show cd C _ ρ' σ' own' hv' w' w0.heap.size (gj dst i) (match iy dst l (gj dst i) with|some x=>Ob.row x.2.1 x.2.2|none=>S1.o (gj dst i));rw[hx];obtain⟨cells,xs,g1,g2,g3,g4⟩:=dG i _ hi;have e2:hv' (gj dst i)=vs.getD i undef:=by simp only[hv',hx]
  refine⟨cells,xs,?_,?_,g3,fun k hk=>?_⟩
  ·rw[r3 i T e hi];simpa [D.c,D.cells] using g1
  ·rw[e2];refine⟨g2.1,?_⟩;rcases g2.2 with e1|⟨g,cap,cur,e1,e3,e4⟩
   ·exact .inl e1
   ·exact .inr ⟨g,cap,cur,e1,by omega,e4⟩
  ·rw[e2] at hk;simp only[own',g4 k hk]
 ·simp only[own'] at hk;split at hk
  ·rename_i i' cU;have:=rV k i' cU;exact⟨by omega,this.2.1,this.2.2.1,this.2.2.2⟩
  ·split at hk
   ·rename_i j hj;obtain⟨g1,g2,g3,g4⟩:=h1.owns k j hj;refine⟨g1,by have:=hb.size;omega,fun o=>?_,?_⟩
    ·cases hc:σ'.c k o with
     |none=>rfl
     |some x=>rcases cP k o x hc with e|e
              ·rw[g3 o] at e;cases e
              ·omega
    ·cases hc:σ'.m k with
     |none=>rfl
     |some x=>rcases cI k x hc with e|e
              ·rw[g4] at e;cases e
              ·omega
   ·cases hk
 ·by_cases hu:t=dst
  ·subst hu;refine .inr ⟨?_,fun gs s e=>?_⟩
   ·rw[w8];have e3:ρ'.r t=.agg ds:=by rw[r1];exact aaD
    simp only[St.setR,aL,af,and_self,if_true,e3];obtain⟨q1,q2⟩:=aao S1 t l 0;refine⟨vs,ds,rfl,rfl,by omega,by omega,fun i c hc=>?_⟩;rcases q2 i c hc with⟨ty,hl,rfl⟩|⟨T,e,hl,rfl⟩
    ·exact dG i _ hl
    ·rw[gz];have hx:=aan qh hl;refine⟨?_,fun _=>?_⟩
     ·show S1.ver (gj t i)+1≤(match iy t l (gj t i) with|some _=>S1.ver (gj t i)+1|none=>S1.ver (gj t i));rw[hx];exact bf _
     ·simp only[hv',hx]
   ·simp only[St.setR,aL] at e;cases e
  ·refine .inl ⟨bl _ _ hu,?_,?_⟩
   ·rw[w8];simp[hu]
   ·rw[r1];exact bl _ _ hu
 ·rw[r1];exact bl _ _ (fun e=>ht (e▸hA))
 ·simp only[own'] at hk;split at hk
  ·rename_i i' cU;exact .inr (rV k i' cU).1
  ·split at hk
   ·rename_i j hj;exact .inl ⟨j,hj⟩
   ·cases hk
 ·obtain⟨x,hx⟩:=hj;show(match iy dst l j with|some x=>Ob.row x.2.1 x.2.2|none=>S1.o j)≠.tr;rw[hx];intro e;cases e
theorem aea (h:Inv C S ρ σ own hv w0 σ0 A a w)(hC:CtxOK C σ0)(aW:dj C)(hΦ:cT C Φ)(ht:¬A dst)(af:dst<a.tmps.size){f:Nat}{args:Array Operand}{ts:Array TypeId}{r:St×List PI}
 (hr:BA C S dst f args.toList=some r) {o:Oper} (hd:o.dst=some dst) (ho:o.op=.call {callee:=.value (.func f),args:=args,argTypes:=ts}):bR C w0 σ0 Φ S ρ A a w o r:=by
 simp only[BA,au] at hr;obtain⟨s,hs,hr⟩:=hr;split at hr
 case h_2=>cases hr
 rename_i shs obs x xs kE ia;split at hr
 case h_2=>cases hr
 rename_i m j ver kS gD;split at hr
 case h_2=>cases hr
 rename_i T e eo;cases hb:(Nat.beq ver (S.ver j)&&(Nat.beq T m.1&&Ty.beq e m.2.1))<;>simp only[hb,cond_true,cond_false] at hr
 ·cases hr
 simp only[ak] at hb;have dH:=ay hb.1;have hT:=ay hb.2.1;have he:=Ty.beq_eq _ _ hb.2.2;simp only[au] at hr;obtain⟨u,hu,hr⟩:=hr;cases bJ:Ty.subs u.1 m.2.2<;>simp only[bJ,cond_true,cond_false] at hr
 ·cases hr
 cases hr;intro ρ' ah K Q hK;have Cm:holds ([]:List (Nat×Bool)) ρ=true:=rfl;simp only[PI.runs,PI.run,Cm,cond_true,au,az] at ah;obtain⟨ρ1,⟨d,bj,rfl⟩,ρ2,g2,ρ3,g3,g4⟩:=ah;cases g2;cases g3;cases g4;have hfn:=(hΦ f _ d bj s hs).2 shs obs kE;unfold gu at hfn;rw[kS] at hfn;simp only at hfn;rw[←hT,←he] at hfn;have bZ:=(qQ h (gs:=[]) rfl x).1;rw[gD] at bZ;have bZ:=bZ.2 dH;have aV:=h.objs j;rw[eo] at aV;obtain⟨cells,ys,h1,h2,h3,h4⟩:=aV;have jC:args.map a.eval=(a.eval x::xs.map a.eval).toArray:=by apply qZ;rw[uV,ia];rfl
 refine Bi hd (Ey aW hs ho) ?_;rw[jC,bZ];have aJ:=h.below.size
 have oO:=hfn w0.heap.size σ w (hv j) (xs.map a.eval) ys cells (PE.evs ρ u.2) (by simp[PE.evs,PE.ev,h1]) h.ok (hC.mono h.le) aJ h2 h3 (fun k hk=>by
  have:=h.owns k j (h4 k hk);exact this.2) (AI h hC rfl hu bJ)
 refine oO.mono fun e' w' hh=>?_;obtain⟨v',jK,dv,rfl,rfl,B8,vM,ais,ahu,VC⟩:=hh;refine hK _ _ ?_ (size_put _ _ _);have gC:(fun u=>A u∨o.dst=some u)=(fun u=>A u∨u=dst):=by funext u;rw[hd];simp[eq_comm]
 rw[gC]
 have Nb:=h.updO j (.row T e) (.list jK) v' (fun k=>decide (v'.ownBlock=some k)) B8 (fun k hk aB=>vM k hk (fun e=>aB (h4 k e))) (fun k hk=>by
  have bn:v'.ownBlock=some k:=by simpa using hk
  exact⟨(VC k bn).1.imp (h4 k) id,(VC k bn).2⟩)
  ⟨dv,jK,by simp[Env.setO,aL],by rw[aL];exact ais,ahu,fun k hk=>by rw[aL] at hk;simp[fc,hk]⟩
 have h9:=Nb.setObj ht (j:=j) (v:=v') (aL _ _ _) af;have e1:(S.newO j (.row T e)).ver j=S.ver j+1:=aL _ _ _;rw[e1] at h9;have eρ:((ρ.setR dst (.list jK)).setO j ((PE.r dst).ev (ρ.setR dst (.list jK)))).setR dst ((PE.con D.none).ev ((ρ.setR dst (.list jK)).setO j ((PE.r dst).ev (ρ.setR dst (.list jK)))))=(ρ.setO j (.list jK)).setR dst .none:=by
  have:∀d1 d2:D,bQ (bQ ρ.r dst d1) dst d2=bQ ρ.r dst d2:=by
   intro d1 d2;funext i;simp only[eN];split<;>rfl
  simp[Env.setR,Env.setO,PE.ev,aL,this]
 show Good C w0 σ0 _ _ _ _ _;rw[eρ];exact⟨_,_,_,h9⟩
end
def gY:Nat:=1000000013
abbrev m6:=Sh×Option (Ty×PE)
def E5 (C:Ctx)(S:St)(x:Operand):m6:=(ff S [] x,use C S [] x)
def Ud (c:Nat×Nat):m6:=(.ptr c.1 c.2 0,none)
def cB:List Nat→List Nat→Nat→Option Nat
 |i::is,j::js,k=>bif Nat.beq i k then some j else cB is js k
 |_,_,_=>none
def amz:Sh→Sh→List (Nat×Nat)
 |.obj i _,.obj j _=>[(i,j)]
 |.ptr i _ _,.ptr j _ _=>[(i,j)]
 |.fclo _ a,.fclo _ b=>(a.zip b).map fun x=>(x.1.1,x.2.1)
 |_,_=>[]
def OJ:List Sh→List Sh→List (Nat×Nat)
 |a::aa,b::bs=>amz a b++OJ aa bs
 |_,_=>[]
def amy:Ob→Ob→List (Nat×Nat)
 |.box _ a,.box _ b=>OJ a b
 |_,_=>[]
def Xp:List (Nat×Nat)→Nat→Nat
 |[],_=>gY
 |x::l,i=>bif Nat.beq x.1 i then x.2 else Xp l i
def alq (S:St)(obs:List (Nat×Ob))(p:List (Nat×Nat)):List (Nat×Nat):=p++p.flatMap fun x=>amy (dU obs x.1) (S.o x.2)
def UU (S:St)(shs:List Sh)(obs:List (Nat×Ob))(acts:List m6):List Nat:=obs.map fun o=>Xp (alq S obs (OJ shs (acts.map (·.1)))) o.1
section
variable (ver:Nat→Nat) (is js:List Nat)
def Ev:List (Nat×Nat)→Option (List (Nat×Nat))
 |[]=>some []
 |x::l=>bif Nat.beq x.2 0 then(cB is js x.1).bind fun j=>(Ev l).map fun r=>(j,ver j)::r else none
def ka:Sh→Option Sh
 |.dat t=>some (.dat t)
 |.none=>some .none
 |.obj i v=>bif Nat.beq v 0 then(cB is js i).map fun j=>.obj j (ver j) else none
 |.ptr i v off=>bif Nat.beq v 0 then(cB is js i).map fun j=>.ptr j (ver j) off else none
 |.fclo f caps=>(Ev ver is js caps).map (.fclo f)
 |_=>none
def Ew:List Sh→Option (List Sh)
 |[]=>some []
 |s::l=>(ka ver is js s).bind fun a=>(Ew l).map (a::·)
def pG:Ob→Option Ob
 |.row T e=>some (.row T e)
 |.mp a b=>some (.mp a b)
 |.box ag shs=>(Ew ver is js shs).map (.box ag)
 |_=>none
end
def BR (c:Sh):Sh→Bool
 |.none=>true
 |.dat b=>match c with|.dat a=>Ty.sub a b|_=>false
 |x=>Sh.beq c x
def yO:List Sh→List Sh→Bool
 |[],[]=>true
 |a::aa,b::bs=>BR a b&&yO aa bs
 |_,_=>false
def yN:Ob→Ob→Bool
 |.box x a,.box y b=>(x==y)&&yO a b
 |.row T a,.row U b=>Nat.beq T U&&Ty.beq a b
 |.mp a b,.mp c d=>Ty.beq a c&&Ty.beq b d
 |_,_=>false
def qd (S:St)(is js:List Nat):List (Nat×Ob)→List Nat→Bool
 |[],[]=>true
 |o::obs,j::jl=>(match pG S.ver is js o.2 with|some x=>yN (S.o j) x|none=>false)&&qd S is js obs jl
 |_,_=>false
def BP (S:St)(is js:List Nat)(a:m6)(s:Sh):Option PE:=
 match s with
 |.dat t=>(match a.2 with|some x=>bif Ty.sub x.1 t then some x.2 else none|none=>none)
 |.none=>some (.con .none)
 |s=>(match ka S.ver is js s with|some x=>bif Sh.beq a.1 x then some (.con .none) else none|none=>none)
def tw (S:St)(is js:List Nat):List m6→List Sh→Option (List PE)
 |[],[]=>some []
 |a::aa,s::ss=>(BP S is js a s).bind fun e=>(tw S is js aa ss).map (e::·)
 |_,_=>none
def oF:List Sh→List Nat
 |[]=>[]
 |.obj i _::l=>i::oF l
 |.ptr i _ _::l=>i::oF l
 |.fclo _ c::l=>c.map (·.1)++oF l
 |_::l=>oF l
def aD (l:List Nat)(x:Nat):Bool:=l.any (Nat.beq x)
def uR (ver:Nat→Nat)(shs:List Sh)(is js:List Nat):Nat→Nat:=fun j=>match cB js is j with|some i=>bif aD (oF shs) i then ver j else ver j+1|none=>ver j
def St.handed (S:St)(shs:List Sh)(obs:List (Nat×Ob))(is js:List Nat):St:=
 ⟨S.r,fun j=>match cB js is j with|some i=>(match pG (uR S.ver shs is js) is js (dU obs i) with|some o=>o|none=>.dead)|none=>S.o j,uR S.ver shs is js⟩
def yQ (S:St):List Operand→List Sh→List Nat
 |x::xs,s::ss=>(bif mO s then bK S [] [x] else[])++yQ S xs ss
 |_,_=>[]
def EC:List Nat→Nat→List PI
 |[],_=>[]
 |j::js,k=>.setO j (.tget (.o gY) k)::EC js (k+1)
def Ln (S:St)(res:Ty)(f:Nat)(shs:List Sh)(obs:List (Nat×Ob))(acts:List m6)(is js:List Nat):Option (St×Ty×List PI):=
 (tw S is js acts shs).bind fun es=>
    bif wA shs obs&&(gl is&&gl js&&qd S is js obs js&&nG (S.o gY)&& !aD js gY) then some (S.handed shs obs is js,res,.mcall gY f (es++js.map .o)::EC js 1) else none
def Lo (C:Ctx)(S:St)(res:Ty)(f:Nat)(shs:List Sh)(obs:List (Nat×Ob))(acts:List m6):Option (St×Ty×List PI):=
 Ln S res f shs obs acts (obs.map (·.1)) (UU S shs obs acts)
def p8 (C:Ctx)(S:St)(f:Nat)(args:List Operand)(caps:List (Nat×Nat)):Option (St×Ty×List PI):=
 (C.sig f).bind fun s=>
    match s.mode with
    |.ob shs obs=>Lo C (S.fzs (yQ S args shs)) s.res f shs obs (args.map (E5 C (S.fzs (yQ S args shs)))++caps.map Ud)
    |_=>none
theorem WI {l:List Nat}{x:Nat}:aD l x=true↔x∈l:=by
 unfold aD;rw[jL];exact⟨fun⟨y,hy,h⟩=>by rw[ay h];exact hy,fun h=>⟨x,h,gy x⟩⟩
theorem Xk:∀{is js:List Nat} {i j:Nat},cB is js i=some j→∃k:Nat,is[k]?=some i∧js[k]?=some j
 |[],_,i,j,h=>by cases h
 |_::_,[],i,j,h=>by cases h
 |x::is,y::js,i,j,h=>by
  simp only[cB] at h;cases hb:Nat.beq x i<;>simp only[hb,cond_true,cond_false] at h
  ·obtain⟨k,h1,h2⟩:=Xk h;exact⟨k+1,h1,h2⟩
  ·cases h;exact⟨0,by rw[ay hb];rfl,rfl⟩
theorem HU:∀{is js:List Nat} {i j k:Nat},is.Nodup→is[k]?=some i→js[k]?=some j→cB is js i=some j
 |[],_,i,j,k,_,h,_=>by simp at h
 |_::_,[],i,j,k,_,_,h=>by simp at h
 |x::is,y::js,i,j,k,hn,h1,h2=>by
  simp only[cB];cases k with
  |zero=>simp at h1 h2;subst h1 h2;rw[gy];rfl
  |succ k=>
   simp at h1 h2;have aB:x≠i:=fun e=>by subst e;exact(mA.1 hn).1 (lF h1)
   rw[dY aB];exact HU (mA.1 hn).2 h1 h2
theorem HV {is js:List Nat}(h2:js.Nodup){i j:Nat}(h:cB is js i=some j):cB js is j=some i:=by
 obtain⟨k,g1,g2⟩:=Xk h;exact HU h2 g2 g1
theorem ajJ (obs:List (Nat×Ob))(f:Nat→D):∀{is js:List Nat} {i j:Nat},is=obs.map (·.1)→cB is js i=some j→mR obs (js.map f) i=f j:=by
 induction obs with
 |nil=>intro is js i j h1 h2;subst h1;cases h2
 |cons x l ih=>
  intro is js i j h1 h2;subst h1;cases js with
  |nil=>cases h2
  |cons y js=>
   simp only[gx,cB] at h2;simp only[gx,mR];cases hb:Nat.beq x.1 i<;>simp only[hb,cond_true,cond_false] at h2 ⊢
   ·exact ih rfl h2
   ·cases h2;rfl
theorem Xg:∀{obs:List (Nat×Ob)} {js:List Nat} {os:List D} {i j:Nat},os.length=obs.length→cB (obs.map (·.1)) js i=some j→∃k:Nat,js[k]?=some j∧mR obs os i=os.getD k .none
 |[],_,_,i,j,_,h=>by cases h
 |_::_,[],_,i,j,_,h=>by cases h
 |_::_,_::_,[],i,j,hl,h=>by simp at hl
 |x::obs,y::js,o::os,i,j,hl,h=>by
  simp only[gx,cB] at h;simp only[mR];cases hb:Nat.beq x.1 i<;>simp only[hb,cond_true,cond_false] at h ⊢
  ·obtain⟨k,h1,h2⟩:=Xg (obs:=obs) (js:=js) (os:=os) (by simpa using hl) h;exact⟨k+1,h1,by simpa using h2⟩
  ·cases h;exact⟨0,rfl,rfl⟩
theorem Xn:∀{obs:List (Nat×Ob)} {js:List Nat} {i:Nat},js.length=obs.length→cB (obs.map (·.1)) js i=none→dU obs i=.dead
 |[],_,i,_,_=>rfl
 |x::obs,[],i,hl,h=>by simp at hl
 |x::obs,y::js,i,hl,h=>by
  simp only[gx,cB] at h;simp only[dU];cases hb:Nat.beq x.1 i<;>simp only[hb,cond_true,cond_false] at h ⊢
  ·exact Xn (by simpa using hl) h
  ·cases h
theorem U2 {S:St}{is js:List Nat}:∀{obs:List (Nat×Ob)} {jl:List Nat},qd S is js obs jl=true→jl.length=obs.length
 |[],[],_=>rfl
 |[],_::_,h=>by simp[qd] at h
 |_::_,[],h=>by simp[qd] at h
 |o::obs,j::jl,h=>by simp only[qd,ak] at h;simp[U2 h.2]
theorem U1 {S:St}{is js:List Nat}:∀{obs:List (Nat×Ob)} {jl:List Nat},qd S is js obs jl=true→∀{i j:Nat},cB (obs.map (·.1)) jl i=some j→∃x,pG S.ver is js (dU obs i)=some x∧yN (S.o j) x=true
 |[],_,_,i,j,h=>by cases h
 |_::_,[],_,i,j,h=>by cases h
 |o::obs,y::jl,hf,i,j,h=>by
  simp only[qd,ak] at hf;simp only[gx,cB] at h;simp only[dU];cases hb:Nat.beq o.1 i<;>simp only[hb,cond_true,cond_false] at h ⊢
  ·exact U1 hf.2 h
  ·cases h;have h1:=hf.1;split at h1
   ·rename_i x hx;exact⟨x,hx,h1⟩
   ·cases h1
theorem U3:∀{a b:List Sh},yO a b=true→a.length=b.length∧∀(i:Nat) (y:Sh),b[i]?=some y→∃x,a[i]?=some x∧BR x y=true
 |[],[],_=>⟨rfl,fun i y h=>by simp at h⟩
 |[],_::_,h=>by simp[yO] at h
 |_::_,[],h=>by simp[yO] at h
 |a::aa,b::bs,h=>by
  simp only[yO,ak] at h;obtain⟨g1,g2⟩:=U3 h.2;refine⟨by simp[g1],fun i y hy=>?_⟩;cases i with
  |zero=>simp at hy;subst hy;exact⟨a,rfl,h.1⟩
  |succ i=>simp at hy;simpa using g2 i y hy
theorem Qn {ver:Nat→Nat}{is js:List Nat}:∀{a b:List Sh},Ew ver is js a=some b→b.length=a.length∧∀(i:Nat) (x:Sh),a[i]?=some x→∃y,b[i]?=some y∧ka ver is js x=some y
 |[],b,h=>by simp only[Ew,aR] at h;subst h;exact⟨rfl,fun i x h=>by simp at h⟩
 |s::l,b,h=>by
  simp only[Ew,au,az] at h;obtain⟨y,hy,r,hr,rfl⟩:=h;obtain⟨g1,g2⟩:=Qn hr;refine⟨by simp[g1],fun i x hx=>?_⟩;cases i with
  |zero=>simp at hx;subst hx;exact⟨y,rfl,hy⟩
  |succ i=>simp at hx;simpa using g2 i x hx
theorem Jm {ver:Nat→Nat}{is js:List Nat}:∀{a b:List (Nat×Nat)},Ev ver is js a=some b→b.length=a.length∧∀(i x v:Nat),a[i]?=some (x,v)→∃j,b[i]?=some (j,ver j)∧cB is js x=some j∧v=0
 |[],b,h=>by simp only[Ev,aR] at h;subst h;exact⟨rfl,fun i x v h=>by simp at h⟩
 |s::l,b,h=>by
  simp only[Ev] at h;cases hb:Nat.beq s.2 0<;>simp only[hb,cond_true,cond_false] at h
  ·cases h
  simp only[au,az] at h;obtain⟨y,hy,r,hr,rfl⟩:=h;obtain⟨g1,g2⟩:=Jm hr;refine⟨by simp[g1],fun i x v hx=>?_⟩;cases i with
  |zero=>simp at hx;subst hx;exact⟨y,rfl,hy,ay hb⟩
  |succ i=>simp at hx;simpa using g2 i x v hx
theorem Qm {ver:Nat→Nat}{is js:List Nat}{s x:Sh}(h:ka ver is js s=some x):(∀gs s',s≠.opt gs s')∧∀gs s',x≠.opt gs s':=by
 cases s<;>simp only[ka] at h
 case none=>cases h;exact⟨(fun _ _ e=>by cases e),(fun _ _ e=>by cases e)⟩
 case dat=>cases h;exact⟨(fun _ _ e=>by cases e),(fun _ _ e=>by cases e)⟩
 case obj i v=>
  cases hb:Nat.beq v 0<;>simp only[hb,cond_true,cond_false] at h
  ·cases h
  simp only[az] at h;obtain⟨j,_,rfl⟩:=h;exact⟨(fun _ _ e=>by cases e),(fun _ _ e=>by cases e)⟩
 case ptr i v off=>
  cases hb:Nat.beq v 0<;>simp only[hb,cond_true,cond_false] at h
  ·cases h
  simp only[az] at h;obtain⟨j,_,rfl⟩:=h;exact⟨(fun _ _ e=>by cases e),(fun _ _ e=>by cases e)⟩
 case fclo f caps=>
  simp only[az] at h;obtain⟨j,_,rfl⟩:=h;exact⟨(fun _ _ e=>by cases e),(fun _ _ e=>by cases e)⟩
 all_goals cases h
section
variable {C:Ctx} {S S1:St} {ρ ρ1:Env} {σ σ1:Im} {own db:Nat→Option Nat} {hv aQ:Nat→Value} {w0:World} {σ0:Base} {A:Nat→Prop} {a:Act} {w w1:World} {Φ:aP} {dst:Nat}
 {is js:List Nat} {shs:List Sh} {obs:List (Nat×Ob)} {ρf:Env}
theorem aaN (hσ:Im.leR C.cap σ σ1){ew:Nat→Value}(fC:∀i j,cB is js i=some j→ew i=hv j){s x:Sh}(hr:ka S.ver is js s=some x){v:Value}{d:D}(h:aH C S ρ σ hv x v d):aH C (fG shs obs) ρf σ1 ew s v d:=by
 cases s<;>simp only[ka] at hr
 case none=>trivial
 case dat=>cases hr;exact hσ.rep h
 case obj i ver=>
  cases hb:Nat.beq ver 0<;>simp only[hb,cond_true,cond_false] at hr
  ·cases hr
  simp only[az] at hr;obtain⟨j,hj,rfl⟩:=hr;exact⟨by rw[ay hb];exact ot _,fun _=>by rw[fC i j hj];exact h.2 rfl⟩
 case ptr i ver off=>
  cases hb:Nat.beq ver 0<;>simp only[hb,cond_true,cond_false] at hr
  ·cases hr
  simp only[az] at hr;obtain⟨j,hj,rfl⟩:=hr;exact⟨by rw[ay hb];exact ot _,fun _=>by rw[fC i j hj];exact h.2 rfl⟩
 case fclo f caps=>
  simp only[az] at hr;obtain⟨c,hc,rfl⟩:=hr;obtain⟨g1,g2⟩:=Jm hc;obtain⟨vs,h1,h2,h3⟩:=h;refine⟨vs,h1,by omega,fun i x ver hi=>?_⟩;obtain⟨j,e1,e2,e3⟩:=g2 i x ver hi;exact⟨by rw[e3];exact ot _,fun _=>by rw[fC x j e2];exact(h3 i j _ e1).2 rfl⟩
 all_goals cases hr
theorem anQ (hσ:σ.le σ1){ew:Nat→Value}(fC:∀i j,cB is js i=some j→ew i=aQ j){s x:Sh}(hr:ka S1.ver is js s=some x){v:Value}{d:D}(h:aH C (fG shs obs) ρf σ ew s v d):aH C S1 ρ1 σ1 aQ x v d:=by
 cases s<;>simp only[ka] at hr
 case none=>cases hr;trivial
 case dat=>cases hr;exact Rep.mono hσ h
 case obj i ver=>
  cases hb:Nat.beq ver 0<;>simp only[hb,cond_true,cond_false] at hr
  ·cases hr
  simp only[az] at hr;obtain⟨j,hj,rfl⟩:=hr;exact⟨bf _,fun _=>by rw[←fC i j hj];exact h.2 (ay hb)⟩
 case ptr i ver off=>
  cases hb:Nat.beq ver 0<;>simp only[hb,cond_true,cond_false] at hr
  ·cases hr
  simp only[az] at hr;obtain⟨j,hj,rfl⟩:=hr;exact⟨bf _,fun _=>by rw[←fC i j hj];exact h.2 (ay hb)⟩
 case fclo f caps=>
  simp only[az] at hr;obtain⟨c,hc,rfl⟩:=hr;obtain⟨g1,g2⟩:=Jm hc;obtain⟨vs,h1,h2,h3⟩:=h;refine⟨vs,h1,by omega,fun i j ver hi=>?_⟩;have af:i<caps.length:=by have:=(eh.1 hi).1;omega
  obtain⟨j',e1,e2,e3⟩:=g2 i _ _ (bA af);rw[hi] at e1;cases e1;exact⟨bf _,fun _=>by rw[←fC _ j e2];exact(h3 i _ _ (bA af)).2 e3⟩
 all_goals cases hr
theorem afa {c x:Sh}(hf:BR c x=true){v:Value}{d:D}(h:aH C S ρ σ hv c v d):aH C S ρ σ hv x v d:=by
 cases x with
 |none=>trivial
 |dat b=>
  simp only[BR] at hf;split at hf
  ·exact Rep.sub h hf
  ·cases hf
 |_=>simp only[BR] at hf;rw[Sh.beq_eq _ _ hf] at h;exact h
theorem alH (hσ:Im.leR C.cap σ σ1){ew:Nat→Value}{Dn:Nat→Option Nat}(fC:∀i j,cB is js i=some j→ew i=hv j)(bY:∀k j i,own k=some j→cB js is j=some i→Dn k=some i)(bk:js.Nodup){i j N:Nat}(cZ:cB is js i=some j)(hρ:ρf.o i=ρ.o j){ob x:Ob}
 (hr:pG S.ver is js ob=some x) (hf:yN (S.o j) x=true) (h:cd C S ρ σ own hv w N j (S.o j)):cd C (fG shs obs) ρf σ1 Dn ew w N i ob:=by
 have gQ:=HV bk cZ;cases ob<;>simp only[pG] at hr
 case row T e=>
  cases hr;cases ho:S.o j<;>rw[ho] at hf h<;>simp only[yN,ak] at hf<;>try (cases hf;done)
  obtain⟨cells,xs,h1,h2,h3,h4⟩:=h;rw[ay hf.1,Ty.beq_eq _ _ hf.2] at*;exact⟨cells,xs,by rw[hρ];exact h1,by rw[fC i j cZ];exact h2,h3.monoR hσ,fun k hk=>bY k j i (h4 k (by rw[←fC i j cZ];exact hk)) gQ⟩
 case mp kt et=>
  cases hr;cases ho:S.o j<;>rw[ho] at hf h<;>simp only[yN,ak] at hf<;>try (cases hf;done)
  obtain⟨k,arr,clock,es,h1,h2,h3,h4,h5,h6,h7⟩:=h;rw[Ty.beq_eq _ _ hf.1,Ty.beq_eq _ _ hf.2] at*;exact⟨k,arr,clock,es,by rw[fC i j cZ];exact h1,bY k j i h2 gQ,h3,by rw[hρ];exact h4,h5,h6,fun n e p he hp=>⟨hσ.rep (h7 n e p he hp).1,hσ.rep (h7 n e p he hp).2⟩⟩
 case box ag cs=>
  simp only[az] at hr;obtain⟨cs',dE,rfl⟩:=hr;cases ho:S.o j<;>rw[ho] at hf h<;>simp only[yN,ak] at hf<;>try (cases hf;done)
  obtain⟨k,vs,T,ds,h1,h2,h3,h4,h5,h6,h7⟩:=h;obtain⟨l1,g1⟩:=U3 hf.2;obtain⟨l2,g2⟩:=Qn dE;refine⟨k,vs,T,ds,by rw[fC i j cZ];exact h1,bY k j i h2 gQ,h3,by omega,by rw[hρ];exact h5,by omega,fun n s hs=>?_⟩;obtain⟨y,hy,CT⟩:=g2 n s hs;obtain⟨z,hz,Ck⟩:=g1 n y hy;exact⟨(Qm CT).1,aaN hσ fC CT (afa Ck (h7 n z hz).2)⟩
 all_goals cases hr
theorem alI (hσ:σ.le σ1){ew:Nat→Value}{Dn:Nat→Option Nat}(fC:∀i j,cB is js i=some j→ew i=aQ j)(bY:∀k i j,Dn k=some i→cB is js i=some j→db k=some j){i j N:Nat}(cZ:cB is js i=some j)(hρ:ρ1.o j=ρf.o i){ob x:Ob}
 (hr:pG S1.ver is js ob=some x) (h:cd C (fG shs obs) ρf σ Dn ew w N i ob):cd C S1 ρ1 σ1 db aQ w N j x:=by
 cases ob<;>simp only[pG] at hr
 case row T e=>
  cases hr;obtain⟨cells,xs,h1,h2,h3,h4⟩:=h;exact⟨cells,xs,by rw[hρ];exact h1,by rw[←fC i j cZ];exact h2,h3.mono hσ,fun k hk=>bY k i j (h4 k (by rw[fC i j cZ];exact hk)) cZ⟩
 case mp kt et=>
  cases hr;obtain⟨k,arr,clock,es,h1,h2,h3,h4,h5,h6,h7⟩:=h;exact⟨k,arr,clock,es,by rw[←fC i j cZ];exact h1,bY k i j h2 cZ,h3,by rw[hρ];exact h4,h5,h6,fun n e p he hp=>⟨(h7 n e p he hp).1.mono hσ,(h7 n e p he hp).2.mono hσ⟩⟩
 case box ag cs=>
  simp only[az] at hr;obtain⟨cs',dE,rfl⟩:=hr;obtain⟨k,vs,T,ds,h1,h2,h3,h4,h5,h6,h7⟩:=h;obtain⟨l2,g2⟩:=Qn dE;refine⟨k,vs,T,ds,by rw[←fC i j cZ];exact h1,bY k i j h2 cZ,h3,by omega,by rw[hρ];exact h5,by omega,fun n s hs=>?_⟩;have af:n<cs.length:=by have:=(eh.1 hs).1;omega
  obtain⟨y,hy,CT⟩:=g2 n _ (bA af);rw[hs] at hy;cases hy;exact⟨(Qm CT).2,anQ hσ fC CT (h7 n _ (bA af)).2⟩
 all_goals cases hr
theorem anP {ver:Nat→Nat}{ob x:Ob}(hr:pG ver is js ob=some x):x≠.tr:=by
 cases ob<;>simp only[pG] at hr
 case row=>cases hr;intro e;cases e
 case mp=>cases hr;intro e;cases e
 case box=>
  simp only[az] at hr;obtain⟨_,_,rfl⟩:=hr;intro e;cases e
 all_goals cases hr
theorem CtxOK.noM (h:CtxOK C σ):CtxOK C σ.noM:=⟨fun g x hx=>(h.glob g x hx).noM⟩
def ER (C:Ctx)(S:St)(ρ:Env)(σ:Im)(hv:Nat→Value)(x:m6)(v:Value)(d:D):Prop:=aH C S ρ σ hv x.1 v d∧∀y,x.2=some y→Rep C.cap σ y.1 v (y.2.ev ρ)
theorem UZ:∀{acts:List m6} {shs:List Sh} {es:List PE},tw S is js acts shs=some es→acts.length=shs.length∧es.length=shs.length∧∀(t:Nat) (s:Sh),shs[t]?=some s→∃x e,acts[t]?=some x∧es[t]?=some e∧BP S is js x s=some e
 |[],[],es,h=>by simp only[tw,aR] at h;subst h;exact⟨rfl,rfl,fun t s h=>by simp at h⟩
 |[],_::_,es,h=>by simp[tw] at h
 |_::_,[],es,h=>by simp[tw] at h
 |x::acts,s::shs,es,h=>by
  simp only[tw,au,az] at h;obtain⟨e,he,r,hr,rfl⟩:=h;obtain⟨g1,g2,g3⟩:=UZ hr;refine⟨by simp[g1],by simp[g2],fun t s' hs=>?_⟩;cases t with
  |zero=>simp at hs;subst hs;exact⟨x,e,rfl,rfl,he⟩
  |succ t=>simp at hs;simpa using g3 t s' hs
theorem ae8 (hσ:Im.leR C.cap σ σ1){ew:Nat→Value}(fC:∀i j,cB is js i=some j→ew i=hv j){x:m6}{s:Sh}{e:PE}(hf:BP S is js x s=some e){v:Value}{d:D}(h:ER C S ρ σ hv x v d):aH C (fG shs obs) ρf σ1 ew s v (e.ev ρ):=by
 have gen:∀s,(match ka S.ver is js s with|some y=>bif Sh.beq x.1 y then some (PE.con .none) else none|none=>none)=some e→mO s=false→aH C (fG shs obs) ρf σ1 ew s v (e.ev ρ):=by
  intro s hm hd;split at hm
  ·rename_i y hy;cases hb:Sh.beq x.1 y<;>simp only[hb,cond_true,cond_false] at hm
   ·cases hm
   have h1:=h.1;rw[Sh.beq_eq _ _ hb] at h1;have:=aaN (shs:=shs) (obs:=obs) (ρf:=ρf) hσ fC hy h1;cases s with
   |dat t=>cases hd
   |opt gs s'=>exact absurd rfl ((Qm hy).1 gs s')
   |eptr j ver size off=>simp[ka] at hy
   |agg l=>simp[ka] at hy
   |_=>exact this
  ·cases hm
 unfold BP at hf;split at hf
 ·rename_i t;split at hf
  ·rename_i y hy;cases hb:Ty.sub y.1 t<;>simp only[hb,cond_true,cond_false] at hf
   ·cases hf
   cases hf;exact hσ.rep ((h.2 y hy).sub hb)
  ·cases hf
 ·trivial
 ·rename_i kT oT;refine gen _ hf ?_;cases s<;>first|rfl|exact absurd rfl (kT _)
theorem adR {ew Nd:Nat→Value}{σ σ':Im}{ρf ρf':Env}{args:Nat→Value}{ds ds':Nat→D}(h1:∀(t:Nat) (s:Sh),shs[t]?=some s→aH C (fG shs obs) ρf σ ew s (args t) (ds t))(h2:∀(t:Nat) (s:Sh),shs[t]?=some s→mO s=false→aH C (fG shs obs) ρf' σ' Nd s (args t) (ds' t))
 (hz:∀s,s∈shs→∃x,ka S.ver is js s=some x) {i:Nat} (hi:i∈oF shs):Nd i=ew i:=by
 have key:∀(l:List Sh),(∀s,s∈l→∃t:Nat,shs[t]?=some s)→i∈oF l→Nd i=ew i:=by
  intro l
  induction l with
  |nil=>intro _ h;cases h
  |cons s l ih=>
   intro hl hi;obtain⟨t,ht⟩:=hl s (dt ..);have za:∀s,s∈l→∃t:Nat,shs[t]?=some s:=fun s hs=>hl s (dk _ hs);obtain⟨x,hx⟩:=hz s (lF ht);have a1:=h1 t s ht;have a2:=h2 t s ht;cases s<;>simp only[oF] at hi
   case obj j ver=>
        simp only[ka] at hx;cases hb:Nat.beq ver 0<;>simp only[hb,cond_true,cond_false] at hx
        ·cases hx
        rcases cD.1 hi with e|e
        ·subst e;rw[←(a1.2 (ay hb)),←((a2 rfl).2 (ay hb))]
        ·exact ih za e
   case ptr j ver off=>
        simp only[ka] at hx;cases hb:Nat.beq ver 0<;>simp only[hb,cond_true,cond_false] at hx
        ·cases hx
        rcases cD.1 hi with e|e
        ·subst e;obtain⟨k1,e1,e2⟩:=a1.2 (ay hb);obtain⟨k2,e3,e4⟩:=(a2 rfl).2 (ay hb);rw[e2] at e4;cases e4;rw[e1,e3]
        ·exact ih za e
   case fclo f caps=>
        simp only[ka,az] at hx;obtain⟨c,hc,_⟩:=hx;obtain⟨_,g2⟩:=Jm hc;rcases dB.1 hi with e|e
        ·obtain⟨y,hy,e1⟩:=eO.1 e;subst e1;obtain⟨m,hm⟩:=xm hy;obtain⟨vs,b1,b2,b3⟩:=a1;obtain⟨AK,c1,c2,c3⟩:=a2 rfl;rw[b1] at c1;have gU:vs=AK:=by simpa using c1
         subst gU;obtain⟨_,_,_,zq⟩:=g2 m y.1 y.2 hm;rw[←(b3 m y.1 y.2 hm).2 zq,←(c3 m y.1 y.2 hm).2 zq]
        ·exact ih za e
   all_goals exact ih za hi
 exact key shs (fun s hs=>xm hs) hi
end
section
variable {C:Ctx} {S:St} {ρ:Env} {σ:Im} {own:Nat→Option Nat} {hv:Nat→Value} {w0:World} {σ0:Base} {A:Nat→Prop} {a:Act} {w:World} {Φ:aP} {dst:Nat}
 {is js:List Nat} {shs:List Sh} {obs:List (Nat×Ob)}
theorem Below.weak {B:Nat}{w w':World}(h:Below 0 w w')(hk:∀k,k<B→w'.heap[k]?=w.heap[k]?):Below B w w':=⟨h.os,h.tape,h.output,h.size,hk⟩
def nM (js is:List Nat)(own:Nat→Option Nat):Nat→Option Nat:=fun k=>(own k).bind (cB js is)
def Dm (js is:List Nat)(own own':Nat→Option Nat):Nat→Option Nat:=fun k=>
 match own' k with
 |some i=>cB is js i
 |none=>match own k with|some j=>(match cB js is j with|some _=>none|none=>some j)|none=>none
theorem handed (h:Inv C S ρ σ own hv w0 σ0 A a w)(hC:CtxOK C σ0)(aix:wA shs obs=true)(Cp:is=obs.map (·.1))(Wb:is.Nodup)(Hv:js.Nodup)(He:qd S is js obs js=true){acts:List m6}{es:List PE}(iQ:tw S is js acts shs=some es)
 (Ha:S.o gY=.dead) (HG:gY∉js) {vals:List Value} (hvl:vals.length=acts.length) (agS:∀(t:Nat) (x:m6),acts[t]?=some x→∃d,ER C S ρ σ hv x (vals.getD t undef) d) {f:Nat} {res:Ty} {d:D}
 (hfn:sQ C f shs obs res (es.map (PE.ev ρ)++js.map ρ.o) d):
 Calls C.P f vals.toArray w fun e w'=>∃v dr os,e=.returned v∧d=.tup (dr::os)∧os.length=js.length∧
  ∀ρ':Env,ρ'.r=ρ.r→(∀(k j:Nat),js[k]?=some j→ρ'.o j=os.getD k .none)→(∀j,j∉js→j≠gY→ρ'.o j=ρ.o j)→
   ∃σ1 db aQ,Inv C (S.handed shs obs is js) ρ' σ1 db aQ w0 σ0 A a w'∧Rep C.cap σ1 res v dr:=by
 obtain⟨al1,al2,ia⟩:=UZ iQ;have fO:=U2 He;have tU:w0.heap.size≤w.heap.size:=h.below.size;obtain⟨tr,fx,cx,hf,rX⟩:=h.frame
 let ew:Nat→Value:=fun i=>match cB is js i with|some j=>hv j|none=>undef
 have fC:∀i j,cB is js i=some j→ew i=hv j:=fun i j e=>by simp only[ew,e]
 have V1:Im.leR C.cap σ σ.noM:=⟨Rep.noM,fun _ _ _ e=>e⟩
 have CD:∀k x,σ.noM.m k=some x→σ.m k=some x∧x≠cO:=by
  intro k x e;by_cases hd:σ.m k=some cO
  ·simp[Im.noM,hd] at e
  ·simp only[Im.noM,if_neg hd] at e;exact⟨e,fun e2=>hd (by rw[e,e2])⟩
 have rR:(es.map (PE.ev ρ)++js.map ρ.o).drop shs.length=js.map ρ.o:=by rw[List.drop_append];simp[al2]
 have ahF:∀t e,es[t]?=some e→(es.map (PE.ev ρ)++js.map ρ.o).getD t .none=e.ev ρ:=fun t e he=>by
  have af:=(eh.1 he).1;rw[aK,kl (by simpa using af),cw,he];rfl
 have aiI:∀s,s∈shs→∃x,ka S.ver is js s=some x:=by
  intro s hs;obtain⟨t,ht⟩:=xm hs;obtain⟨x,e,_,_,he⟩:=ia t s ht;unfold BP at he;split at he
  ·exact⟨_,rfl⟩
  ·exact⟨_,rfl⟩
  ·split at he
   ·rename_i y hy;exact⟨y,hy⟩
   ·cases he
 have VV:∀t,aH C (fG shs obs) (l8 obs (es.map (PE.ev ρ)++js.map ρ.o) ((es.map (PE.ev ρ)++js.map ρ.o).drop shs.length)) σ.noM ew (shs.getD t .none) (vals.toArray.getD t undef) ((es.map (PE.ev ρ)++js.map ρ.o).getD t .none):=by
  intro t;cases hs:shs[t]? with
  |none=>rw[aK,hs];trivial
  |some s=>
   obtain⟨x,e,hx,he,Hd⟩:=ia t s hs;obtain⟨d',agT⟩:=agS t x hx;rw[aK (l:=shs),hs,ahF t e he];have e1:vals.toArray.getD t undef=vals.getD t undef:=by simp[dL,aK]
   rw[e1];exact ae8 V1 fC Hd agT
 have ahQ:∀i,cd C (fG shs obs) (l8 obs (es.map (PE.ev ρ)++js.map ρ.o) ((es.map (PE.ev ρ)++js.map ρ.o).drop shs.length)) σ.noM (nM js is own) ew w w0.heap.size i (dU obs i):=by
  intro i;cases cZ:cB is js i with
  |none=>subst Cp;rw[Xn fO cZ];trivial
  |some j=>
   subst Cp;obtain⟨x,hx,Hf⟩:=U1 He cZ;refine alH V1 fC (fun k j' i' hk hl=>by simp only[nM,hk,jN,hl]) Hv cZ ?_ hx Hf (h.objs j);show mR obs _ i=_;rw[rR];exact ajJ obs ρ.o rfl cZ
 have oO:=hfn w0.heap.size σ.noM (nM js is own) ew w vals.toArray (fun k=>(∃j,own k=some j∧cB js is j=none)∨σ.m k=some cO∨(cx k)) aix ⟨h.ok.c,fun k x e=>h.ok.m k x (CD k x e).1⟩ ((hC.mono h.le).noM)
  (fun k e=>(CD k _ e).2 rfl) tU (by simp;omega) (fun k i hk=>by
    simp only[nM,au] at hk;obtain⟨j,hj,_⟩:=hk;obtain⟨g1,g2,g3,g4⟩:=h.owns k j hj;exact⟨g1,g2,g3,by by_cases e:σ.m k=some cO<;>simp[Im.noM,e,g4]⟩) (fun k hk=>by
    rcases hk with⟨j,hj,hn⟩|hk|hk
    ·obtain⟨g1,g2,g3,g4⟩:=h.owns k j hj;exact⟨g2,by simp[nM,hj,hn],g3,by by_cases e:σ.m k=some cO<;>simp[Im.noM,e,g4]⟩
    ·have CA:=h.ok.m k _ hk;have hn:own k=none:=by
      cases e:own k with
      |none=>rfl
      |some j=>rw[(h.owns k j e).2.2.2] at hk;cases hk
     refine⟨CA.lt,by simp[nM,hn],fun o=>?_,by simp[Im.noM,hk]⟩;cases e:σ.c k o with
     |none=>exact e
     |some x=>
      have c1:=h.ok.c k o x e;rcases CA with⟨m1,_⟩|⟨_,m2⟩
      ·exact absurd rfl m1
      ·simp[World.cell?,m2] at c1
    ·have kB:=σ0.sub _ _ _ _ hf.F k hk;have hn:own k=none:=by
      cases e:own k with
      |none=>rfl
      |some j=>exact absurd kB (hf.own k j e)
     refine⟨σ0.lt _ _ _ _ hf.F k kB,by simp[nM,hn],fun o=>?_,?_⟩
     ·cases e:σ.c k o with
      |none=>exact e
      |some x=>exact absurd hk (hf.c k o x e)
     ·cases e:σ.m k with
      |none=>simp[Im.noM,e]
      |some x=>exact absurd hk (hf.m k x e)) VV ahQ
 refine oO.mono fun e w' hh=>?_;obtain⟨v,σ',own',hv',dr,os,rfl,hd,MK,hle,aA,hb,iU,cP,cI,Hu,Wi,vM,MI,fB⟩:=hh;refine⟨v,dr,os,rfl,hd,by omega,fun ρ' il lT vU=>?_⟩;have Hz:∀k,k<w.heap.size→own k=none→w'.heap[k]?=w.heap[k]?:=fun k hk hn=>iU k hk (by simp[nM,hn]);have air:∀k j,own k=some j→cB js is j=none→w'.heap[k]?=w.heap[k]?:=fun k j hk hn=>iU k (h.owns k j hk).2.1 (by simp[nM,hk,hn])
 have ahj:∀k o x,σ.c k o=some x→own k=none:=fun k o x e=>by
  cases e1:own k with
  |none=>rfl
  |some j=>rw[(h.owns k j e1).2.2.1 o] at e;cases e
 have V9:∀k x,σ.m k=some x→own k=none:=fun k x e=>by
  cases e1:own k with
  |none=>rfl
  |some j=>rw[(h.owns k j e1).2.2.2] at e;cases e
 have HB:σ.ok w':=⟨fun k o x e=>by rw[World.cell?_of_block (Hz k (h.lt e) (ahj k o x e))];exact h.ok.c k o x e,fun k x e=>(h.ok.m k x e).keep (Hz k (h.ltm e) (V9 k x e))⟩
 have kR:σ.le (σ'.plus σ):=Im.plus_le2 aA HB;have jx:σ'.le (σ'.plus σ):=Im.plus_le1 σ' σ;have dE:∀k o x,(σ'.plus σ).c k o=some x→σ'.c k o=some x:=fun k o x e=>(Im.plus_c e).elim id (fun e=>hle.c k o x e)
 have zb:∀k x,(σ'.plus σ).m k=some x→σ'.m k=some x∨(σ.m k=some x∧x=cO):=fun k x e=>(Im.plus_m e).elim .inl (fun e=>by
  by_cases hd:x=cO
  ·exact .inr ⟨e,hd⟩
  ·refine .inl (hle.m k x ?_);have:σ.m k≠some cO:=fun e2=>hd (by rw[e] at e2;cases e2;rfl);simp only[Im.noM,if_neg this,e])
 let aQ:Nat→Value:=fun j=>match cB js is j with|some i=>hv' i|none=>hv j
 have ajd:∀i j,cB is js i=some j→hv' i=aQ j:=fun i j e=>by simp only[aQ,HV Hv e]
 have ahq:∀i,i∈oF shs→hv' i=ew i:=fun i hi=>adR (S:=S) (is:=is) (js:=js) (args:=fun t=>vals.toArray.getD t undef) (ds:=fun t=>(es.map (PE.ev ρ)++js.map ρ.o).getD t .none) (ds':=fun t=>(es.map (PE.ev ρ)++js.map ρ.o).getD t .none) (fun t s hs=>by
  have:=VV t;rw[aK (l:=shs),hs] at this;exact this) (fun t s hs hd=>vM t s hs hd) aiI hi
 have qf:Compat S hv (S.handed shs obs is js) aQ:=by
  refine⟨fun j=>?_,fun j e=>?_⟩
  ·show S.ver j≤uR S.ver shs is js j;unfold uR;split
   ·cases aD (oF shs) _<;>simp
   ·exact bf _
  ·change uR S.ver shs is js j=S.ver j at e;show aQ j=hv j;simp only[aQ];unfold uR at e;split at e
   ·rename_i i hi;cases hb:aD (oF shs) i<;>rw[hb] at e
    ·simp at e
    ·try simp only[hi]
     rw[ahq i (WI.1 hb),fC i j (HV Wb hi)]
   ·rename_i hi;try simp only[hi]
 have mH:∀k j,Dm js is own own' k=some j→(k<w.heap.size→own k≠none)∧w0.heap.size≤k∧k<w'.heap.size∧(∀o,σ'.c k o=none)∧σ'.m k=none∧σ.m k≠some cO:=by
  intro k j hk;simp only[Dm] at hk;split at hk
  ·rename_i i hi;obtain⟨g1,g2,g3,g4,g5⟩:=Wi k i hi;have g6:k<w.heap.size→own k≠none:=fun af e=>g5 af (by simp[nM,e]);refine⟨g6,g1,g2,g3,g4,fun e=>?_⟩;exact g6 (h.ltm e) (V9 k _ e)
  ·split at hk
   ·rename_i j' cE;split at hk
    ·cases hk
    ·rename_i hn;obtain⟨g1,g2,g3,g4⟩:=h.owns k j' cE;have ky:(∃j,own k=some j∧cB js is j=none)∨σ.m k=some cO∨(cx k):=.inl ⟨j',cE,hn⟩;refine⟨fun _ e=>(by rw[cE] at e;cases e),g1,u7 g2 hb.size,fun o=>?_,?_,fun e=>?_⟩
     ·cases e:σ'.c k o with
      |none=>rfl
      |some x=>exact absurd ky (cP k o x e).2
     ·cases e:σ'.m k with
      |none=>rfl
      |some x=>exact absurd ky (cI k x e).2
     ·rw[g4] at e;cases e
   ·cases hk
 refine⟨σ'.plus σ,Dm js is own own',aQ,⟨h.defers.mono kR,Im.plus_ok aA HB,h.le.trans kR,h.old,fun k o x e=>?_,fun k x e=>?_,h.below.trans (Below.weak hb fun k hk=>?_),h.bw,fun k j hk=>?_,fun t=>?_,fun j=>?_,h.opts,?_⟩,fB.mono jx⟩
 ·rcases(cP k o x (dE k o x e)).1 with e1|e1
  ·exact h.newc k o x e1
  ·exact .inr e1
 ·rcases zb k x e with e1|e1
  ·rcases(cI k x e1).1 with e2|e2
   ·exact h.newm k x (CD k x e2).1
   ·exact .inr e2
  ·exact h.newm k x e1.1
 ·have cu:k<w0.heap.size:=u7 hk h.bw;refine Hz k (by omega) ?_;cases e:own k with
  |none=>rfl
  |some j=>have:=(h.owns k j e).1;omega
 ·obtain⟨_,g1,g2,g3,g4,g5⟩:=mH k j hk;refine⟨g1,g2,fun o=>?_,?_⟩
  ·cases e:(σ'.plus σ).c k o with
   |none=>rfl
   |some x=>have:=dE k o x e;rw[g3 o] at this;cases this
  ·cases e:(σ'.plus σ).m k with
   |none=>rfl
   |some x=>
    rcases zb k x e with e1|e1
    ·rw[g4] at e1;cases e1
    ·exact absurd (by rw[e1.1,e1.2]) g5
 ·show aH C _ ρ' _ aQ (S.r t) _ (ρ'.r t);rw[il]
  exact aH.mono kR qf (fun gs s e=>by
   unfold holds;rw[il]) (fun gs s e=>(h.opts t gs s e).2) (h.regs t)
 ·show cd C _ ρ' _ _ aQ w' _ j (match cB js is j with|some i=>(match pG (uR S.ver shs is js) is js (dU obs i) with|some o=>o|none=>.dead)|none=>S.o j);split
  ·rename_i i hi;have cZ:=HV Wb hi;split
   ·rename_i x hx;refine alI (S1:=S.handed shs obs is js) jx ajd (fun k i' j' hk hl=>by simp only[Dm,hk,hl]) cZ ?_ hx (MI i);subst Cp;obtain⟨k,bt,cu⟩:=Xg (os:=os) MK cZ;show ρ'.o j=mR obs os i;rw[cu];exact lT k j bt
   ·trivial
  ·rename_i hn
   have MC:j∉js:=fun hm=>by
        obtain⟨k,hk⟩:=xm hm;have af:k<is.length:=by
         have:=(eh.1 hk).1;rw[Cp,gw];omega
        have:=HU Hv hk (bA af);rw[hn] at this;cases this
   by_cases Hn:j=gY
   ·subst Hn;rw[Ha];trivial
   ·refine(h.objs j).mono kR qf (by show aQ j=hv j;simp only[aQ,hn]) (vU j MC Hn) (fun k hk=>⟨?_,air k j hk hn⟩);have:own' k=none:=by
     cases e:own' k with
     |none=>rfl
     |some i=>exact absurd (by simp[nM,hk,hn]) ((Wi k i e).2.2.2.2 (h.owns k j hk).2.1)
    simp only[Dm,this,hk,hn]
 ·refine⟨tr,fx,cx,⟨σ0.keep _ _ _ _ _ hf.F hb fun k hk=>?_,fun k j hk kB=>?_,fun k o x e hc=>?_,fun k x e hc=>?_,fun k e hB hk=>?_⟩,fun j hj=>?_⟩
  ·refine Hz k (σ0.lt _ _ _ _ hf.F k hk) ?_;cases e:own k with
   |none=>rfl
   |some j=>exact absurd hk (hf.own k j e)
  ·have af:=σ0.lt _ _ _ _ hf.F k kB;have:=(mH k j hk).1 af;cases e:own k with
   |none=>exact this e
   |some j'=>exact hf.own k j' e kB
  ·exact(cP k o x (dE k o x e)).2 (.inr (.inr hc))
  ·rcases zb k x e with e1|e1
   ·exact(cI k x e1).2 (.inr (.inr hc))
   ·exact hf.m k x e1.1 hc
  ·rcases zb k _ e with e1|e1
   ·have af:=σ0.lt _ _ _ _ hf.F k hk;refine Hu k e1 hB af ?_;have:own k=none:=by
     cases e:own k with
     |none=>rfl
     |some j=>exact absurd hk (hf.own k j e)
    simp[nM,this]
   ·exact hf.d k e1.1 hB hk
  ·change (match cB js is j with|some i=>(match pG (uR S.ver shs is js) is js (dU obs i) with|some o=>o|none=>.dead)|none=>S.o j)=.tr at hj;split at hj
   ·rename_i i hi;split at hj
    ·rename_i x hx;exact absurd hj (anP hx)
    ·cases hj
   ·rename_i hn
    have MC:j∉js:=fun hm=>by
     obtain⟨k,hk⟩:=xm hm;have af:k<is.length:=by
         have:=(eh.1 hk).1;rw[Cp,gw];omega
     have:=HU Hv hk (bA af);rw[hn] at this;cases this
    have Hn:j≠gY:=fun e=>by subst e;rw[Ha] at hj;cases hj
    rw[vU j MC Hn];exact rX j hj
theorem aa8:∀(js:List Nat) (k:Nat) {ρ ρ':Env} {l:List D},PI.runs Φ (EC js k) ρ=some ρ'→ρ.o gY=.tup l→gY∉js→js.Nodup→
 ρ'.r=ρ.r∧(∀(i j:Nat),js[i]?=some j→ρ'.o j=l.getD (k+i) .none)∧∀j,j∉js→ρ'.o j=ρ.o j
 |[],k,ρ,ρ',l,h,hs,hn,hd=>by
  simp only[EC,PI.runs,aR] at h;subst h;exact⟨rfl,fun i j e=>by simp at e,fun _ _=>rfl⟩
 |x::js,k,ρ,ρ',l,h,hs,hn,hd=>by
  simp only[EC,PI.runs,PI.run,jN,PE.ev,hs,D.tget] at h;simp only[cD,not_or] at hn;have gB:=mA.1 hd;obtain⟨g1,g2,g3⟩:=aa8 js (k+1) h (by simp only[Env.setO];rw[bl _ _ hn.1];exact hs) hn.2 gB.2;refine⟨g1,fun i j e=>?_,fun j hj=>?_⟩
  ·cases i with
   |zero=>simp at e;subst e;rw[g3 _ gB.1];simp[Env.setO,aL]
   |succ i=>simp at e;rw[g2 i j e];congr 1;omega
  ·simp only[cD,not_or] at hj;rw[g3 j hj.2];simp only[Env.setO];exact bl _ _ hj.1
theorem acs (h:Inv C S ρ σ own hv w0 σ0 A a w)(hC:CtxOK C σ0)(x:Operand):∃d,ER C S ρ σ hv (E5 C S x) (a.eval x) d:=by
 cases x with
 |tmp t=>
  refine⟨ρ.r t,?_,fun y hy=>cg (gs:=[]) h hC rfl hy⟩;have:=(m0 (gs:=[]) h rfl t).1;simpa [Act.eval,E5,ff] using this
 |_=>exact⟨.none,trivial,fun y hy=>cg (gs:=[]) h hC rfl hy⟩
theorem Ux (h:Inv C S ρ σ own hv w0 σ0 A a w)(hC:CtxOK C σ0)(hΦ:cT C Φ){f:Nat}{args:List Operand}{caps:List (Nat×Nat)}{vs:List Value}(gU:vs.length=caps.length)
 (fM:∀(i j ver:Nat),caps[i]?=some (j,ver)→ver≤S.ver j∧(ver=S.ver j→vs.getD i undef=hv j)) (ag7:∀(i j ver:Nat),caps[i]?=some (j,ver)→ver=S.ver j→∃k,hv j=.pointer (some ⟨k,0,none⟩)) {r:St×Ty×List PI} (hr:p8 C S f args caps=some r)
 {ρ1:Env} (ah:PI.runs Φ r.2.2 ρ=some ρ1):
 Calls C.P f (args.map a.eval++vs).toArray w fun e w'=>∃v σ1 db aQ,e=.returned v∧Inv C r.1 ρ1 σ1 db aQ w0 σ0 A a w'∧Rep C.cap σ1 r.2.1 v ((ρ1.o gY).tget 0):=by
 simp only[p8,au] at hr;obtain⟨s,hs,hr⟩:=hr;split at hr
 case h_2=>cases hr
 rename_i shs obs kE;obtain⟨σ2,ix,jx,h2⟩:=Inv.fzs (yQ S args shs) h;have dH:=(nm (yQ S args shs) S).1;generalize S.fzs (yQ S args shs)=S2 at hr h2 dH;unfold Lo Ln at hr;generalize UU S2 shs obs (args.map (E5 C S2)++caps.map Ud)=js at hr;simp only[au] at hr;obtain⟨es,iQ,hr⟩:=hr;cases hb:(wA shs obs&&(gl (obs.map (·.1))&&gl js&&qd S2 (obs.map (·.1)) js obs js&&nG (S2.o gY)&& !aD js gY))<;>simp only[hb,cond_true,cond_false] at hr
 ·cases hr
 cases hr;simp only[ak,gd] at hb;obtain⟨b0,⟨⟨⟨b1,b2⟩,b3⟩,b4⟩,b5⟩:=hb;have kT:=l6 b1;have oT:=l6 b2;have Ha:S2.o gY=.dead:=by
  cases e:S2.o gY<;>rw[e] at b4<;>first|rfl|cases b4
 have HG:gY∉js:=fun hm=>by rw[WI.2 hm] at b5;cases b5
 simp only[PI.runs,PI.run,au,az] at ah;obtain⟨ρ2,⟨d,hd,rfl⟩,ah⟩:=ah;rw[PE.evs_eq,rf,J2] at hd;have e1:js.map (PE.ev ρ∘PE.o)=js.map ρ.o:=rfl;rw[e1] at hd;have hfn:=((hΦ f _ d hd s hs).2 shs obs kE).plain b0
 have oO:=handed h2 hC b0 rfl kT oT b3 iQ Ha HG (vals:=args.map a.eval++vs) (by simp[gU]) (fun t x hx=>by
  rw[lD] at hx;split at hx
  ·rename_i af;rw[gw] at af;rw[cw,bA af] at hx;cases hx;have:(args.map a.eval++vs).getD t undef=a.eval args[t]:=by
        rw[aK,kl (by simpa using af),cw,bA af];rfl
   rw[this];exact acs h2 hC _
  ·rename_i eU;rw[gw] at eU hx;rw[cw,az] at hx;obtain⟨c,hc,rfl⟩:=hx;obtain⟨j,ver⟩:=c;have bZ:(args.map a.eval++vs).getD t undef=vs.getD (t-args.length) undef:=by
        rw[aK,km (by simpa using eU),gw,aK]
   obtain⟨g1,g2⟩:=fM _ j ver hc;refine⟨.none,⟨by rw[dH];exact g1,fun e=>?_⟩,fun y hy=>by cases hy⟩;rw[dH] at e;obtain⟨k,hk⟩:=ag7 _ j ver hc e;exact⟨k,hk,by rw[bZ,g2 e,hk]⟩) (hfn:=hfn)
 refine oO.mono fun e w' hh=>?_;obtain⟨v,dr,os,rfl,rfl,MK,lQ⟩:=hh;obtain⟨g1,g2,g3⟩:=aa8 js 1 (l:=dr::os) ah (by simp[Env.setO,aL]) HG oT
 obtain⟨σ1,db,aQ,hinv,bM⟩:=lQ ρ1 g1 (fun k j hk=>by
  have:=g2 k j hk;rw[AY] at this;simpa using this) (fun j hj aB=>by rw[g3 j hj];simp only[Env.setO];exact bl _ _ aB)
 refine⟨v,σ1,db,aQ,rfl,hinv,?_⟩;rw[g3 gY HG];simpa [Env.setO,aL,D.tget] using bM
def pq (S:St)(dst:Option Nat)(r:St×Ty×List PI):St×List PI:=
 match dst with
 |some d=>(r.1.setR d (.dat r.2.1),r.2.2++[.setR d (.tget (.o gY) 0)])
 |none=>(r.1,r.2.2)
theorem an5 {a b:List PI}{ρ:Env}:PI.runs Φ (a++b) ρ=(PI.runs Φ a ρ).bind (PI.runs Φ b):=by
 induction a generalizing ρ with
 |nil=>simp[PI.runs]
 |cons x a ih=>
  simp only[EV,PI.runs];cases x.run Φ ρ with
  |none=>rfl
  |some ρ1=>simp[ih]
theorem Ua {o:Oper}{f:Nat}{vals:List Value}(ht:∀d,o.dst=some d→¬A d∧d<a.tmps.size){r:St×Ty×List PI}(hx:(execOp a.eval o).run C.P w=.ok (.enter f vals.toArray) w)
 (hc:∀ρ1,PI.runs Φ r.2.2 ρ=some ρ1→Calls C.P f vals.toArray w fun e w'=>∃v σ1 db aQ,e=.returned v∧Inv C r.1 ρ1 σ1 db aQ w0 σ0 A a w'∧Rep C.cap σ1 r.2.1 v ((ρ1.o gY).tget 0)):bR C w0 σ0 Φ S ρ A a w o (pq S o.dst r):=by
 intro ρ' ah K Q hK;simp only[Oper.wp,hx,Oper.upon];cases hd:o.dst with
 |none=>
  rw[hd] at ah hK;refine(hc ρ' ah).mono fun e w' hh=>?_;obtain⟨v,σ1,db,aQ,rfl,hinv,bM⟩:=hh;refine hK _ _ ⟨σ1,db,aQ,?_⟩ rfl;have:(fun u=>A u∨(none:Option Nat)=some u)=A:=by funext u;simp
  rw[this];exact hinv
 |some d=>
  rw[hd] at ah hK;obtain⟨t1,t2⟩:=ht d hd;simp only[pq,an5,au] at ah;obtain⟨ρ1,h1,h2⟩:=ah;simp[PI.runs,PI.run,PE.ev] at h2;subst h2;refine(hc ρ1 h1).mono fun e w' hh=>?_;obtain⟨v,σ1,db,aQ,rfl,hinv,bM⟩:=hh;refine hK _ _ ⟨σ1,db,aQ,?_⟩ (size_put _ _ _);have:(fun u=>A u∨some d=some u)=(fun u=>A u∨u=d):=by funext u;simp[eq_comm]
  rw[this];exact hinv.setReg t1 (s:=.dat r.2.1) bM t2 (fun _ _ e=>by cases e)
theorem Uy (h:Inv C S ρ σ own hv w0 σ0 A a w)(hC:CtxOK C σ0)(aW:dj C)(hΦ:cT C Φ){f:Nat}{args:Array Operand}{ts:Array TypeId}{r:St×Ty×List PI}{o:Oper}(ht:∀d,o.dst=some d→¬A d∧d<a.tmps.size)
 (hr:p8 C S f args.toList []=some r) (ho:o.op=.call {callee:=.value (.func f),args:=args,argTypes:=ts}):bR C w0 σ0 Φ S ρ A a w o (pq S o.dst r):=by
 have hs:∃s,C.sig f=some s:=by
  simp only[p8,au] at hr;obtain⟨s,hs,_⟩:=hr;exact⟨s,hs⟩
 obtain⟨s,hs⟩:=hs;have hx:=Ey (a:=a) (w:=w) aW hs ho;have jC:args.map a.eval=(args.toList.map a.eval++[]).toArray:=by apply qZ;simp
 rw[jC] at hx;exact Ua ht hx fun ρ1 ah=>Ux h hC hΦ (vs:=[]) rfl (fun i j ver e=>by simp at e) (fun i j ver e=>by simp at e) hr ah
def xy (S:St):List (Nat×Nat)→Bool
 |[]=>true
 |c::l=>Nat.beq c.2 (S.ver c.1)&&(match S.o c.1 with|.box ..=>true|_=>false)&&xy S l
theorem Uf (h:Inv C S ρ σ own hv w0 σ0 A a w):∀{l:List (Nat×Nat)},xy S l=true→∀(i j ver:Nat),l[i]?=some (j,ver)→ver=S.ver j∧∃k,hv j=.pointer (some ⟨k,0,none⟩)
 |[],_,i,j,ver,e=>by simp at e
 |c::l,hl,i,j,ver,e=>by
  simp only[xy,ak] at hl;cases i with
  |zero=>
   simp at e;subst e;refine⟨ay hl.1.1,?_⟩;have h1:=hl.1.2;have h2:=h.objs j;split at h1
   ·rename_i ag shs eo;simp only at eo;rw[eo] at h2;obtain⟨k,cs,T,ds,g1,_⟩:=h2;exact⟨k,g1⟩
   ·cases h1
  |succ i=>simp at e;exact Uf h hl.2 i j ver e
def yG (C:Ctx)(S:St)(t:Nat)(args:List Operand):Option (St×Ty×List PI):=
 match kc S [] t with
 |.fclo f caps=>bif xy S caps then p8 C S f args caps else none
 |_=>none
theorem Uw (h:Inv C S ρ σ own hv w0 σ0 A a w)(hC:CtxOK C σ0)(aW:dj C)(hΦ:cT C Φ){t:Nat}{args:Array Operand}{ts:Array TypeId}{r:St×Ty×List PI}{o:Oper}(ht:∀d,o.dst=some d→¬A d∧d<a.tmps.size)
 (hr:yG C S t args.toList=some r) (ho:o.op=.call {callee:=.value (.tmp t),args:=args,argTypes:=ts}):bR C w0 σ0 Φ S ρ A a w o (pq S o.dst r):=by
 unfold yG at hr;split at hr
 case h_2=>cases hr
 rename_i f caps gD;cases hb:xy S caps<;>simp only[hb,cond_true,cond_false] at hr
 ·cases hr
 have fP:=(m0 (gs:=[]) h rfl t).1;rw[gD] at fP;obtain⟨vs,h1,h2,h3⟩:=fP;have hs:∃s,C.sig f=some s:=by
  simp only[p8,au] at hr;obtain⟨s,hs,_⟩:=hr;exact⟨s,hs⟩
 obtain⟨s,hs⟩:=hs;have hx:=aa1 (a:=a) (w:=w) (vs:=vs) (x:=.tmp t) aW hs (by simpa [Act.eval] using h1) ho;have jC:args.map a.eval++vs.toArray=(args.toList.map a.eval++vs).toArray:=by apply qZ;simp
 rw[jC] at hx;exact Ua ht hx fun ρ1 ah=>Ux h hC hΦ h2 h3 (fun i j ver e _=>(Uf h hb i j ver e).2) hr ah
def Bk (S:St):List Operand→Option (List (Nat×Nat))
 |[]=>some []
 |x::xs=>
  match x with
  |.tmp t=>
   match kc S [] t with
   |.ptr j ver off=>bif Nat.beq ver (S.ver j)&&Nat.beq off 0 then(Bk S xs).map fun r=>(j,ver)::r else none
   |_=>none
  |_=>none
def BF (C:Ctx)(S:St)(dst:Nat)(fn:Fn)(first caps:Array Operand):Option (St×List PI):=
 match fn,first.toList with
 |.func f,[]=>
  match C.sig f with
  |some s=>bif pg s.mode then(Bk S caps.toList).map fun c=>(S.setR dst (.fclo f c),[.setR dst (.con .none)]) else none
  |none=>none
 |_,_=>none
theorem Ug (h:Inv C S ρ σ own hv w0 σ0 A a w):∀{l:List Operand} {c:List (Nat×Nat)},Bk S l=some c→c.length=l.length∧∀(i j ver:Nat),c[i]?=some (j,ver)→ver≤S.ver j∧(ver=S.ver j→(l.map a.eval).getD i undef=hv j)
 |[],c,e=>by simp only[Bk,aR] at e;subst e;exact⟨rfl,fun i j ver e=>by simp at e⟩
 |x::xs,c,e=>by
  simp only[Bk] at e;split at e
  case h_2=>cases e
  rename_i t;split at e
  case h_2=>cases e
  rename_i j ver off gD;cases hb:(Nat.beq ver (S.ver j)&&Nat.beq off 0)<;>simp only[hb,cond_true,cond_false] at e
  ·cases e
  simp only[ak] at hb;simp only[az] at e;obtain⟨r,hr,rfl⟩:=e;obtain⟨g1,g2⟩:=Ug h hr;have fP:=(m0 (gs:=[]) h rfl t).1;rw[gD] at fP;refine⟨by simp[g1],fun i j' mm e=>?_⟩;cases i with
  |zero=>
   simp at e;obtain⟨rfl,rfl⟩:=e;refine⟨fP.1,fun e=>?_⟩;obtain⟨k,k1,k2⟩:=fP.2 e;have e0:off=0:=ay hb.2;subst e0;rw[k1,←k2];simp[Act.eval]
  |succ i=>simp at e;simpa using g2 i j' mm e
theorem aep (h:Inv C S ρ σ own hv w0 σ0 A a w)(ht:¬A dst)(af:dst<a.tmps.size){fn:Fn}{first caps:Array Operand}{r:St×List PI}{o:Oper}(hr:BF C S dst fn first caps=some r)(hd:o.dst=some dst)(ho:o.op=.makeFunc fn first caps):bR C w0 σ0 Φ S ρ A a w o r:=by
 unfold BF at hr;split at hr
 case h_2=>cases hr
 rename_i f Cj;split at hr
 case h_2=>cases hr
 rename_i s hs;cases hb:pg s.mode<;>simp only[hb,cond_true,cond_false] at hr
 ·cases hr
 simp only[az] at hr;obtain⟨c,hc,rfl⟩:=hr;obtain⟨g1,g2⟩:=Ug h hc;have Cg:first=#[]:=by rw[←sO];simpa using Cj
 refine bR.value hd fun ρ' ah=>⟨.func (.func f) #[] (caps.toList.map a.eval).toArray,w,?_,?_⟩
 ·subst Cg;have e9:caps.map a.eval=(caps.toList.map a.eval).toArray:=by apply qZ;rw[uV]
  simp[execOp,ho,Instr.makeFunc,e9]
 ·have hρ:ρ'=ρ.setR dst .none:=by simp[PI.runs,PI.run,PE.ev] at ah;exact ah.symm
  subst hρ;exact⟨_,_,_,h.setReg ht (s:=.fclo f c) ⟨_,rfl,by simp[g1],g2⟩ af (fun _ _ e=>by cases e)⟩
end
end Cx
