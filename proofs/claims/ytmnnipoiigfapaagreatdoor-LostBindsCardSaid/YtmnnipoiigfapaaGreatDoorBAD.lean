/-
  Calls.
-/
import Derived.Test.YtmnnipoiigfapaaGreatDoorBAC
set_option linter.unusedSimpArgs false
set_option linter.unusedVariables false
noncomputable section
namespace Cx
open Go Go.RowKit
open Classical in
def Im.noM (σ:Im):Im:=⟨σ.c,fun k=>if σ.m k=some cW then none else σ.m k⟩
theorem Rep.noM {cap:Nat→Option CSig}{σ:Im}{t:Ty}{v:Value}{d:D}(h:Rep cap σ t v d):Rep cap σ.noM t v d:=by
 induction h with
 |int k n h1 h2=>exact .int k n h1 h2
 |bool b=>exact .bool b
 |str s h=>exact .str s h
 |agg ts vs ds h1 h2 _ ho ih=>exact .agg ts vs ds h1 h2 ih ho
 |tup ts vs ds h1 h2 _ ih=>exact .tup ts vs ds h1 h2 ih
 |nil e=>exact .nil e
 |emp e a=>exact .emp e a
 |nils e=>exact .nils e
 |nsl0 e=>exact .nsl0 e
 |nsl e k o n c xs _ hx ih=>exact .nsl e k o n c xs ih hx
 |slice e k o n c xs vs hn hc hm _ hv ih=>exact .slice e k o n c xs vs hn hc hm ih hv
 |mapnil kt et=>exact .mapnil kt et
 |map kt et r jG es hm hl hx hk _ kE EK=>
  refine .map kt et r jG es ?_ hl hx kE EK;have aE:σ.m r≠some cW:=fun e=>by rw[hm] at e;cases e;exact EX hl hk rfl
  simp only[Im.noM,if_neg aE,hm]
 |ref t k o v d _ hv ih=>exact .ref t k o v d ih hv
 |fn f cs vs ds hc h1 h2 _ ih=>exact .fn f cs vs ds hc h1 h2 ih
 |fnnil aa r=>exact .fnnil aa r
def Im.plus (σ τ:Im):Im:=⟨fun k o=>(σ.c k o).or (τ.c k o),fun k=>(σ.m k).or (τ.m k)⟩
theorem Im.plus_le1 (σ τ:Im):σ.le (σ.plus τ):=⟨fun k o v h=>by simp[Im.plus,h],fun k v h=>by simp[Im.plus,h]⟩
theorem rN.det {w:World}{k:Nat}{x y:List (Value×Value)}(h:rN w k x)(g:rN w k y):x=y:=by
 rcases h with⟨_,a,c,h1,h2⟩|⟨h1,h2⟩<;>rcases g with⟨_,a',c',g1,g2⟩|⟨g1,g2⟩
 ·rw[h1] at g1;cases g1;rw[←h2,←g2]
 ·rw[h1] at g2;cases g2
 ·rw[h2] at g1;cases g1
 ·rw[h1,g1]
theorem Im.plus_le2 {σ τ:Im}{w:World}(h:σ.ok w)(g:τ.ok w):τ.le (σ.plus τ):=by
 refine⟨fun k o v e=>?_,fun k v e=>?_⟩
 ·show(σ.c k o).or (τ.c k o)=some v;cases hc:σ.c k o with
  |none=>simpa using e
  |some u=>have:=(h.c k o u hc).symm.trans (g.c k o v e);simpa using this
 ·show(σ.m k).or (τ.m k)=some v;cases hc:σ.m k with
  |none=>simpa using e
  |some u=>simpa using(h.m k u hc).det (g.m k v e)
theorem Im.plus_ok {σ τ:Im}{w:World}(h:σ.ok w)(g:τ.ok w):(σ.plus τ).ok w:=by
 refine⟨fun k o v e=>?_,fun k v e=>?_⟩
 ·change (σ.c k o).or (τ.c k o)=some v at e;cases hc:σ.c k o with
  |none=>rw[hc] at e;exact g.c k o v (by simpa using e)
  |some u=>rw[hc] at e;simp at e;subst e;exact h.c k o u hc
 ·change (σ.m k).or (τ.m k)=some v at e;cases hc:σ.m k with
  |none=>rw[hc] at e;exact g.m k v (by simpa using e)
  |some u=>rw[hc] at e;simp at e;subst e;exact h.m k u hc
theorem Im.plus_c {σ τ:Im}{k o:Nat}{v:Value}(h:(σ.plus τ).c k o=some v):σ.c k o=some v∨τ.c k o=some v:=by
 change (σ.c k o).or (τ.c k o)=some v at h;cases hc:σ.c k o with
 |none=>rw[hc] at h;exact .inr (by simpa using h)
 |some u=>rw[hc] at h;exact .inl (by simpa using h)
theorem Im.plus_m {σ τ:Im}{k:Nat}{v:List (Value×Value)}(h:(σ.plus τ).m k=some v):σ.m k=some v∨τ.m k=some v:=by
 change (σ.m k).or (τ.m k)=some v at h;cases hc:σ.m k with
 |none=>rw[hc] at h;exact .inr (by simpa using h)
 |some u=>rw[hc] at h;exact .inl (by simpa using h)
def Ty.pureT:Ty→Bool
 |.int _|.bool|.str|.nils _=>true
 |_=>false
def Ty.pure:Ty→Bool
 |.tup ts=>ts.all Ty.pureT
 |.agg ts=>ts.all Ty.pureT
 |t=>Ty.pureT t
theorem Rep.pureT {cap:Nat→Option CSig}{σ τ:Im}{t:Ty}{v:Value}{d:D}(h:Rep cap σ t v d)(hp:t.pureT=true):Rep cap τ t v d:=by
 cases h<;>simp[Ty.pureT] at hp<;>constructor<;>assumption
theorem Rep.pure {cap:Nat→Option CSig}{σ τ:Im}{t:Ty}{v:Value}{d:D}(h:Rep cap σ t v d)(hp:t.pure=true):Rep cap τ t v d:=by
 cases h with
 |agg ts vs ds h1 h2 h ho=>exact .agg ts vs ds h1 h2 (fun i t hi=>(h i t hi).pureT (bK.1 hp t (mc hi))) ho
 |tup ts vs ds h1 h2 h=>exact .tup ts vs ds h1 h2 (fun i t hi=>(h i t hi).pureT (bK.1 hp t (mc hi)))
 |int k n h1 h2=>exact .int k n h1 h2
 |bool b=>exact .bool b
 |str s h=>exact .str s h
 |nils e=>exact .nils e
 |_=>simp[Ty.pure,Ty.pureT] at hp
def W0 (C:Ctx)(σ':Im)(B:Nat)(w':World)(ow:Nat→Option Nat)(i:Nat):RC→Value→D→Prop
 |.dat t,v,d=>t.one=true∧Rep C.cap σ' t v d
 |.row T e,v,d=>∃cells xs,d=.list xs∧w'.ownsRow B T e.size v xs.length cells∧ej C.cap σ' e cells xs∧∀k,v.ownBlock=some k→ow k=some i
def me (C:Ctx)(s:Sig)(σ':Im)(w w':World)(v:Value)(d:D):Prop:=
 match s.mode with
 |.dat=>Rep C.cap σ' s.res v d
 |.it _=>True
 |.ob ..=>True
 |.rows l=>∃(vs:List Value) (ds:List D) (ow:Nat→Option Nat),v=.agg vs.toArray∧d=.agg ds∧vs.length=l.length∧ds.length=l.length∧(∀(i:Nat) (c:RC),l[i]?=some c→W0 C σ' w.heap.size w' ow i c (vs.getD i undef) (ds.getD i .none))∧
   ∀k i,ow k=some i→w.heap.size≤k∧k<w'.heap.size∧(∀o,σ'.c k o=none)∧σ'.m k=none
 |.row T e=>∃cells xs,d=.list xs∧w'.ownsRow w.heap.size T e.size v xs.length cells∧ej C.cap σ' e cells xs∧∀k,v.ownBlock=some k→(∀o,σ'.c k o=none)∧σ'.m k=none
def pq (C:Ctx)(σ:Im)(ts:List Ty)(args:List Value)(ds:List D):Prop:=
 args.length=ts.length∧ds.length=ts.length∧∀(i:Nat) (t:Ty),ts[i]?=some t→Rep C.cap σ t (args.getD i undef) (ds.getD i .none)
def iz (C:Ctx)(f:Nat)(s:Sig)(ds:List D)(d:D):Prop:=
 ∀(σ:Im) (w:World) (args:Array Value),σ.ok w→CtxOK C σ→pq C σ s.args args.toList ds→
  Calls C.P f args w fun e w'=>∃v σ',e=.returned v∧σ.le σ'∧σ'.ok w'∧Below w.heap.size w w'∧
   (∀k o x,σ'.c k o=some x→σ.c k o=some x∨w.heap.size≤k)∧(∀k x,σ'.m k=some x→σ.m k=some x∨w.heap.size≤k)∧me C s σ' w w' v d
def eg:List (Nat×Ob)→Nat→Ob
 |[],_=>.dead
 |x::l,j=>bif Nat.beq x.1 j then x.2 else eg l j
def nE:List (Nat×Ob)→List D→Nat→D
 |x::l,d::ds,j=>bif Nat.beq x.1 j then d else nE l ds j
 |_,_,_=>.none
def fT (shs:List Sh)(obs:List (Nat×Ob)):St:=⟨fun t=>shs.getD t .none,fun j=>eg obs j,fun _=>0⟩
def mL (obs:List (Nat×Ob))(ds os:List D):Env:=⟨fun t=>ds.getD t .none,fun j=>nE obs os j⟩
def nB:Sh→Bool
 |.dat _=>true
 |_=>false
def qq:Mode→Bool
 |.ob ..=>true
 |_=>false
def tR:Sh→Bool
 |.none|.dat _|.obj ..|.ptr ..|.fclo ..=>true
 |_=>false
def KO:Ob→Bool
 |.row ..|.mp ..=>true
 |.box _ shs=>shs.all tR
 |_=>false
def xO (shs:List Sh)(obs:List (Nat×Ob)):Bool:=shs.all tR&&obs.all fun x=>KO x.2
def Kk:List Sh→List (Nat×Ob)→Option (TypeId×Ty×List Ty)
 |.obj 0 0::l,[(0,.row T e),(1,.tr)]=>(XR l).map fun ts=>(T,e,ts)
 |_,_=>none
def Cq (C:Ctx)(f:Nat)(T:TypeId)(e:Ty)(ts:List Ty)(ds:List D)(d:D):Prop:=
 ∀(N:Nat) (σ:Im) (w:World) (v:Value) (args:List Value) (xs:List D) (cells:List Value) (ds':List D),ds=.list xs::ds'→σ.ok w→CtxOK C σ→N≤w.heap.size→w.ownsRow N T e.size v xs.length cells→ej C.cap σ e cells xs→
  (∀k,v.ownBlock=some k→k<w.heap.size∧(∀o,σ.c k o=none)∧σ.m k=none)→pq C σ ts args ds'→
  Calls C.P f (v::args).toArray w fun x w'=>∃v' ke dA,x=.returned v'∧d=.list ke∧Below N w w'∧(∀k,k<w.heap.size→v.ownBlock≠some k→w'.heap[k]?=w.heap[k]?)∧
   w'.ownsRow N T e.size v' ke.length dA∧ej C.cap σ e dA ke∧∀k,v'.ownBlock=some k→(v.ownBlock=some k∨w.heap.size≤k)∧k<w'.heap.size
def uv (C:Ctx)(f:Nat)(shs:List Sh)(obs:List (Nat×Ob))(res:Ty)(ds:List D)(d:D):Prop:=
 ∀(N:Nat) (σ:Im) (own:Nat→Option Nat) (hv:Nat→Value) (w:World) (args:Array Value) (cx:Nat→Prop),xO shs obs=true→σ.ok w→CtxOK C σ→(∀k,σ.m k≠some cW)→N≤w.heap.size→args.size=shs.length→
  (∀k j,own k=some j→N≤k∧k<w.heap.size∧(∀o,σ.c k o=none)∧σ.m k=none)→
  (∀k,cx k→k<w.heap.size∧own k=none∧(∀o,σ.c k o=none)∧σ.m k=none)→
  (∀t,aG C (fT shs obs) (mL obs ds (ds.drop shs.length)) σ hv (shs.getD t .none) (args.getD t undef) (ds.getD t .none))→
  (∀j,cg C (fT shs obs) (mL obs ds (ds.drop shs.length)) σ own hv w N j (eg obs j))→
  Calls C.P f args w fun e w'=>∃v σ' own' hv' dr os,e=.returned v∧d=.tup (dr::os)∧os.length=obs.length∧σ.le σ'∧σ'.ok w'∧Below 0 w w'∧
   (∀k,k<w.heap.size→own k=none→w'.heap[k]?=w.heap[k]?)∧
   (∀k o x,σ'.c k o=some x→(σ.c k o=some x∨N≤k)∧¬cx k)∧(∀k x,σ'.m k=some x→(σ.m k=some x∨N≤k)∧¬cx k)∧(∀k,σ'.m k=some cW→N≤k→k<w.heap.size→own k≠none)∧
   (∀k j,own' k=some j→N≤k∧k<w'.heap.size∧(∀o,σ'.c k o=none)∧σ'.m k=none∧(k<w.heap.size→own k≠none))∧
   (∀(t:Nat) (sh:Sh),shs[t]?=some sh→nB sh=false→aG C (fT shs obs) (mL obs ds os) σ' hv' sh (args.getD t undef) (ds.getD t .none))∧
   (∀j,cg C (fT shs obs) (mL obs ds os) σ' own' hv' w' N j (eg obs j))∧Rep C.cap σ' res v dr
theorem aG.ctx {C C':Ctx}(gd:C'.cap=C.cap){S:St}{ρ:Env}{σ:Im}{hv:Nat→Value}{s:Sh}(hp:tR s=true){v:Value}{d:D}(h:aG C S ρ σ hv s v d):aG C' S ρ σ hv s v d:=by
 cases s with
 |dat t=>show Rep C'.cap σ t v d;rw[gd];exact h
 |opt gs s=>cases hp
 |eptr j ver a b=>cases hp
 |yv=>cases hp
 |agg l=>cases hp
 |_=>exact h
theorem cg.ctx {C C':Ctx}(gd:C'.cap=C.cap){S:St}{ρ:Env}{σ:Im}{own:Nat→Option Nat}{hv:Nat→Value}{w:World}{N j:Nat}{ob:Ob}(hp:KO ob=true∨ob=.dead)(h:cg C S ρ σ own hv w N j ob):cg C' S ρ σ own hv w N j ob:=by
 rcases hp with hp|rfl
 ·cases ob with
  |row T e=>obtain⟨cells,xs,h1,h2,h3,h4⟩:=h;exact⟨cells,xs,h1,h2,by rw[gd];exact h3,h4⟩
  |mp kt et=>obtain⟨k,arr,clock,es,h1,h2,h3,h4,h5,h6,h7⟩:=h;exact⟨k,arr,clock,es,h1,h2,h3,h4,h5,h6,by rw[gd];exact h7⟩
  |box ag shs=>
   obtain⟨k,cs,T,ds,h1,h2,h3,h4,h5,h6,h7⟩:=h;exact⟨k,cs,T,ds,h1,h2,h3,h4,h5,h6,fun i s hs=>⟨(h7 i s hs).1,(h7 i s hs).2.ctx gd (bK.1 hp s (mc hs))⟩⟩
  |_=>cases hp
 ·trivial
theorem aa3 {obs:List (Nat×Ob)}(h:(obs.all fun x=>KO x.2)=true)(j:Nat):KO (eg obs j)=true∨eg obs j=.dead:=by
 induction obs with
 |nil=>exact .inr rfl
 |cons x l ih=>
  simp only[qV,aq] at h;simp only[eg];cases hb:Nat.beq x.1 j
  ·exact ih h.2
  ·exact .inl h.1
theorem uv.ctx {C C':Ctx}{f:Nat}{shs:List Sh}{obs:List (Nat×Ob)}{res:Ty}{ds:List D}{d:D}(h:uv C f shs obs res ds d)(hP:C'.P=C.P)(gd:C'.cap=C.cap)(uX:C'.glob=C.glob):uv C' f shs obs res ds d:=by
 intro N σ own hv w args cx hp aD hC bq hN aI cd kU h1 h2;have aU:=hp;simp only[xO,aq] at aU;have tD:∀t s,shs[t]?=some s→tR s=true:=fun t s hs=>bK.1 aU.1 s (mc hs);have hC':CtxOK C σ:=⟨fun g x hx=>by have:=hC.glob g x (by rw[uX];exact hx);rwa [gd] at this⟩
 have:=h N σ own hv w args cx hp aD hC' bq hN aI cd kU (fun t=>by
  cases hs:shs[t]? with
  |none=>rw[aJ,hs];trivial
  |some s=>have:=h1 t;rw[aJ,hs] at this ⊢;exact this.ctx gd.symm (tD t s hs)) (fun j=>(h2 j).ctx gd.symm (aa3 aU.2 j))
 rw[hP];refine this.mono fun e w' hh=>?_;obtain⟨v,σ',own',hv',dr,os,g1,g2,g3,g4,g5,g6,g7,g8,g9,g10,g11,g12,g13,g14⟩:=hh;exact⟨v,σ',own',hv',dr,os,g1,g2,g3,g4,g5,g6,g7,g8,g9,g10,g11,fun t sh hs hd=>(g12 t sh hs hd).ctx gd (tD t sh hs),fun j=>(g13 j).ctx gd (aa3 aU.2 j),by rw[gd];exact g14⟩
theorem ej.cap {c c':Nat→Option CSig}(hc:c'=c){σ:Im}{e:Ty}{cells:List Value}{xs:List D}(h:ej c σ e cells xs):ej c' σ e cells xs:=hc▸h
theorem Cq.ctx {C C':Ctx}{f:Nat}{T:TypeId}{e:Ty}{ts:List Ty}{ds:List D}{d:D}(h:Cq C f T e ts ds d)(hP:C'.P=C.P)(gd:C'.cap=C.cap)(uX:C'.glob=C.glob):Cq C' f T e ts ds d:=by
 intro N σ w v args xs cells ds' h1 h2 h3 h4 h5 h6 h7 h8;rw[hP];refine(h N σ w v args xs cells ds' h1 h2 ⟨fun g x hx=>by have:=h3.glob g x (by rw[uX];exact hx);rwa [gd] at this⟩ h4 h5 (h6.cap gd.symm) h7 ⟨h8.1,h8.2.1,fun i t hi=>by have:=h8.2.2 i t hi;rwa [gd] at this⟩).mono fun x w' hh=>?_;obtain⟨v',ke,dA,g1,g2,g3,g4,g5,g6,g7⟩:=hh;exact⟨v',ke,dA,g1,g2,g3,g4,g5,g6.cap gd,g7⟩
def gG (C:Ctx)(f:Nat)(shs:List Sh)(obs:List (Nat×Ob))(res:Ty)(ds:List D)(d:D):Prop:=
 match Kk shs obs with
 |some m=>Cq C f m.1 m.2.1 m.2.2 ds d
 |none=>uv C f shs obs res ds d
theorem gG.ctx {C C':Ctx}{f:Nat}{shs:List Sh}{obs:List (Nat×Ob)}{res:Ty}{ds:List D}{d:D}(h:gG C f shs obs res ds d)(hP:C'.P=C.P)(gd:C'.cap=C.cap)(uX:C'.glob=C.glob):gG C' f shs obs res ds d:=by
 unfold gG at h ⊢;split at h
 ·exact Cq.ctx h hP gd uX
 ·exact uv.ctx h hP gd uX
theorem abD {shs:List Sh}{obs:List (Nat×Ob)}(h:∀x,x∈obs→x.2≠.tr):Kk shs obs=none:=by
 unfold Kk;split
 ·exact absurd rfl (h (1,.tr) (by simp))
 ·rfl
theorem gG.of {C:Ctx}{f:Nat}{shs:List Sh}{obs:List (Nat×Ob)}{res:Ty}{ds:List D}{d:D}(ht:∀x,x∈obs→x.2≠.tr)(h:uv C f shs obs res ds d):gG C f shs obs res ds d:=by
 unfold gG;rw[abD ht];exact h
theorem gG.plain {C:Ctx}{f:Nat}{shs:List Sh}{obs:List (Nat×Ob)}{res:Ty}{ds:List D}{d:D}(hp:xO shs obs=true)(h:gG C f shs obs res ds d):uv C f shs obs res ds d:=by
 unfold gG at h;rw[abD fun x hx e=>?_] at h
 ·exact h
 ·simp only[xO,aq] at hp;have:=bK.1 hp.2 x hx;rw[e] at this;cases this
def dc (C:Ctx)(Φ:aR):Prop:=∀f ds d,Φ f ds=some d→∀s,C.sig f=some s→(qq s.mode=false→iz C f s ds d)∧∀shs obs,s.mode=.ob shs obs→gG C f shs obs s.res ds d
def mD:List Ty→Ty→Option (List Ty)
 |[.fn ys .bool],.tup []=>some ys
 |_,_=>none
def dp (C:Ctx):Prop:=(∀f cs,C.cap f=some cs→mD cs.args cs.res=none→C.sig f=some ⟨cs.args++cs.caps,cs.res,.dat⟩)∧∀f s,C.sig f=some s→∃fn,C.P.funcs[f]?=some fn∧fn.body.isSome=true∧(fn.name== "runtime.NumGoroutine")=false
def wu (S:St):List AgC→List Nat
 |[]=>[]
 |.obj j ver::l=>bif Nat.beq ver (S.ver j)&&lb (S.o j) then j::wu S l else wu S l
 |_::l=>wu S l
def bP (S:St)(gs:List (Nat×Bool)):List Operand→List Nat
 |[]=>[]
 |x::xs=>
  match fC S gs x with
  |.obj j ver=>bif Nat.beq ver (S.ver j)&&lb (S.o j) then j::bP S gs xs else bP S gs xs
  |.agg l=>wu S l++bP S gs xs
  |_=>bP S gs xs
def ji (gs:List (Nat×Bool))(s:Sh):Sh:=
 match gs with
 |[]=>s
 |_=>.opt gs s
def St.fzs (S:St)(js:List Nat):St:=js.foldl St.fz S
def lX:List RC→List Ty
 |[]=>[]
 |.dat t::l=>t::lX l
 |.row _ e::l=>.slice e.rol::lX l
def Dc (fr:List Nat)(dst:Nat)(s:Sig):Option Sig:=
 match s.mode with
 |.rows l=>bif !(fr.any (Nat.beq (2000000+dst)))&&Ty.beq s.res (.agg (lX l)) then some {s with mode:=.dat} else some s
 |_=>some s
theorem La:∀{l:List RC} {i:Nat} {t:Ty},(lX l)[i]?=some t→(l[i]?=some (.dat t))∨∃T e,l[i]?=some (.row T e)∧t=.slice e.rol
 |[],i,t,h=>by simp[lX] at h
 |.dat u::l,0,t,h=>by simp[lX] at h;subst h;exact .inl rfl
 |.row T e::l,0,t,h=>by simp[lX] at h;exact .inr ⟨T,e,rfl,h.symm⟩
 |.dat u::l,i+1,t,h=>by simpa using La (l:=l) (i:=i) (by simpa [lX] using h)
 |.row T e::l,i+1,t,h=>by simpa using La (l:=l) (i:=i) (by simpa [lX] using h)
theorem Si:∀(l:List RC),(lX l).length=l.length
 |[]=>rfl
 |.dat _::l=>by simp[lX,Si l]
 |.row ..::l=>by simp[lX,Si l]
theorem iz.asDat {C:Ctx}{f:Nat}{s:Sig}{ds:List D}{d:D}{l:List RC}(hm:s.mode=.rows l)(hr:s.res=.agg (lX l))(h:iz C f s ds d):iz C f {s with mode:=.dat} ds d:=by
 intro σ w args h1 h2 h3;refine(h σ w args h1 h2 h3).mono fun e w' hh=>?_;obtain⟨v,σ',rfl,hle,aD,hb,cX,cM,fN⟩:=hh;simp only[me,hm] at fN;obtain⟨vs,ds,ow,rfl,rfl,l1,l2,dO,tC⟩:=fN
 have hex:∀i,∃cs:List Value,∀T e,l[i]?=some (.row T e)→∃xs,ds.getD i .none=.list xs∧w'.ownsRow w.heap.size T e.size (vs.getD i undef) xs.length cs∧ej C.cap σ' e cs xs∧∀k,(vs.getD i undef).ownBlock=some k→ow k=some i:=fun i=>by
  cases hl:l[i]? with
  |none=>exact⟨[],fun _ _ h=>by cases h⟩
  |some c=>
   cases c with
   |dat t=>exact⟨[],fun _ _ h=>by cases h⟩
   |row T e=>
    obtain⟨cs,xs,g1,g2,g3,g4⟩:=dO i _ hl;exact⟨cs,fun T' e' h=>by cases h;exact⟨xs,g1,g2,g3,g4⟩⟩
 let cs:Nat→List Value:=fun i=>Classical.choose (hex i)
 have dM:∀i T e,l[i]?=some (.row T e)→∃xs,ds.getD i .none=.list xs∧w'.ownsRow w.heap.size T e.size (vs.getD i undef) xs.length (cs i)∧ej C.cap σ' e (cs i) xs∧∀k,(vs.getD i undef).ownBlock=some k→ow k=some i:=fun i=>WE (hex i)
 let A0:Nat→Nat→Bool:=fun i k=>decide ((vs.getD i undef).ownBlock=some k)&&(match l[i]? with|some (.row ..)=>true|_=>false)
 let τ:Im:={c:=fun k o=>match ow k with|some i=>(bif A0 i k then(cs i)[o]? else none)|none=>σ'.c k o,m:=σ'.m}
 have jT:σ'.le τ:=by
  refine⟨fun k o x hx=>?_,fun k x hx=>hx⟩;cases hk:ow k with
  |none=>simp only[τ,hk];exact hx
  |some i=>have:=(tC k i hk).2.2.1 o;rw[this] at hx;cases hx
 have xm:∀i k,A0 i k=true→∃T e,l[i]?=some (.row T e)∧(vs.getD i undef).ownBlock=some k:=fun i k hk=>by
  simp only[A0,aq,decide_eq_true_eq] at hk;obtain⟨bx,ct⟩:=hk;split at ct
  ·rename_i T e hl;exact⟨T,e,hl,bx⟩
  ·cases ct
 refine⟨_,τ,rfl,hle.trans jT,⟨fun k o x hx=>?_,aD.m⟩,hb,fun k o x hx=>?_,cM,?_⟩
 ·simp only[τ] at hx;split at hx
  ·rename_i i hi;cases hr:A0 i k with
   |false=>rw[hr] at hx;cases hx
   |true=>
    rw[hr,cond_true] at hx;obtain⟨T,e,hl,uR⟩:=xm i k hr;obtain⟨xs,g1,g2,g3,g4⟩:=dM i T e hl;have:=g2.cells uR o x hx;rw[sQ] at this;simpa using this
  ·exact aD.c k o x hx
 ·simp only[τ] at hx;split at hx
  ·rename_i i hi;exact .inr (tC k i hi).1
  ·exact cX k o x hx
 ·simp only[me,hr];have hlen:=Si l;refine .agg (lX l) vs ds (by omega) (by omega) (fun i t hi=>?_) (fun i t hi=>?_)
  ·rcases La hi with hl|⟨T,e,hl,rfl⟩
   ·exact(dO i _ hl).2.mono jT
   ·obtain⟨xs,g1,g2,⟨us,g3,g4⟩,g5⟩:=dM i T e hl;rw[g1];rcases g2.2 with⟨e1,e2⟩|⟨g,cap,cur,e1,e2,e3,e4,e5,e6,e7⟩
    ·rw[e1];have:xs=[]:=Mp e2;subst this;exact .nil _
    ·rw[e1];have uR:(vs.getD i undef).ownBlock=some g:=by rw[e1];rfl
     refine .slice e.rol g 0 xs.length cap xs us rfl e4 e5 (fun i x hx=>((g3 i x hx).mono jT).unf_rol) (fun j m u hj hu=>?_);rw[Ty.rol_size];have hR:A0 i g=true:=by simp only[A0,uR,hl];simp
     simp only[τ,g5 g uR,hR,cond_true,gI];exact g4 j m u hj hu
  ·rcases La hi with hl|⟨T,e,hl,rfl⟩
   ·exact(dO i _ hl).1
   ·rfl
theorem ah6 {C:Ctx}{fr:List Nat}{dst f:Nat}{s s':Sig}{ds:List D}{d:D}(hs:Dc fr dst s=some s')(hm:s'.mode=.dat)(h:qq s.mode=false→iz C f s ds d):iz C f s' ds d:=by
 unfold Dc at hs;split at hs
 ·rename_i l hl;cases hb:(!(fr.any (Nat.beq (2000000+dst)))&&Ty.beq s.res (.agg (lX l)))<;>simp only[hb,cond_true,cond_false] at hs
  ·cases hs;rw[hl] at hm;cases hm
  ·cases hs;simp only[aq] at hb;exact iz.asDat hl (Ty.beq_eq _ _ hb.2) (h (by rw[hl];rfl))
 ·cases hs;exact h (by rw[hm];rfl)
def pZ (C:Ctx)(S:St)(gs:List (Nat×Bool))(dst:Nat)(f:Nat)(args:List Operand):Option (St×Sh×List PI):=
 ((C.sig f).bind (Dc C.fr dst)).bind fun s=>
   match s.mode with
   |.dat=>
    (kJ C (S.fzs (bP S gs args)) gs args).bind fun u=>
      bif Ty.subs u.1 s.args then some (bif s.res.pure then S else S.fzs (bP S gs args),.dat s.res,[.call gs dst f u.2]) else Option.none
   |_=>Option.none
def Dl (C:Ctx)(S:St)(dst:Nat)(f:Nat)(args:List Operand):kM:=
 (C.sig f).bind fun s=>
    match s.mode with
    |.row T e=>
     (kJ C (S.fzs (bP S [] args)) [] args).bind fun u=>
       bif Ty.subs u.1 s.args then some (mkObj (bif e.pure then S else S.fzs (bP S [] args)) dst (.row T e),[.call [] dst f u.2,.setO dst (.r dst),.setR dst (.con .none)]) else Option.none
    |_=>Option.none
def iZ (dst:Nat)(l:List RC)(j:Nat):Option (Nat×TypeId×Ty):=
 bif Nat.beq (j%4096) dst&&Nat.ble 4096 j then(match l[j/4096-1]? with|some (.row T e)=>some (j/4096-1,T,e)|_=>Option.none) else Option.none
theorem aep {dst i:Nat}{l:List RC}{T:TypeId}{e:Ty}(hd:dst<4096)(h:l[i]?=some (.row T e)):iZ dst l (gy dst i)=some (i,T,e):=by
 unfold iZ gy;have e1:(4096*(i+1)+dst)%4096=dst:=by omega
 have e2:(4096*(i+1)+dst)/4096-1=i:=by omega
 have e3:Nat.ble 4096 (4096*(i+1)+dst)=true:=Nat.ble_eq_true_of_le (by omega);rw[e1,e2,e3,h,gH];rfl
theorem asB {dst i j:Nat}{l:List RC}{T:TypeId}{e:Ty}(h:iZ dst l j=some (i,T,e)):j=gy dst i∧l[i]?=some (.row T e):=by
 unfold iZ at h;cases hb:(Nat.beq (j%4096) dst&&Nat.ble 4096 j)<;>simp only[hb,cond_true,cond_false] at h
 ·cases h
 simp only[aq] at hb;have h1:=aB hb.1;have h2:=jJ hb.2;split at h
 ·rename_i hl;cases h;exact⟨by unfold gy;omega,hl⟩
 ·cases h
def St.newRows (S:St)(dst:Nat)(l:List RC):St:=⟨S.r,fun j=>match iZ dst l j with|some x=>.row x.2.1 x.2.2|Option.none=>S.o j,fun j=>match iZ dst l j with|some _=>S.ver j+1|Option.none=>S.ver j⟩
def nP (S:St)(dst:Nat):List RC→Nat→List AgC
 |[],_=>[]
 |.dat t::l,i=>.dat t::nP S dst l (i+1)
 |.row ..::l,i=>.obj (gy dst i) (S.ver (gy dst i)+1)::nP S dst l (i+1)
def BT (dst:Nat):List RC→Nat→List PI
 |[],_=>[]
 |.dat _::l,i=>BT dst l (i+1)
 |.row ..::l,i=>.setO (gy dst i) (.cell (.r dst) i)::BT dst l (i+1)
def Dm (C:Ctx)(S:St)(dst:Nat)(f:Nat)(args:List Operand):kM:=
 (C.sig f).bind fun s=>
    match s.mode with
    |.rows l=>
     (kJ C (S.fzs (bP S [] args)) [] args).bind fun u=>
       bif Ty.subs u.1 s.args&&Nat.blt dst 4096 then
         some (((S.fzs (bP S [] args)).newRows dst l).setR dst (.agg (nP (S.fzs (bP S [] args)) dst l 0)),.call [] dst f u.2::BT dst l 0) else Option.none
    |_=>Option.none
theorem aeq (S:St)(dst:Nat):∀(l:List RC) (i:Nat),(nP S dst l i).length=l.length∧∀(n:Nat) (c:AgC),(nP S dst l i)[n]?=some c→(∃t,l[n]?=some (.dat t)∧c=.dat t)∨∃T e,l[n]?=some (.row T e)∧c=.obj (gy dst (i+n)) (S.ver (gy dst (i+n))+1)
 |[],i=>⟨rfl,fun n c h=>by simp[nP] at h⟩
 |x::l,i=>by
  obtain⟨h1,h2⟩:=aeq S dst l (i+1);have e:∀n,i+1+n=i+(n+1):=fun n=>by omega
  cases x with
  |dat t=>
   refine⟨by simp[nP,h1],fun n c h=>?_⟩;cases n with
   |zero=>simp[nP] at h;exact .inl ⟨t,rfl,h.symm⟩
   |succ n=>simp only[nP,GZ] at h ⊢;have:=h2 n c h;rwa [e] at this
  |row T y=>
   refine⟨by simp[nP,h1],fun n c h=>?_⟩;cases n with
   |zero=>simp[nP] at h;exact .inr ⟨T,y,rfl,by rw[iI];exact h.symm⟩
   |succ n=>simp only[nP,GZ] at h ⊢;have:=h2 n c h;rwa [e] at this
theorem Sg (Φ:aR)(dst:Nat):∀(l:List RC) (i:Nat) (ρ ρ':Env),PI.runs Φ (BT dst l i) ρ=some ρ'→ρ'.r=ρ.r∧(∀j,(∀(n:Nat) (T:TypeId) (e:Ty),l[n]?=some (.row T e)→j≠gy dst (i+n))→ρ'.o j=ρ.o j)∧
 ∀(n:Nat) (T:TypeId) (e:Ty),l[n]?=some (.row T e)→ρ'.o (gy dst (i+n))=(ρ.r dst).c (i+n)
 |[],i,ρ,ρ',h=>by
  simp only[BT,PI.runs,aT] at h;subst h;exact⟨rfl,fun _ _=>rfl,fun n T e h=>by simp at h⟩
 |x::l,i,ρ,ρ',h=>by
  have e:∀n,i+1+n=i+(n+1):=fun n=>by omega
  cases x with
  |dat t=>
   obtain⟨h1,h2,h3⟩:=Sg Φ dst l (i+1) ρ ρ' h;refine⟨h1,fun j hj=>h2 j fun n T y hn=>by rw[e];exact hj (n+1) T y (by simpa using hn),fun n T y hn=>?_⟩;cases n with
   |zero=>simp at hn
   |succ n=>have:=h3 n T y (by simpa using hn);rwa [e] at this
  |row T0 y0=>
   simp only[BT,PI.runs,PI.run,kl] at h;obtain⟨h1,h2,h3⟩:=Sg Φ dst l (i+1) _ ρ' h;refine⟨h1,fun j hj=>?_,fun n T y hn=>?_⟩
   ·rw[h2 j fun n T y hn=>by rw[e];exact hj (n+1) T y (by simpa using hn)];exact br _ _ (by have:=hj 0 T0 y0 rfl;rwa [iI] at this)
   ·cases n with
    |zero=>
     rw[iI,h2 _ fun n T y hn=>by unfold gy;omega];exact aK _ _ _
    |succ n=>have:=h3 n T y (by simpa using hn);rwa [e] at this
def Dk (C:Ctx)(S:St)(dst:Nat)(f:Nat)(args:List Operand):kM:=
 (C.sig f).bind fun s=>
    match s.mode,args with
    |.ob shs obs,x::xs=>
     match Kk shs obs,fC S [] x with
     |some m,.obj j ver=>
      match S.o j with
      |.row T e=>
       bif Nat.beq ver (S.ver j)&&(Nat.beq T m.1&&Ty.beq e m.2.1) then
            (kJ C S [] xs).bind fun u=>
             bif Ty.subs u.1 m.2.2 then some ((S.newO j (.row T e)).setR dst (.obj j (S.ver j+1)),[.call [] dst f (.o j::u.2),.setO j (.r dst),.setR dst (.con .none)]) else Option.none
       else Option.none
      |_=>Option.none
     |_,_=>Option.none
    |_,_=>Option.none
def om (C:Ctx)(S:St)(gs:List (Nat×Bool))(dst:Nat)(x:Operand)(args:List Operand):Option (St×Sh×List PI):=
 match use C S gs x with
 |some (.fn aa r,e)=>
  match mD aa r with
  |some _=>Option.none
  |Option.none=>
  (kJ C (S.fzs (bP S gs args)) gs args).bind fun u=>
    bif Ty.subs u.1 aa then some (bif r.pure then S else S.fzs (bP S gs args),.dat r,[.callc gs dst e u.2]) else Option.none
 |_=>Option.none
theorem oq:∀(js:List Nat) (S:St),(S.fzs js).ver=S.ver∧(S.fzs js).r=S.r
 |[],S=>⟨rfl,rfl⟩
 |j::js,S=>by
  obtain⟨h1,h2⟩:=oq js (S.fz j);obtain⟨k1,k2⟩:=I2 S j;exact⟨h1.trans k1,h2.trans k2⟩
section
variable {C:Ctx} {S:St} {ρ:Env} {σ:Im} {own:Nat→Option Nat} {hv:Nat→Value} {w0:World} {σ0:Base} {A:Nat→Prop} {a:Act} {w:World} {gs:List (Nat×Bool)} {Φ:aR} {dst:Nat}
theorem Inv.fzs:∀(js:List Nat) {S:St} {σ:Im} {own:Nat→Option Nat},Inv C S ρ σ own hv w0 σ0 A a w→∃σ' own',σ.le σ'∧Inv C (S.fzs js) ρ σ' own' hv w0 σ0 A a w
 |[],S,σ,own,h=>⟨σ,own,.refl σ,h⟩
 |j::js,S,σ,own,h=>by
  obtain⟨σ1,dh,hle,h1⟩:=h.fz j;obtain⟨σ2,iV,jT,h2⟩:=Inv.fzs js h1;exact⟨σ2,iV,hle.trans jT,h2⟩
theorem Inv.world (h:Inv C S ρ σ own hv w0 σ0 A a w){σ':Im}{w':World}(hle:σ.le σ')(aD:σ'.ok w')(hb:Below w.heap.size w w')(cX:∀k o x,σ'.c k o=some x→σ.c k o=some x∨w.heap.size≤k)
 (cM:∀k x,σ'.m k=some x→σ.m k=some x∨w.heap.size≤k):Inv C S ρ σ' own hv w0 σ0 A a w':=by
 have aI:=h.below.size;refine h.step (fun _=>False) rfl hle aD (fun k o x hx=>(cX k o x hx).imp id (fun e=>⟨by omega,.inr e⟩)) (fun k x hx=>(cM k x hx).imp id (fun e=>⟨by omega,.inr e⟩)) (hb.mono aI) (.refl S hv) (fun j _=>⟨rfl,rfl,rfl,fun k hk=>⟨hk,hb.block k (h.owns k j hk).2.1⟩⟩) (fun _ hf=>hf.elim) (fun k j hk=>?_) (fun _=>id) (fun t=>.inl ⟨rfl,rfl,rfl⟩) (fun _ _=>rfl) (fun k hk _=>hb.block k hk) (fun k i hk=>.inl ⟨i,hk⟩) (fun _ hf=>hf.elim);obtain⟨g1,g2,g3,g4⟩:=h.owns k j hk;refine⟨g1,by have:=hb.size;omega,fun o=>?_,?_⟩
 ·cases hc:σ'.c k o with
  |none=>rfl
  |some x=>rcases cX k o x hc with e|e
           ·rw[g3 o] at e;cases e
           ·omega
 ·cases hc:σ'.m k with
  |none=>rfl
  |some x=>rcases cM k x hc with e|e
           ·rw[g4] at e;cases e
           ·omega
theorem CtxOK.mono {C:Ctx}{σ σ':Im}(h:CtxOK C σ)(hle:σ.le σ'):CtxOK C σ':=⟨fun g x hx=>(h.glob g x hx).mono hle⟩
theorem Ch (h:Inv C S ρ σ own hv w0 σ0 A a w)(hC:CtxOK C σ0)(hg:holds gs ρ=true){xs:List Operand}{u:List Ty×List PE}{ts:List Ty}(hu:kJ C S gs xs=some u)(hs:Ty.subs u.1 ts=true):pq C σ ts (xs.map a.eval) (PE.evs ρ u.2):=by
 obtain⟨l1,l2,aP⟩:=afV h hC hg _ _ hu;have hl:=Ty.subs_len _ _ hs;refine⟨by rw[fG];omega,by rw[PE.evs_eq,fG];omega,fun i t hi=>?_⟩;obtain⟨s,eH,cn⟩:=Ty.subs_get _ _ hs i t hi;exact(aP i s eH).sub cn
theorem Gu {o:Oper}{f:Nat}{args:Array Operand}{ts:Array TypeId}(ba:dp C){s:Sig}(hs:C.sig f=some s)(ho:o.op=.call {callee:=.value (.func f),args:=args,argTypes:=ts}):
 (execOp a.eval o).run C.P w=.ok (.enter f (args.map a.eval)) w:=by
 obtain⟨fn,h1,h2,h3⟩:=ba.2 f s hs;obtain⟨bd,gK⟩:=WY.1 h2;have h4:¬fn.name= "runtime.NumGoroutine" :=by simpa using h3
 simp[execOp,ho,resolve,Act.eval,Deferred.ofValue,invoke,callFunc,h1,gK,h4]
theorem afb {o:Oper}{x:Operand}{f:Nat}{vs:List Value}{args:Array Operand}{ts:Array TypeId}(ba:dp C){s:Sig}(hs:C.sig f=some s)(hx:a.eval x=.func (.func f) #[] vs.toArray)(ho:o.op=.call {callee:=.value x,args:=args,argTypes:=ts}):
 (execOp a.eval o).run C.P w=.ok (.enter f (args.map a.eval++vs.toArray)) w:=by
 obtain⟨fn,h1,h2,h3⟩:=ba.2 f s hs;obtain⟨bd,gK⟩:=WY.1 h2;have h4:¬fn.name= "runtime.NumGoroutine" :=by simpa using h3
 simp[execOp,ho,resolve,hx,Deferred.ofValue,invoke,callFunc,h1,gK,h4]
theorem Xz (h:Inv C S ρ σ own hv w0 σ0 A a w)(hC:CtxOK C σ0)(ht:¬A dst)(af:dst<a.tmps.size)(dN:∀g,g∈gs→A g.1)(hg:holds gs ρ=true){f:Nat}{s:Sig}{js:List Nat}{vals:List Value}{ds:List D}{d:D}(kZ:s.mode=.dat)(hfn:iz C f s ds d)
 (iO:∀σ1 dh,σ.le σ1→Inv C (S.fzs js) ρ σ1 dh hv w0 σ0 A a w→pq C σ1 s.args vals ds) {K:Act→World→Prop} {Q:Exit→Act→World→Prop}
 (hK:∀a' w',Good C w0 σ0 ((bif s.res.pure then S else S.fzs js).setR dst (ji gs (.dat s.res))) (ρ.setR dst d) (fun u=>A u∨u=dst) a' w'→a'.tmps.size=a.tmps.size→K a' w'):
 Calls C.P f vals.toArray w (fun e kK=>match e with|.returned v=>K (a.put (some dst) v) kK|.panicked chain=>Q (.panic chain) a kK|.outgrown=>LetsOut Q):=by
 obtain⟨σ1,dh,lI,h1⟩:=Inv.fzs js h;have qg:=hfn σ1 w vals.toArray h1.ok (hC.mono h1.le) (by simpa using iO σ1 dh lI h1);refine qg.mono fun e w' hh=>?_;obtain⟨v,σ',rfl,hle,aD,hb,cX,cM,fN⟩:=hh;simp only[me,kZ] at fN;refine hK _ _ ?_ (size_put _ _ _);have hh:holds gs (ρ.setR dst d)=true:=by rw[Ep (t:=dst) (d:=d) fun g hm e=>ht (by rw[←e];exact dN g hm)];exact hg
 have put:∀{S2:St} {σ2:Im} {iV:Nat→Option Nat},Inv C S2 ρ σ2 iV hv w0 σ0 A a w'→Rep C.cap σ2 s.res v d→Good C w0 σ0 (S2.setR dst (ji gs (.dat s.res))) (ρ.setR dst d) (fun u=>A u∨u=dst) (a.put (some dst) v) w':=by
  intro S2 σ2 iV h2 hr;cases gs with
  |nil=>exact⟨_,_,_,h2.setReg ht (s:=.dat s.res) hr af (fun _ _ e=>by cases e)⟩
  |cons g bM=>
   refine⟨_,_,_,h2.setReg ht (s:=.opt (g::bM) (.dat s.res)) ⟨fun _=>hr,fun e=>absurd (hh.symm.trans e) (by decide)⟩ af (fun gs s e=>?_)⟩;cases e;exact⟨dN,fun _ _ e=>by cases e⟩
 cases hp:s.res.pure with
 |true=>
  simp only[cond_true];exact put (h.world (.refl σ) (h.ok.below hb) hb (fun _ _ _ hx=>.inl hx) (fun _ _ hx=>.inl hx)) (fN.pure hp)
 |false=>
  simp only[cond_false];exact put (h1.world hle aD hb cX cM) fN
theorem CW {o:Oper}{f:Nat}{args:Array Value}{K:Act→World→Prop}{Q:Exit→Act→World→Prop}(hd:o.dst=some dst)(hx:(execOp a.eval o).run C.P w=.ok (.enter f args) w)
 (h:Calls C.P f args w (fun e kK=>match e with|.returned v=>K (a.put (some dst) v) kK|.panicked chain=>Q (.panic chain) a kK|.outgrown=>LetsOut Q)):o.wp C.P a w K Q:=by
 simp only[Oper.wp,hx,Oper.upon,hd];refine h.mono fun e kK hh=>?_;cases e<;>exact hh
theorem aiG (h:Inv C S ρ σ own hv w0 σ0 A a w)(hC:CtxOK C σ0)(ba:dp C)(hΦ:dc C Φ)(ht:¬A dst)(af:dst<a.tmps.size)(dN:∀g,g∈gs→A g.1)(hg:holds gs ρ=true){f:Nat}{args:Array Operand}{ts:Array TypeId}{r:St×Sh×List PI}
 (hr:pZ C S gs dst f args.toList=some r) {o:Oper} (hd:o.dst=some dst) (ho:o.op=.call {callee:=.value (.func f),args:=args,argTypes:=ts}):bW C w0 σ0 Φ S ρ A a w o (r.1.setR dst (ji gs r.2.1),r.2.2):=by
 simp only[pZ,av] at hr;obtain⟨s,⟨s0,hs,nw⟩,hr⟩:=hr;split at hr
 case h_2=>cases hr
 rename_i kZ;simp only[av] at hr;obtain⟨u,hu,hr⟩:=hr;cases bN:Ty.subs u.1 s.args<;>simp only[bN,cond_true,cond_false] at hr
 ·cases hr
 cases hr;intro ρ' ak K Q hK;simp only[PI.runs,PI.run,hg,cond_true,av,aC] at ak;obtain⟨ρ1,⟨d,bp,rfl⟩,ak⟩:=ak;cases ak;have hfn:=ah6 nw kZ (hΦ f _ d bp s0 hs).1;refine CW hd (Gu ba hs ho) ?_;have jY:args.map a.eval=(args.toList.map a.eval).toArray:=by apply sD;rw[v3]
 rw[jY];have gM:(fun u=>A u∨o.dst=some u)=(fun u=>A u∨u=dst):=by funext u;rw[hd];simp[eq_comm]
 rw[gM] at hK;exact Xz h hC ht af dN hg (js:=bP S gs args.toList) kZ hfn (fun σ1 dh _ h1=>Ch h1 hC hg hu bN) hK
theorem aix (h:Inv C S ρ σ own hv w0 σ0 A a w)(hC:CtxOK C σ0)(ba:dp C)(hΦ:dc C Φ)(ht:¬A dst)(af:dst<a.tmps.size)(dN:∀g,g∈gs→A g.1)(hg:holds gs ρ=true){x:Operand}{args:Array Operand}{ts:Array TypeId}{r:St×Sh×List PI}
 (hr:om C S gs dst x args.toList=some r) {o:Oper} (hd:o.dst=some dst) (ho:o.op=.call {callee:=.value x,args:=args,argTypes:=ts}):bW C w0 σ0 Φ S ρ A a w o (r.1.setR dst (ji gs r.2.1),r.2.2):=by
 unfold om at hr;split at hr
 case h_2=>cases hr
 rename_i aa r0 e PY;split at hr
 case h_1=>cases hr
 rename_i O2;simp only[av] at hr;obtain⟨u,hu,hr⟩:=hr;cases bN:Ty.subs u.1 aa<;>simp only[bN,cond_true,cond_false] at hr
 ·cases hr
 cases hr;have hx:=cj h hC hg PY;intro ρ' ak K Q hK;simp only[PI.runs,PI.run,hg,cond_true,av] at ak;obtain⟨ρ1,oE,ak⟩:=ak;cases ak;split at oE
 case h_2=>cases oE
 rename_i f caps bL;simp only[aC] at oE;obtain⟨d,bp,rfl⟩:=oE;rw[bL] at hx;generalize fK:a.eval x=xv at hx;generalize bm:Ty.fn aa r0=ty at hx;cases hx with
 |fn f cs vs ds hc h1 h2 aP=>
  cases bm;have hs:=ba.1 f cs hc O2;have hfn:=(hΦ f _ d bp _ hs).1 rfl;refine CW hd (afb ba hs fK ho) ?_;have jY:args.map a.eval++vs.toArray=(args.toList.map a.eval++vs).toArray:=by apply sD;simp
  rw[jY];have gM:(fun u=>A u∨o.dst=some u)=(fun u=>A u∨u=dst):=by funext u;rw[hd];simp[eq_comm]
  rw[gM] at hK;refine Xz h hC ht af dN hg (js:=bP S gs args.toList) (s:=⟨cs.args++cs.caps,cs.res,.dat⟩) rfl hfn (fun σ1 dh lI i1=>?_) hK;obtain⟨g1,g2,g3⟩:=Ch i1 hC hg hu bN;refine⟨by simp only[kg,g1,h1],by simp only[kg,g2,h2],fun i t hi=>?_⟩;rw[ma] at hi;split at hi
  ·rename_i af;have:=g3 i t hi;rw[aJ,aJ,kN (by omega),kN (by omega)];simpa [aJ] using this
  ·rename_i fj;have:=(aP _ t hi).mono lI;rw[aJ,aJ,ly (by omega),ly (by omega),g1,g2];simpa [aJ] using this
theorem aiB (h:Inv C S ρ σ own hv w0 σ0 A a w)(hC:CtxOK C σ0)(ba:dp C)(hΦ:dc C Φ)(ht:¬A dst)(af:dst<a.tmps.size){f:Nat}{args:Array Operand}{ts:Array TypeId}{r:St×List PI}
 (hr:Dl C S dst f args.toList=some r) {o:Oper} (hd:o.dst=some dst) (ho:o.op=.call {callee:=.value (.func f),args:=args,argTypes:=ts}):bW C w0 σ0 Φ S ρ A a w o r:=by
 simp only[Dl,av] at hr;obtain⟨s,hs,hr⟩:=hr;split at hr
 case h_2=>cases hr
 rename_i T e kZ;simp only[av] at hr;obtain⟨u,hu,hr⟩:=hr;cases bN:Ty.subs u.1 s.args<;>simp only[bN,cond_true,cond_false] at hr
 ·cases hr
 cases hr;intro ρ' ak K Q hK;have Ea:holds ([]:List (Nat×Bool)) ρ=true:=rfl;simp only[PI.runs,PI.run,Ea,cond_true,av,aC] at ak;obtain⟨ρ1,⟨d,bp,rfl⟩,ρ2,g2,ρ3,g3,g4⟩:=ak;cases g2;cases g3;cases g4;have hfn:=(hΦ f _ d bp s hs).1 (by rw[kZ];rfl);obtain⟨σ1,dh,lI,h1⟩:=Inv.fzs (bP S [] args.toList) h;have jY:args.map a.eval=(args.toList.map a.eval).toArray:=by apply sD;rw[v3]
 refine CW hd (Gu ba hs ho) ?_;rw[jY];have qg:=hfn σ1 w (args.toList.map a.eval).toArray h1.ok (hC.mono h1.le) (by simpa using Ch h1 hC rfl hu bN);refine qg.mono fun e' w' hh=>?_;obtain⟨v,σ',rfl,hle,aD,hb,cX,cM,fN⟩:=hh;simp only[me,kZ] at fN;obtain⟨cells,xs,rfl,cd,jn,np⟩:=fN;refine hK _ _ ?_ (size_put _ _ _);have gM:(fun u=>A u∨o.dst=some u)=(fun u=>A u∨u=dst):=by funext u;rw[hd];simp[eq_comm]
 rw[gM];have main:∀{S2:St} {σ1 σ2:Im} {iV:Nat→Option Nat},Inv C S2 ρ σ1 iV hv w0 σ0 A a w→σ1.le σ2→σ2.ok w'→(∀k o x,σ2.c k o=some x→σ1.c k o=some x∨w.heap.size≤k)→(∀k x,σ2.m k=some x→σ1.m k=some x∨w.heap.size≤k)→ej C.cap σ2 e cells xs→(∀k,v.ownBlock=some k→(∀o,σ2.c k o=none)∧σ2.m k=none)→
  Good C w0 σ0 (mkObj S2 dst (.row T e)) ((ρ.setO dst (.list xs)).setR dst .none) (fun u=>A u∨u=dst) (a.put (some dst) v) w':=by
  intro S2 σ1 σ2 iV h2 jT Pr amP amS al7 amc;have aI:=h1.below.size
  have lL:=h2.newOσ dst (.row T e) (.list xs) v (fun k=>decide (v.ownBlock=some k)) jT Pr amP amS hb (fun k hk=>cd.lt k (by simpa using hk)) (fun k hk=>amc k (by simpa using hk)) ⟨cells,xs,by simp[Env.setO,aK],by
        rw[aK];refine⟨cd.1,?_⟩;rcases cd.2 with e1|⟨g,cap,cur,e1,e2,e3⟩
        ·exact .inl e1
        ·exact .inr ⟨g,cap,cur,e1,by omega,e3⟩,al7,fun k hk=>by rw[aK] at hk;simp[fy,hk]⟩
  have Z2:=lL.setObj ht (j:=dst) (v:=v) (aK _ _ _) af;have e:(S2.newO dst (.row T e)).ver dst=S2.ver dst+1:=aK _ _ _;rw[e] at Z2;exact⟨_,_,_,Z2⟩
 have eρ:((ρ.setR dst (.list xs)).setO dst ((PE.r dst).ev (ρ.setR dst (.list xs)))).setR dst ((PE.con D.none).ev ((ρ.setR dst (.list xs)).setO dst ((PE.r dst).ev (ρ.setR dst (.list xs)))))=(ρ.setO dst (.list xs)).setR dst .none:=by
  have:∀d1 d2:D,bV (bV ρ.r dst d1) dst d2=bV ρ.r dst d2:=by
   intro d1 d2;funext i;simp only[eZ];split<;>rfl
  simp[Env.setR,Env.setO,PE.ev,aK,this]
 show Good C w0 σ0 _ _ _ _ _;rw[eρ];cases hp:e.pure with
 |true=>
  simp only[cond_true];refine main h (.refl σ) (h.ok.below hb) (fun _ _ _ hx=>.inl hx) (fun _ _ hx=>.inl hx) ?_ (fun k hk=>?_)
  ·obtain⟨vs,k1,k2⟩:=jn;exact⟨vs,fun i x hx=>(k1 i x hx).pure hp,k2⟩
  ·obtain⟨f1,f2⟩:=np k hk;refine⟨fun o=>?_,?_⟩
   ·cases hc:σ.c k o with
    |none=>rfl
    |some x=>have:=hle.c _ _ _ (lI.c _ _ _ hc);rw[f1 o] at this;cases this
   ·cases hc:σ.m k with
    |none=>rfl
    |some x=>have:=hle.m _ _ (lI.m _ _ hc);rw[f2] at this;cases this
 |false=>
  simp only[cond_false];exact main h1 hle aD cX cM jn np
theorem aiD (h:Inv C S ρ σ own hv w0 σ0 A a w)(hC:CtxOK C σ0)(ba:dp C)(hΦ:dc C Φ)(ht:¬A dst)(af:dst<a.tmps.size){f:Nat}{args:Array Operand}{ts:Array TypeId}{r:St×List PI}
 (hr:Dm C S dst f args.toList=some r) {o:Oper} (hd:o.dst=some dst) (ho:o.op=.call {callee:=.value (.func f),args:=args,argTypes:=ts}):bW C w0 σ0 Φ S ρ A a w o r:=by
 simp only[Dm,av] at hr;obtain⟨s,hs,hr⟩:=hr;split at hr
 case h_2=>cases hr
 rename_i l kZ;simp only[av] at hr;obtain⟨u,hu,hr⟩:=hr;cases bN:(Ty.subs u.1 s.args&&Nat.blt dst 4096)<;>simp only[bN,cond_true,cond_false] at hr
 ·cases hr
 cases hr;simp only[aq,iJ] at bN;obtain⟨bN,rz⟩:=bN;intro ρ' ak K Q hK;have Ea:holds ([]:List (Nat×Bool)) ρ=true:=rfl;simp only[PI.runs,PI.run,Ea,cond_true,av,aC] at ak;obtain⟨ρ1,⟨d,bp,rfl⟩,ak⟩:=ak;have hfn:=(hΦ f _ d bp s hs).1 (by rw[kZ];rfl);obtain⟨σ1,dh,lI,h1⟩:=Inv.fzs (bP S [] args.toList) h;generalize S.fzs (bP S [] args.toList)=S1 at hu h1 hK ⊢;have jY:args.map a.eval=(args.toList.map a.eval).toArray:=by apply sD;rw[v3]
 refine CW hd (Gu ba hs ho) ?_;rw[jY];have qg:=hfn σ1 w (args.toList.map a.eval).toArray h1.ok (hC.mono h1.le) (by simpa using Ch h1 hC rfl hu bN);refine qg.mono fun e' w' hh=>?_;obtain⟨v,σ',rfl,hle,aD,hb,cX,cM,fN⟩:=hh;simp only[me,kZ] at fN;obtain⟨vs,ds,ow,rfl,rfl,l1,l2,dO,tC⟩:=fN;refine hK _ _ ?_ (size_put _ _ _);have gM:(fun u=>A u∨o.dst=some u)=(fun u=>A u∨u=dst):=by funext u;rw[hd];simp[eq_comm]
 rw[gM];obtain⟨r1,r2,r3⟩:=Sg Φ dst l 0 _ ρ' ak;simp only[gI] at r2 r3;have aeO:(ρ.setR dst (.agg ds)).r dst=.agg ds:=aK _ _ _;rw[aeO] at r3;have aI:=h1.below.size
 let W:Nat→Prop:=fun j=>∃x,iZ dst l j=some x
 let own':Nat→Option Nat:=fun k=>match ow k with
  |some i=>some (gy dst i)
  |none=>match dh k with
   |some j=>match iZ dst l j with|some _=>none|none=>some j
   |none=>none
 let hv':Nat→Value:=fun j=>match iZ dst l j with|some x=>vs.getD x.1 undef|none=>hv j
 have Pg:∀j,¬W j→iZ dst l j=none:=fun j hj=>by
  cases e:iZ dst l j with
  |none=>rfl
  |some x=>exact absurd ⟨x,e⟩ hj
 have fM:∀j,¬W j→ρ'.o j=ρ.o j:=fun j hj=>r2 j fun n T e hn e1=>hj ⟨(n,T,e),by rw[e1];exact aep rz hn⟩
 have w8:∀k j,dh k=some j→ow k=none:=fun k j hk=>by
  cases e:ow k with
  |none=>rfl
  |some i=>have:=tC k i e;have:=h1.owns k j hk;omega
 have rv:Compat S1 hv ((S1.newRows dst l).setR dst (.agg (nP S1 dst l 0))) hv':=⟨fun j=>by
  show S1.ver j≤(match iZ dst l j with|some _=>S1.ver j+1|none=>S1.ver j);split
  ·exact Nat.le_succ _
  ·exact bl _,fun j e=>by
  have e:(match iZ dst l j with|some _=>S1.ver j+1|none=>S1.ver j)=S1.ver j:=e;show(match iZ dst l j with|some x=>vs.getD x.1 undef|none=>hv j)=hv j;cases hj:iZ dst l j with
  |none=>rfl
  |some x=>rw[hj] at e;simp only at e;omega⟩
 refine⟨σ',own',hv',?_⟩
 refine h1.step (w':=w') W rfl hle aD (fun k o x hx=>(cX k o x hx).imp id fun e=>⟨by omega,.inr e⟩) (fun k x hx=>(cM k x hx).imp id fun e=>⟨by omega,.inr e⟩) (hb.mono aI) rv
  (fun j hj=>⟨?_,fM j hj,?_,fun k hk=>⟨?_,hb.block k (h1.owns k j hk).2.1⟩⟩) (fun j hj=>?_) (fun k i hk=>?_) (fun _=>.inl) (fun t=>?_) (fun t hA=>?_) (fun k hk _=>hb.block k hk) (fun k i hk=>?_) (fun j hj=>?_)
 ·show(match iZ dst l j with|some x=>Ob.row x.2.1 x.2.2|none=>S1.o j)=S1.o j;rw[Pg j hj]
 ·show(match iZ dst l j with|some x=>vs.getD x.1 undef|none=>hv j)=hv j;rw[Pg j hj]
 ·show own' k=some j;simp only[own',w8 k j hk,hk,Pg j hj]
 ·obtain⟨⟨i,T,e⟩,hx⟩:=hj;obtain⟨rfl,hi⟩:=asB hx;show cg C _ ρ' σ' own' hv' w' w0.heap.size (gy dst i) (match iZ dst l (gy dst i) with|some x=>Ob.row x.2.1 x.2.2|none=>S1.o (gy dst i));rw[hx];obtain⟨cells,xs,g1,g2,g3,g4⟩:=dO i _ hi;have e2:hv' (gy dst i)=vs.getD i undef:=by simp only[hv',hx]
  refine⟨cells,xs,?_,?_,g3,fun k hk=>?_⟩
  ·rw[r3 i T e hi];simpa [D.c,D.cells] using g1
  ·rw[e2];refine⟨g2.1,?_⟩;rcases g2.2 with e1|⟨g,cap,cur,e1,e3,e4⟩
   ·exact .inl e1
   ·exact .inr ⟨g,cap,cur,e1,by omega,e4⟩
  ·rw[e2] at hk;simp only[own',g4 k hk]
 ·simp only[own'] at hk;split at hk
  ·rename_i i' df;have:=tC k i' df;exact⟨by omega,this.2.1,this.2.2.1,this.2.2.2⟩
  ·split at hk
   ·rename_i j hj;obtain⟨g1,g2,g3,g4⟩:=h1.owns k j hj;refine⟨g1,by have:=hb.size;omega,fun o=>?_,?_⟩
    ·cases hc:σ'.c k o with
     |none=>rfl
     |some x=>rcases cX k o x hc with e|e
              ·rw[g3 o] at e;cases e
              ·omega
    ·cases hc:σ'.m k with
     |none=>rfl
     |some x=>rcases cM k x hc with e|e
              ·rw[g4] at e;cases e
              ·omega
   ·cases hk
 ·by_cases hu:t=dst
  ·subst hu;refine .inr ⟨?_,fun gs s e=>?_⟩
   ·rw[yy];have e3:ρ'.r t=.agg ds:=by rw[r1];exact aeO
    simp only[St.setR,aK,af,and_self,if_true,e3];obtain⟨q1,q2⟩:=aeq S1 t l 0;refine⟨vs,ds,rfl,rfl,by omega,by omega,fun i c hc=>?_⟩;rcases q2 i c hc with⟨ty,hl,rfl⟩|⟨T,e,hl,rfl⟩
    ·exact dO i _ hl
    ·rw[gI];have hx:=aep rz hl;refine⟨?_,fun _=>?_⟩
     ·show S1.ver (gy t i)+1≤(match iZ t l (gy t i) with|some _=>S1.ver (gy t i)+1|none=>S1.ver (gy t i));rw[hx];exact bl _
     ·simp only[hv',hx]
   ·simp only[St.setR,aK] at e;cases e
  ·refine .inl ⟨br _ _ hu,?_,?_⟩
   ·rw[yy];simp[hu]
   ·rw[r1];exact br _ _ hu
 ·rw[r1];exact br _ _ (fun e=>ht (e▸hA))
 ·simp only[own'] at hk;split at hk
  ·rename_i i' df;exact .inr (tC k i' df).1
  ·split at hk
   ·rename_i j hj;exact .inl ⟨j,hj⟩
   ·cases hk
 ·obtain⟨x,hx⟩:=hj;show(match iZ dst l j with|some x=>Ob.row x.2.1 x.2.2|none=>S1.o j)≠.tr;rw[hx];intro e;cases e
theorem aiz (h:Inv C S ρ σ own hv w0 σ0 A a w)(hC:CtxOK C σ0)(ba:dp C)(hΦ:dc C Φ)(ht:¬A dst)(af:dst<a.tmps.size){f:Nat}{args:Array Operand}{ts:Array TypeId}{r:St×List PI}
 (hr:Dk C S dst f args.toList=some r) {o:Oper} (hd:o.dst=some dst) (ho:o.op=.call {callee:=.value (.func f),args:=args,argTypes:=ts}):bW C w0 σ0 Φ S ρ A a w o r:=by
 simp only[Dk,av] at hr;obtain⟨s,hs,hr⟩:=hr;split at hr
 case h_2=>cases hr
 rename_i shs obs x xs kZ iO;split at hr
 case h_2=>cases hr
 rename_i m j ver lJ gN;split at hr
 case h_2=>cases hr
 rename_i T e eo;cases hb:(Nat.beq ver (S.ver j)&&(Nat.beq T m.1&&Ty.beq e m.2.1))<;>simp only[hb,cond_true,cond_false] at hr
 ·cases hr
 simp only[aq] at hb;have dP:=aB hb.1;have hT:=aB hb.2.1;have he:=Ty.beq_eq _ _ hb.2.2;simp only[av] at hr;obtain⟨u,hu,hr⟩:=hr;cases bN:Ty.subs u.1 m.2.2<;>simp only[bN,cond_true,cond_false] at hr
 ·cases hr
 cases hr;intro ρ' ak K Q hK;have Ea:holds ([]:List (Nat×Bool)) ρ=true:=rfl;simp only[PI.runs,PI.run,Ea,cond_true,av,aC] at ak;obtain⟨ρ1,⟨d,bp,rfl⟩,ρ2,g2,ρ3,g3,g4⟩:=ak;cases g2;cases g3;cases g4;have hfn:=(hΦ f _ d bp s hs).2 shs obs kZ;unfold gG at hfn;rw[lJ] at hfn;simp only at hfn;rw[←hT,←he] at hfn;have cq:=(sq h (gs:=[]) rfl x).1;rw[gN] at cq;have cq:=cq.2 dP;have bh:=h.objs j;rw[eo] at bh;obtain⟨cells,ys,h1,h2,h3,h4⟩:=bh;have jY:args.map a.eval=(a.eval x::xs.map a.eval).toArray:=by apply sD;rw[v3,iO];rfl
 refine CW hd (Gu ba hs ho) ?_;rw[jY,cq];have aI:=h.below.size
 have qg:=hfn w0.heap.size σ w (hv j) (xs.map a.eval) ys cells (PE.evs ρ u.2) (by simp[PE.evs,PE.ev,h1]) h.ok (hC.mono h.le) aI h2 h3 (fun k hk=>by
  have:=h.owns k j (h4 k hk);exact this.2) (Ch h hC rfl hu bN)
 refine qg.mono fun e' w' hh=>?_;obtain⟨v',ke,dA,rfl,rfl,DW,w8,am5,al6,Zg⟩:=hh;refine hK _ _ ?_ (size_put _ _ _);have gM:(fun u=>A u∨o.dst=some u)=(fun u=>A u∨u=dst):=by funext u;rw[hd];simp[eq_comm]
 rw[gM]
 have P0:=h.updO j (.row T e) (.list ke) v' (fun k=>decide (v'.ownBlock=some k)) DW (fun k hk aE=>w8 k hk (fun e=>aE (h4 k e))) (fun k hk=>by
  have bu:v'.ownBlock=some k:=by simpa using hk
  exact⟨(Zg k bu).1.imp (h4 k) id,(Zg k bu).2⟩)
  ⟨dA,ke,by simp[Env.setO,aK],by rw[aK];exact am5,al6,fun k hk=>by rw[aK] at hk;simp[fy,hk]⟩
 have h9:=P0.setObj ht (j:=j) (v:=v') (aK _ _ _) af;have e1:(S.newO j (.row T e)).ver j=S.ver j+1:=aK _ _ _;rw[e1] at h9;have eρ:((ρ.setR dst (.list ke)).setO j ((PE.r dst).ev (ρ.setR dst (.list ke)))).setR dst ((PE.con D.none).ev ((ρ.setR dst (.list ke)).setO j ((PE.r dst).ev (ρ.setR dst (.list ke)))))=(ρ.setO j (.list ke)).setR dst .none:=by
  have:∀d1 d2:D,bV (bV ρ.r dst d1) dst d2=bV ρ.r dst d2:=by
   intro d1 d2;funext i;simp only[eZ];split<;>rfl
  simp[Env.setR,Env.setO,PE.ev,aK,this]
 show Good C w0 σ0 _ _ _ _ _;rw[eρ];exact⟨_,_,_,h9⟩
end
def iw:Nat:=1000000013
abbrev nW:=Sh×Option (Ty×PE)
def Hb (C:Ctx)(S:St)(x:Operand):nW:=(fC S [] x,use C S [] x)
def XB (c:Nat×Nat):nW:=(.ptr c.1 c.2 0,none)
def cE:List Nat→List Nat→Nat→Option Nat
 |i::is,j::js,k=>bif Nat.beq i k then some j else cE is js k
 |_,_,_=>none
def arH:Sh→Sh→List (Nat×Nat)
 |.obj i _,.obj j _=>[(i,j)]
 |.ptr i _ _,.ptr j _ _=>[(i,j)]
 |.fclo _ a,.fclo _ b=>(a.zip b).map fun x=>(x.1.1,x.2.1)
 |_,_=>[]
def Rx:List Sh→List Sh→List (Nat×Nat)
 |a::aa,b::bs=>arH a b++Rx aa bs
 |_,_=>[]
def arG:Ob→Ob→List (Nat×Nat)
 |.box _ a,.box _ b=>Rx a b
 |_,_=>[]
def aa4:List (Nat×Nat)→Nat→Nat
 |[],_=>iw
 |x::l,i=>bif Nat.beq x.1 i then x.2 else aa4 l i
def aqr (S:St)(obs:List (Nat×Ob))(p:List (Nat×Nat)):List (Nat×Nat):=p++p.flatMap fun x=>arG (eg obs x.1) (S.o x.2)
def Yn (S:St)(shs:List Sh)(obs:List (Nat×Ob))(acts:List nW):List Nat:=obs.map fun o=>aa4 (aqr S obs (Rx shs (acts.map (·.1)))) o.1
section
variable (ver:Nat→Nat) (is js:List Nat)
def Gr:List (Nat×Nat)→Option (List (Nat×Nat))
 |[]=>some []
 |x::l=>bif Nat.beq x.2 0 then(cE is js x.1).bind fun j=>(Gr l).map fun r=>(j,ver j)::r else none
def kH:Sh→Option Sh
 |.dat t=>some (.dat t)
 |.none=>some .none
 |.obj i v=>bif Nat.beq v 0 then(cE is js i).map fun j=>.obj j (ver j) else none
 |.ptr i v off=>bif Nat.beq v 0 then(cE is js i).map fun j=>.ptr j (ver j) off else none
 |.fclo f caps=>(Gr ver is js caps).map (.fclo f)
 |_=>none
def Gs:List Sh→Option (List Sh)
 |[]=>some []
 |s::l=>(kH ver is js s).bind fun a=>(Gs l).map (a::·)
def qJ:Ob→Option Ob
 |.row T e=>some (.row T e)
 |.mp a b=>some (.mp a b)
 |.box ag shs=>(Gs ver is js shs).map (.box ag)
 |_=>none
end
def DC (c:Sh):Sh→Bool
 |.none=>true
 |.dat b=>match c with|.dat a=>Ty.sub a b|_=>false
 |x=>Sh.beq c x
def An:List Sh→List Sh→Bool
 |[],[]=>true
 |a::aa,b::bs=>DC a b&&An aa bs
 |_,_=>false
def Am:Ob→Ob→Bool
 |.box x a,.box y b=>(x==y)&&An a b
 |.row T a,.row U b=>Nat.beq T U&&Ty.beq a b
 |.mp a b,.mp c d=>Ty.beq a c&&Ty.beq b d
 |_,_=>false
def rq (S:St)(is js:List Nat):List (Nat×Ob)→List Nat→Bool
 |[],[]=>true
 |o::obs,j::jl=>(match qJ S.ver is js o.2 with|some x=>Am (S.o j) x|none=>false)&&rq S is js obs jl
 |_,_=>false
def DA (S:St)(is js:List Nat)(a:nW)(s:Sh):Option PE:=
 match s with
 |.dat t=>(match a.2 with|some x=>bif Ty.sub x.1 t then some x.2 else none|none=>none)
 |.none=>some (.con .none)
 |s=>(match kH S.ver is js s with|some x=>bif Sh.beq a.1 x then some (.con .none) else none|none=>none)
def uL (S:St)(is js:List Nat):List nW→List Sh→Option (List PE)
 |[],[]=>some []
 |a::aa,s::ss=>(DA S is js a s).bind fun e=>(uL S is js aa ss).map (e::·)
 |_,_=>none
def pY:List Sh→List Nat
 |[]=>[]
 |.obj i _::l=>i::pY l
 |.ptr i _ _::l=>i::pY l
 |.fclo _ c::l=>c.map (·.1)++pY l
 |_::l=>pY l
def ay (l:List Nat)(x:Nat):Bool:=l.any (Nat.beq x)
def vW (ver:Nat→Nat)(shs:List Sh)(is js:List Nat):Nat→Nat:=fun j=>match cE js is j with|some i=>bif ay (pY shs) i then ver j else ver j+1|none=>ver j
def St.handed (S:St)(shs:List Sh)(obs:List (Nat×Ob))(is js:List Nat):St:=
 ⟨S.r,fun j=>match cE js is j with|some i=>(match qJ (vW S.ver shs is js) is js (eg obs i) with|some o=>o|none=>.dead)|none=>S.o j,vW S.ver shs is js⟩
def Ap (S:St):List Operand→List Sh→List Nat
 |x::xs,s::ss=>(bif nB s then bP S [] [x] else[])++Ap S xs ss
 |_,_=>[]
def Gy:List Nat→Nat→List PI
 |[],_=>[]
 |j::js,k=>.setO j (.tget (.o iw) k)::Gy js (k+1)
def N2 (S:St)(res:Ty)(f:Nat)(shs:List Sh)(obs:List (Nat×Ob))(acts:List nW)(is js:List Nat):Option (St×Ty×List PI):=
 (uL S is js acts shs).bind fun es=>
    bif xO shs obs&&(gA is&&gA js&&rq S is js obs js&&oI (S.o iw)&& !ay js iw) then some (S.handed shs obs is js,res,.mcall iw f (es++js.map .o)::Gy js 1) else none
def N3 (C:Ctx)(S:St)(res:Ty)(f:Nat)(shs:List Sh)(obs:List (Nat×Ob))(acts:List nW):Option (St×Ty×List PI):=
 N2 S res f shs obs acts (obs.map (·.1)) (Yn S shs obs acts)
def rj (C:Ctx)(S:St)(f:Nat)(args:List Operand)(caps:List (Nat×Nat)):Option (St×Ty×List PI):=
 (C.sig f).bind fun s=>
    match s.mode with
    |.ob shs obs=>N3 C (S.fzs (Ap S args shs)) s.res f shs obs (args.map (Hb C (S.fzs (Ap S args shs)))++caps.map XB)
    |_=>none
theorem aao {l:List Nat}{x:Nat}:ay l x=true↔x∈l:=by
 unfold ay;rw[nY];exact⟨fun⟨y,hy,h⟩=>by rw[aB h];exact hy,fun h=>⟨x,h,gH x⟩⟩
theorem aaZ:∀{is js:List Nat} {i j:Nat},cE is js i=some j→∃k:Nat,is[k]?=some i∧js[k]?=some j
 |[],_,i,j,h=>by cases h
 |_::_,[],i,j,h=>by cases h
 |x::is,y::js,i,j,h=>by
  simp only[cE] at h;cases hb:Nat.beq x i<;>simp only[hb,cond_true,cond_false] at h
  ·obtain⟨k,h1,h2⟩:=aaZ h;exact⟨k+1,h1,h2⟩
  ·cases h;exact⟨0,by rw[aB hb];rfl,rfl⟩
theorem Kb:∀{is js:List Nat} {i j k:Nat},is.Nodup→is[k]?=some i→js[k]?=some j→cE is js i=some j
 |[],_,i,j,k,_,h,_=>by simp at h
 |_::_,[],i,j,k,_,_,h=>by simp at h
 |x::is,y::js,i,j,k,hn,h1,h2=>by
  simp only[cE];cases k with
  |zero=>simp at h1 h2;subst h1 h2;rw[gH];rfl
  |succ k=>
   simp at h1 h2;have aE:x≠i:=fun e=>by subst e;exact(m6.1 hn).1 (mc h1)
   rw[ew aE];exact Kb (m6.1 hn).2 h1 h2
theorem Kc {is js:List Nat}(h2:js.Nodup){i j:Nat}(h:cE is js i=some j):cE js is j=some i:=by
 obtain⟨k,g1,g2⟩:=aaZ h;exact Kb h2 g2 g1
theorem aoB (obs:List (Nat×Ob))(f:Nat→D):∀{is js:List Nat} {i j:Nat},is=obs.map (·.1)→cE is js i=some j→nE obs (js.map f) i=f j:=by
 induction obs with
 |nil=>intro is js i j h1 h2;subst h1;cases h2
 |cons x l ih=>
  intro is js i j h1 h2;subst h1;cases js with
  |nil=>cases h2
  |cons y js=>
   simp only[gU,cE] at h2;simp only[gU,nE];cases hb:Nat.beq x.1 i<;>simp only[hb,cond_true,cond_false] at h2 ⊢
   ·exact ih rfl h2
   ·cases h2;rfl
theorem aaV:∀{obs:List (Nat×Ob)} {js:List Nat} {os:List D} {i j:Nat},os.length=obs.length→cE (obs.map (·.1)) js i=some j→∃k:Nat,js[k]?=some j∧nE obs os i=os.getD k .none
 |[],_,_,i,j,_,h=>by cases h
 |_::_,[],_,i,j,_,h=>by cases h
 |_::_,_::_,[],i,j,hl,h=>by simp at hl
 |x::obs,y::js,o::os,i,j,hl,h=>by
  simp only[gU,cE] at h;simp only[nE];cases hb:Nat.beq x.1 i<;>simp only[hb,cond_true,cond_false] at h ⊢
  ·obtain⟨k,h1,h2⟩:=aaV (obs:=obs) (js:=js) (os:=os) (by simpa using hl) h;exact⟨k+1,h1,by simpa using h2⟩
  ·cases h;exact⟨0,rfl,rfl⟩
theorem aa2:∀{obs:List (Nat×Ob)} {js:List Nat} {i:Nat},js.length=obs.length→cE (obs.map (·.1)) js i=none→eg obs i=.dead
 |[],_,i,_,_=>rfl
 |x::obs,[],i,hl,h=>by simp at hl
 |x::obs,y::js,i,hl,h=>by
  simp only[gU,cE] at h;simp only[eg];cases hb:Nat.beq x.1 i<;>simp only[hb,cond_true,cond_false] at h ⊢
  ·exact aa2 (by simpa using hl) h
  ·cases h
theorem Yv {S:St}{is js:List Nat}:∀{obs:List (Nat×Ob)} {jl:List Nat},rq S is js obs jl=true→jl.length=obs.length
 |[],[],_=>rfl
 |[],_::_,h=>by simp[rq] at h
 |_::_,[],h=>by simp[rq] at h
 |o::obs,j::jl,h=>by simp only[rq,aq] at h;simp[Yv h.2]
theorem Yu {S:St}{is js:List Nat}:∀{obs:List (Nat×Ob)} {jl:List Nat},rq S is js obs jl=true→∀{i j:Nat},cE (obs.map (·.1)) jl i=some j→∃x,qJ S.ver is js (eg obs i)=some x∧Am (S.o j) x=true
 |[],_,_,i,j,h=>by cases h
 |_::_,[],_,i,j,h=>by cases h
 |o::obs,y::jl,hf,i,j,h=>by
  simp only[rq,aq] at hf;simp only[gU,cE] at h;simp only[eg];cases hb:Nat.beq o.1 i<;>simp only[hb,cond_true,cond_false] at h ⊢
  ·exact Yu hf.2 h
  ·cases h;have h1:=hf.1;split at h1
   ·rename_i x hx;exact⟨x,hx,h1⟩
   ·cases h1
theorem Yw:∀{a b:List Sh},An a b=true→a.length=b.length∧∀(i:Nat) (y:Sh),b[i]?=some y→∃x,a[i]?=some x∧DC x y=true
 |[],[],_=>⟨rfl,fun i y h=>by simp at h⟩
 |[],_::_,h=>by simp[An] at h
 |_::_,[],h=>by simp[An] at h
 |a::aa,b::bs,h=>by
  simp only[An,aq] at h;obtain⟨g1,g2⟩:=Yw h.2;refine⟨by simp[g1],fun i y hy=>?_⟩;cases i with
  |zero=>simp at hy;subst hy;exact⟨a,rfl,h.1⟩
  |succ i=>simp at hy;simpa using g2 i y hy
theorem To {ver:Nat→Nat}{is js:List Nat}:∀{a b:List Sh},Gs ver is js a=some b→b.length=a.length∧∀(i:Nat) (x:Sh),a[i]?=some x→∃y,b[i]?=some y∧kH ver is js x=some y
 |[],b,h=>by simp only[Gs,aT] at h;subst h;exact⟨rfl,fun i x h=>by simp at h⟩
 |s::l,b,h=>by
  simp only[Gs,av,aC] at h;obtain⟨y,hy,r,hr,rfl⟩:=h;obtain⟨g1,g2⟩:=To hr;refine⟨by simp[g1],fun i x hx=>?_⟩;cases i with
  |zero=>simp at hx;subst hx;exact⟨y,rfl,hy⟩
  |succ i=>simp at hx;simpa using g2 i x hx
theorem LK {ver:Nat→Nat}{is js:List Nat}:∀{a b:List (Nat×Nat)},Gr ver is js a=some b→b.length=a.length∧∀(i x v:Nat),a[i]?=some (x,v)→∃j,b[i]?=some (j,ver j)∧cE is js x=some j∧v=0
 |[],b,h=>by simp only[Gr,aT] at h;subst h;exact⟨rfl,fun i x v h=>by simp at h⟩
 |s::l,b,h=>by
  simp only[Gr] at h;cases hb:Nat.beq s.2 0<;>simp only[hb,cond_true,cond_false] at h
  ·cases h
  simp only[av,aC] at h;obtain⟨y,hy,r,hr,rfl⟩:=h;obtain⟨g1,g2⟩:=LK hr;refine⟨by simp[g1],fun i x v hx=>?_⟩;cases i with
  |zero=>simp at hx;subst hx;exact⟨y,rfl,hy,aB hb⟩
  |succ i=>simp at hx;simpa using g2 i x v hx
theorem Tn {ver:Nat→Nat}{is js:List Nat}{s x:Sh}(h:kH ver is js s=some x):(∀gs s',s≠.opt gs s')∧∀gs s',x≠.opt gs s':=by
 cases s<;>simp only[kH] at h
 case none=>cases h;exact⟨(fun _ _ e=>by cases e),(fun _ _ e=>by cases e)⟩
 case dat=>cases h;exact⟨(fun _ _ e=>by cases e),(fun _ _ e=>by cases e)⟩
 case obj i v=>
  cases hb:Nat.beq v 0<;>simp only[hb,cond_true,cond_false] at h
  ·cases h
  simp only[aC] at h;obtain⟨j,_,rfl⟩:=h;exact⟨(fun _ _ e=>by cases e),(fun _ _ e=>by cases e)⟩
 case ptr i v off=>
  cases hb:Nat.beq v 0<;>simp only[hb,cond_true,cond_false] at h
  ·cases h
  simp only[aC] at h;obtain⟨j,_,rfl⟩:=h;exact⟨(fun _ _ e=>by cases e),(fun _ _ e=>by cases e)⟩
 case fclo f caps=>
  simp only[aC] at h;obtain⟨j,_,rfl⟩:=h;exact⟨(fun _ _ e=>by cases e),(fun _ _ e=>by cases e)⟩
 all_goals cases h
section
variable {C:Ctx} {S S1:St} {ρ ρ1:Env} {σ σ1:Im} {own dh:Nat→Option Nat} {hv aS:Nat→Value} {w0:World} {σ0:Base} {A:Nat→Prop} {a:Act} {w w1:World} {Φ:aR} {dst:Nat}
 {is js:List Nat} {shs:List Sh} {obs:List (Nat×Ob)} {ρf:Env}
theorem aeX (hσ:Im.leR C.cap σ σ1){eK:Nat→Value}(fO:∀i j,cE is js i=some j→eK i=hv j){s x:Sh}(hr:kH S.ver is js s=some x){v:Value}{d:D}(h:aG C S ρ σ hv x v d):aG C (fT shs obs) ρf σ1 eK s v d:=by
 cases s<;>simp only[kH] at hr
 case none=>trivial
 case dat=>cases hr;exact hσ.rep h
 case obj i ver=>
  cases hb:Nat.beq ver 0<;>simp only[hb,cond_true,cond_false] at hr
  ·cases hr
  simp only[aC] at hr;obtain⟨j,hj,rfl⟩:=hr;exact⟨by rw[aB hb];exact pC _,fun _=>by rw[fO i j hj];exact h.2 rfl⟩
 case ptr i ver off=>
  cases hb:Nat.beq ver 0<;>simp only[hb,cond_true,cond_false] at hr
  ·cases hr
  simp only[aC] at hr;obtain⟨j,hj,rfl⟩:=hr;exact⟨by rw[aB hb];exact pC _,fun _=>by rw[fO i j hj];exact h.2 rfl⟩
 case fclo f caps=>
  simp only[aC] at hr;obtain⟨c,hc,rfl⟩:=hr;obtain⟨g1,g2⟩:=LK hc;obtain⟨vs,h1,h2,h3⟩:=h;refine⟨vs,h1,by omega,fun i x ver hi=>?_⟩;obtain⟨j,e1,e2,e3⟩:=g2 i x ver hi;exact⟨by rw[e3];exact pC _,fun _=>by rw[fO x j e2];exact(h3 i j _ e1).2 rfl⟩
 all_goals cases hr
theorem asY (hσ:σ.le σ1){eK:Nat→Value}(fO:∀i j,cE is js i=some j→eK i=aS j){s x:Sh}(hr:kH S1.ver is js s=some x){v:Value}{d:D}(h:aG C (fT shs obs) ρf σ eK s v d):aG C S1 ρ1 σ1 aS x v d:=by
 cases s<;>simp only[kH] at hr
 case none=>cases hr;trivial
 case dat=>cases hr;exact Rep.mono hσ h
 case obj i ver=>
  cases hb:Nat.beq ver 0<;>simp only[hb,cond_true,cond_false] at hr
  ·cases hr
  simp only[aC] at hr;obtain⟨j,hj,rfl⟩:=hr;exact⟨bl _,fun _=>by rw[←fO i j hj];exact h.2 (aB hb)⟩
 case ptr i ver off=>
  cases hb:Nat.beq ver 0<;>simp only[hb,cond_true,cond_false] at hr
  ·cases hr
  simp only[aC] at hr;obtain⟨j,hj,rfl⟩:=hr;exact⟨bl _,fun _=>by rw[←fO i j hj];exact h.2 (aB hb)⟩
 case fclo f caps=>
  simp only[aC] at hr;obtain⟨c,hc,rfl⟩:=hr;obtain⟨g1,g2⟩:=LK hc;obtain⟨vs,h1,h2,h3⟩:=h;refine⟨vs,h1,by omega,fun i j ver hi=>?_⟩;have af:i<caps.length:=by have:=(eD.1 hi).1;omega
  obtain⟨j',e1,e2,e3⟩:=g2 i _ _ (bF af);rw[hi] at e1;cases e1;exact⟨bl _,fun _=>by rw[←fO _ j e2];exact(h3 i _ _ (bF af)).2 e3⟩
 all_goals cases hr
theorem ajB {c x:Sh}(hf:DC c x=true){v:Value}{d:D}(h:aG C S ρ σ hv c v d):aG C S ρ σ hv x v d:=by
 cases x with
 |none=>trivial
 |dat b=>
  simp only[DC] at hf;split at hf
  ·exact Rep.sub h hf
  ·cases hf
 |_=>simp only[DC] at hf;rw[Sh.beq_eq _ _ hf] at h;exact h
theorem aqN (hσ:Im.leR C.cap σ σ1){eK:Nat→Value}{E4:Nat→Option Nat}(fO:∀i j,cE is js i=some j→eK i=hv j)(cd:∀k j i,own k=some j→cE js is j=some i→E4 k=some i)(bq:js.Nodup){i j N:Nat}(db:cE is js i=some j)(hρ:ρf.o i=ρ.o j){ob x:Ob}
 (hr:qJ S.ver is js ob=some x) (hf:Am (S.o j) x=true) (h:cg C S ρ σ own hv w N j (S.o j)):cg C (fT shs obs) ρf σ1 E4 eK w N i ob:=by
 have hH:=Kc bq db;cases ob<;>simp only[qJ] at hr
 case row T e=>
  cases hr;cases ho:S.o j<;>rw[ho] at hf h<;>simp only[Am,aq] at hf<;>try (cases hf;done)
  obtain⟨cells,xs,h1,h2,h3,h4⟩:=h;rw[aB hf.1,Ty.beq_eq _ _ hf.2] at*;exact⟨cells,xs,by rw[hρ];exact h1,by rw[fO i j db];exact h2,h3.monoR hσ,fun k hk=>cd k j i (h4 k (by rw[←fO i j db];exact hk)) hH⟩
 case mp kt et=>
  cases hr;cases ho:S.o j<;>rw[ho] at hf h<;>simp only[Am,aq] at hf<;>try (cases hf;done)
  obtain⟨k,arr,clock,es,h1,h2,h3,h4,h5,h6,h7⟩:=h;rw[Ty.beq_eq _ _ hf.1,Ty.beq_eq _ _ hf.2] at*;exact⟨k,arr,clock,es,by rw[fO i j db];exact h1,cd k j i h2 hH,h3,by rw[hρ];exact h4,h5,h6,fun n e p he hp=>⟨hσ.rep (h7 n e p he hp).1,hσ.rep (h7 n e p he hp).2⟩⟩
 case box ag cs=>
  simp only[aC] at hr;obtain⟨cs',dM,rfl⟩:=hr;cases ho:S.o j<;>rw[ho] at hf h<;>simp only[Am,aq] at hf<;>try (cases hf;done)
  obtain⟨k,vs,T,ds,h1,h2,h3,h4,h5,h6,h7⟩:=h;obtain⟨l1,g1⟩:=Yw hf.2;obtain⟨l2,g2⟩:=To dM;refine⟨k,vs,T,ds,by rw[fO i j db];exact h1,cd k j i h2 hH,h3,by omega,by rw[hρ];exact h5,by omega,fun n s hs=>?_⟩;obtain⟨y,hy,EC⟩:=g2 n s hs;obtain⟨z,hz,D9⟩:=g1 n y hy;exact⟨(Tn EC).1,aeX hσ fO EC (ajB D9 (h7 n z hz).2)⟩
 all_goals cases hr
theorem aqO (hσ:σ.le σ1){eK:Nat→Value}{E4:Nat→Option Nat}(fO:∀i j,cE is js i=some j→eK i=aS j)(cd:∀k i j,E4 k=some i→cE is js i=some j→dh k=some j){i j N:Nat}(db:cE is js i=some j)(hρ:ρ1.o j=ρf.o i){ob x:Ob}
 (hr:qJ S1.ver is js ob=some x) (h:cg C (fT shs obs) ρf σ E4 eK w N i ob):cg C S1 ρ1 σ1 dh aS w N j x:=by
 cases ob<;>simp only[qJ] at hr
 case row T e=>
  cases hr;obtain⟨cells,xs,h1,h2,h3,h4⟩:=h;exact⟨cells,xs,by rw[hρ];exact h1,by rw[←fO i j db];exact h2,h3.mono hσ,fun k hk=>cd k i j (h4 k (by rw[fO i j db];exact hk)) db⟩
 case mp kt et=>
  cases hr;obtain⟨k,arr,clock,es,h1,h2,h3,h4,h5,h6,h7⟩:=h;exact⟨k,arr,clock,es,by rw[←fO i j db];exact h1,cd k i j h2 db,h3,by rw[hρ];exact h4,h5,h6,fun n e p he hp=>⟨(h7 n e p he hp).1.mono hσ,(h7 n e p he hp).2.mono hσ⟩⟩
 case box ag cs=>
  simp only[aC] at hr;obtain⟨cs',dM,rfl⟩:=hr;obtain⟨k,vs,T,ds,h1,h2,h3,h4,h5,h6,h7⟩:=h;obtain⟨l2,g2⟩:=To dM;refine⟨k,vs,T,ds,by rw[←fO i j db];exact h1,cd k i j h2 db,h3,by omega,by rw[hρ];exact h5,by omega,fun n s hs=>?_⟩;have af:n<cs.length:=by have:=(eD.1 hs).1;omega
  obtain⟨y,hy,EC⟩:=g2 n _ (bF af);rw[hs] at hy;cases hy;exact⟨(Tn EC).2,asY hσ fO EC (h7 n _ (bF af)).2⟩
 all_goals cases hr
theorem asX {ver:Nat→Nat}{ob x:Ob}(hr:qJ ver is js ob=some x):x≠.tr:=by
 cases ob<;>simp only[qJ] at hr
 case row=>cases hr;intro e;cases e
 case mp=>cases hr;intro e;cases e
 case box=>
  simp only[aC] at hr;obtain⟨_,_,rfl⟩:=hr;intro e;cases e
 all_goals cases hr
theorem CtxOK.noM (h:CtxOK C σ):CtxOK C σ.noM:=⟨fun g x hx=>(h.glob g x hx).noM⟩
def Cm (C:Ctx)(S:St)(ρ:Env)(σ:Im)(hv:Nat→Value)(x:nW)(v:Value)(d:D):Prop:=aG C S ρ σ hv x.1 v d∧∀y,x.2=some y→Rep C.cap σ y.1 v (y.2.ev ρ)
theorem Ys:∀{acts:List nW} {shs:List Sh} {es:List PE},uL S is js acts shs=some es→acts.length=shs.length∧es.length=shs.length∧∀(t:Nat) (s:Sh),shs[t]?=some s→∃x e,acts[t]?=some x∧es[t]?=some e∧DA S is js x s=some e
 |[],[],es,h=>by simp only[uL,aT] at h;subst h;exact⟨rfl,rfl,fun t s h=>by simp at h⟩
 |[],_::_,es,h=>by simp[uL] at h
 |_::_,[],es,h=>by simp[uL] at h
 |x::acts,s::shs,es,h=>by
  simp only[uL,av,aC] at h;obtain⟨e,he,r,hr,rfl⟩:=h;obtain⟨g1,g2,g3⟩:=Ys hr;refine⟨by simp[g1],by simp[g2],fun t s' hs=>?_⟩;cases t with
  |zero=>simp at hs;subst hs;exact⟨x,e,rfl,rfl,he⟩
  |succ t=>simp at hs;simpa using g3 t s' hs
theorem ajz (hσ:Im.leR C.cap σ σ1){eK:Nat→Value}(fO:∀i j,cE is js i=some j→eK i=hv j){x:nW}{s:Sh}{e:PE}(hf:DA S is js x s=some e){v:Value}{d:D}(h:Cm C S ρ σ hv x v d):aG C (fT shs obs) ρf σ1 eK s v (e.ev ρ):=by
 have gen:∀s,(match kH S.ver is js s with|some y=>bif Sh.beq x.1 y then some (PE.con .none) else none|none=>none)=some e→nB s=false→aG C (fT shs obs) ρf σ1 eK s v (e.ev ρ):=by
  intro s hm hd;split at hm
  ·rename_i y hy;cases hb:Sh.beq x.1 y<;>simp only[hb,cond_true,cond_false] at hm
   ·cases hm
   have h1:=h.1;rw[Sh.beq_eq _ _ hb] at h1;have:=aeX (shs:=shs) (obs:=obs) (ρf:=ρf) hσ fO hy h1;cases s with
   |dat t=>cases hd
   |opt gs s'=>exact absurd rfl ((Tn hy).1 gs s')
   |eptr j ver size off=>simp[kH] at hy
   |agg l=>simp[kH] at hy
   |_=>exact this
  ·cases hm
 unfold DA at hf;split at hf
 ·rename_i t;split at hf
  ·rename_i y hy;cases hb:Ty.sub y.1 t<;>simp only[hb,cond_true,cond_false] at hf
   ·cases hf
   cases hf;exact hσ.rep ((h.2 y hy).sub hb)
  ·cases hf
 ·trivial
 ·rename_i lK mw;refine gen _ hf ?_;cases s<;>first|rfl|exact absurd rfl (lK _)
theorem aif {eK P2:Nat→Value}{σ σ':Im}{ρf ρf':Env}{args:Nat→Value}{ds ds':Nat→D}(h1:∀(t:Nat) (s:Sh),shs[t]?=some s→aG C (fT shs obs) ρf σ eK s (args t) (ds t))(h2:∀(t:Nat) (s:Sh),shs[t]?=some s→nB s=false→aG C (fT shs obs) ρf' σ' P2 s (args t) (ds' t))
 (hz:∀s,s∈shs→∃x,kH S.ver is js s=some x) {i:Nat} (hi:i∈pY shs):P2 i=eK i:=by
 have key:∀(l:List Sh),(∀s,s∈l→∃t:Nat,shs[t]?=some s)→i∈pY l→P2 i=eK i:=by
  intro l
  induction l with
  |nil=>intro _ h;cases h
  |cons s l ih=>
   intro hl hi;obtain⟨t,ht⟩:=hl s (du ..);have AK:∀s,s∈l→∃t:Nat,shs[t]?=some s:=fun s hs=>hl s (di _ hs);obtain⟨x,hx⟩:=hz s (mc ht);have a1:=h1 t s ht;have a2:=h2 t s ht;cases s<;>simp only[pY] at hi
   case obj j ver=>
        simp only[kH] at hx;cases hb:Nat.beq ver 0<;>simp only[hb,cond_true,cond_false] at hx
        ·cases hx
        rcases cC.1 hi with e|e
        ·subst e;rw[←(a1.2 (aB hb)),←((a2 rfl).2 (aB hb))]
        ·exact ih AK e
   case ptr j ver off=>
        simp only[kH] at hx;cases hb:Nat.beq ver 0<;>simp only[hb,cond_true,cond_false] at hx
        ·cases hx
        rcases cC.1 hi with e|e
        ·subst e;obtain⟨k1,e1,e2⟩:=a1.2 (aB hb);obtain⟨k2,e3,e4⟩:=(a2 rfl).2 (aB hb);rw[e2] at e4;cases e4;rw[e1,e3]
        ·exact ih AK e
   case fclo f caps=>
        simp only[kH,aC] at hx;obtain⟨c,hc,_⟩:=hx;obtain⟨_,g2⟩:=LK hc;rcases dt.1 hi with e|e
        ·obtain⟨y,hy,e1⟩:=dJ.1 e;subst e1;obtain⟨m,hm⟩:=yO hy;obtain⟨vs,b1,b2,b3⟩:=a1;obtain⟨Cj,c1,c2,c3⟩:=a2 rfl;rw[b1] at c1;have ij:vs=Cj:=by simpa using c1
         subst ij;obtain⟨_,_,_,AZ⟩:=g2 m y.1 y.2 hm;rw[←(b3 m y.1 y.2 hm).2 AZ,←(c3 m y.1 y.2 hm).2 AZ]
        ·exact ih AK e
   all_goals exact ih AK hi
 exact key shs (fun s hs=>yO hs) hi
end
section
variable {C:Ctx} {S:St} {ρ:Env} {σ:Im} {own:Nat→Option Nat} {hv:Nat→Value} {w0:World} {σ0:Base} {A:Nat→Prop} {a:Act} {w:World} {Φ:aR} {dst:Nat}
 {is js:List Nat} {shs:List Sh} {obs:List (Nat×Ob)}
theorem Below.weak {B:Nat}{w w':World}(h:Below 0 w w')(hk:∀k,k<B→w'.heap[k]?=w.heap[k]?):Below B w w':=⟨h.os,h.tape,h.output,h.size,hk⟩
def oO (js is:List Nat)(own:Nat→Option Nat):Nat→Option Nat:=fun k=>(own k).bind (cE js is)
def E3 (js is:List Nat)(own own':Nat→Option Nat):Nat→Option Nat:=fun k=>
 match own' k with
 |some i=>cE is js i
 |none=>match own k with|some j=>(match cE js is j with|some _=>none|none=>some j)|none=>none
theorem handed (h:Inv C S ρ σ own hv w0 σ0 A a w)(hC:CtxOK C σ0)(ana:xO shs obs=true)(Ed:is=obs.map (·.1))(ZR:is.Nodup)(JJ:js.Nodup)(Ju:rq S is js obs js=true){acts:List nW}{es:List PE}(jo:uL S is js acts shs=some es)
 (Jr:S.o iw=.dead) (JV:iw∉js) {vals:List Value} (hvl:vals.length=acts.length) (alq:∀(t:Nat) (x:nW),acts[t]?=some x→∃d,Cm C S ρ σ hv x (vals.getD t undef) d) {f:Nat} {res:Ty} {d:D}
 (hfn:uv C f shs obs res (es.map (PE.ev ρ)++js.map ρ.o) d):
 Calls C.P f vals.toArray w fun e w'=>∃v dr os,e=.returned v∧d=.tup (dr::os)∧os.length=js.length∧
  ∀ρ':Env,ρ'.r=ρ.r→(∀(k j:Nat),js[k]?=some j→ρ'.o j=os.getD k .none)→(∀j,j∉js→j≠iw→ρ'.o j=ρ.o j)→
   ∃σ1 dh aS,Inv C (S.handed shs obs is js) ρ' σ1 dh aS w0 σ0 A a w'∧Rep C.cap σ1 res v dr:=by
 obtain⟨al1,al2,iO⟩:=Ys jo;have eR:=Yv Ju;have vd:w0.heap.size≤w.heap.size:=h.below.size;obtain⟨tr,fx,cx,hf,qo⟩:=h.frame
 let eK:Nat→Value:=fun i=>match cE is js i with|some j=>hv j|none=>undef
 have fO:∀i j,cE is js i=some j→eK i=hv j:=fun i j e=>by simp only[eK,e]
 have ZI:Im.leR C.cap σ σ.noM:=⟨Rep.noM,fun _ _ _ e=>e⟩
 have En:∀k x,σ.noM.m k=some x→σ.m k=some x∧x≠cW:=by
  intro k x e;by_cases hd:σ.m k=some cW
  ·simp[Im.noM,hd] at e
  ·simp only[Im.noM,if_neg hd] at e;exact⟨e,fun e2=>hd (by rw[e,e2])⟩
 have wW:(es.map (PE.ev ρ)++js.map ρ.o).drop shs.length=js.map ρ.o:=by rw[List.drop_append];simp[al2]
 have amh:∀t e,es[t]?=some e→(es.map (PE.ev ρ)++js.map ρ.o).getD t .none=e.ev ρ:=fun t e he=>by
  have af:=(eD.1 he).1;rw[aJ,kN (by simpa using af),cB,he];rfl
 have anl:∀s,s∈shs→∃x,kH S.ver is js s=some x:=by
  intro s hs;obtain⟨t,ht⟩:=yO hs;obtain⟨x,e,_,_,he⟩:=iO t s ht;unfold DA at he;split at he
  ·exact⟨_,rfl⟩
  ·exact⟨_,rfl⟩
  ·split at he
   ·rename_i y hy;exact⟨y,hy⟩
   ·cases he
 have ZB:∀t,aG C (fT shs obs) (mL obs (es.map (PE.ev ρ)++js.map ρ.o) ((es.map (PE.ev ρ)++js.map ρ.o).drop shs.length)) σ.noM eK (shs.getD t .none) (vals.toArray.getD t undef) ((es.map (PE.ev ρ)++js.map ρ.o).getD t .none):=by
  intro t;cases hs:shs[t]? with
  |none=>rw[aJ,hs];trivial
  |some s=>
   obtain⟨x,e,hx,he,nk⟩:=iO t s hs;obtain⟨d',alr⟩:=alq t x hx;rw[aJ (l:=shs),hs,amh t e he];have e1:vals.toArray.getD t undef=vals.getD t undef:=by simp[dT,aJ]
   rw[e1];exact ajz ZI fO nk alr
 have amu:∀i,cg C (fT shs obs) (mL obs (es.map (PE.ev ρ)++js.map ρ.o) ((es.map (PE.ev ρ)++js.map ρ.o).drop shs.length)) σ.noM (oO js is own) eK w w0.heap.size i (eg obs i):=by
  intro i;cases db:cE is js i with
  |none=>subst Ed;rw[aa2 eR db];trivial
  |some j=>
   subst Ed;obtain⟨x,hx,Jv⟩:=Yu Ju db;refine aqN ZI fO (fun k j' i' hk hl=>by simp only[oO,hk,kl,hl]) JJ db ?_ hx Jv (h.objs j);show nE obs _ i=_;rw[wW];exact aoB obs ρ.o rfl db
 have qg:=hfn w0.heap.size σ.noM (oO js is own) eK w vals.toArray (fun k=>(∃j,own k=some j∧cE js is j=none)∨σ.m k=some cW∨(cx k)) ana ⟨h.ok.c,fun k x e=>h.ok.m k x (En k x e).1⟩ ((hC.mono h.le).noM)
  (fun k e=>(En k _ e).2 rfl) vd (by simp;omega) (fun k i hk=>by
    simp only[oO,av] at hk;obtain⟨j,hj,_⟩:=hk;obtain⟨g1,g2,g3,g4⟩:=h.owns k j hj;exact⟨g1,g2,g3,by by_cases e:σ.m k=some cW<;>simp[Im.noM,e,g4]⟩) (fun k hk=>by
    rcases hk with⟨j,hj,hn⟩|hk|hk
    ·obtain⟨g1,g2,g3,g4⟩:=h.owns k j hj;exact⟨g2,by simp[oO,hj,hn],g3,by by_cases e:σ.m k=some cW<;>simp[Im.noM,e,g4]⟩
    ·have El:=h.ok.m k _ hk;have hn:own k=none:=by
      cases e:own k with
      |none=>rfl
      |some j=>rw[(h.owns k j e).2.2.2] at hk;cases hk
     refine⟨El.lt,by simp[oO,hn],fun o=>?_,by simp[Im.noM,hk]⟩;cases e:σ.c k o with
     |none=>exact e
     |some x=>
      have c1:=h.ok.c k o x e;rcases El with⟨m1,_⟩|⟨_,m2⟩
      ·exact absurd rfl m1
      ·simp[World.cell?,m2] at c1
    ·have kW:=σ0.sub _ _ _ _ hf.F k hk;have hn:own k=none:=by
      cases e:own k with
      |none=>rfl
      |some j=>exact absurd kW (hf.own k j e)
     refine⟨σ0.lt _ _ _ _ hf.F k kW,by simp[oO,hn],fun o=>?_,?_⟩
     ·cases e:σ.c k o with
      |none=>exact e
      |some x=>exact absurd hk (hf.c k o x e)
     ·cases e:σ.m k with
      |none=>simp[Im.noM,e]
      |some x=>exact absurd hk (hf.m k x e)) ZB amu
 refine qg.mono fun e w' hh=>?_;obtain⟨v,σ',own',hv',dr,os,rfl,hd,Ps,hle,aD,hb,ib,cX,cM,JI,ZY,w8,Pq,fN⟩:=hh;refine⟨v,dr,os,rfl,hd,by omega,fun ρ' iS mz xl=>?_⟩;have JN:∀k,k<w.heap.size→own k=none→w'.heap[k]?=w.heap[k]?:=fun k hk hn=>ib k hk (by simp[oO,hn]);have am4:∀k j,own k=some j→cE js is j=none→w'.heap[k]?=w.heap[k]?:=fun k j hk hn=>ib k (h.owns k j hk).2.1 (by simp[oO,hk,hn])
 have alT:∀k o x,σ.c k o=some x→own k=none:=fun k o x e=>by
  cases e1:own k with
  |none=>rfl
  |some j=>rw[(h.owns k j e1).2.2.1 o] at e;cases e
 have ZP:∀k x,σ.m k=some x→own k=none:=fun k x e=>by
  cases e1:own k with
  |none=>rfl
  |some j=>rw[(h.owns k j e1).2.2.2] at e;cases e
 have JP:σ.ok w':=⟨fun k o x e=>by rw[World.cell?_of_block (JN k (h.lt e) (alT k o x e))];exact h.ok.c k o x e,fun k x e=>(h.ok.m k x e).keep (JN k (h.ltm e) (ZP k x e))⟩
 have lI:σ.le (σ'.plus σ):=Im.plus_le2 aD JP;have jT:σ'.le (σ'.plus σ):=Im.plus_le1 σ' σ;have dM:∀k o x,(σ'.plus σ).c k o=some x→σ'.c k o=some x:=fun k o x e=>(Im.plus_c e).elim id (fun e=>hle.c k o x e)
 have AM:∀k x,(σ'.plus σ).m k=some x→σ'.m k=some x∨(σ.m k=some x∧x=cW):=fun k x e=>(Im.plus_m e).elim .inl (fun e=>by
  by_cases hd:x=cW
  ·exact .inr ⟨e,hd⟩
  ·refine .inl (hle.m k x ?_);have:σ.m k≠some cW:=fun e2=>hd (by rw[e] at e2;cases e2;rfl);simp only[Im.noM,if_neg this,e])
 let aS:Nat→Value:=fun j=>match cE js is j with|some i=>hv' i|none=>hv j
 have an0:∀i j,cE is js i=some j→hv' i=aS j:=fun i j e=>by simp only[aS,Kc JJ e]
 have al0:∀i,i∈pY shs→hv' i=eK i:=fun i hi=>aif (S:=S) (is:=is) (js:=js) (args:=fun t=>vals.toArray.getD t undef) (ds:=fun t=>(es.map (PE.ev ρ)++js.map ρ.o).getD t .none) (ds':=fun t=>(es.map (PE.ev ρ)++js.map ρ.o).getD t .none) (fun t s hs=>by
  have:=ZB t;rw[aJ (l:=shs),hs] at this;exact this) (fun t s hs hd=>w8 t s hs hd) anl hi
 have rv:Compat S hv (S.handed shs obs is js) aS:=by
  refine⟨fun j=>?_,fun j e=>?_⟩
  ·show S.ver j≤vW S.ver shs is js j;unfold vW;split
   ·cases ay (pY shs) _<;>simp
   ·exact bl _
  ·change vW S.ver shs is js j=S.ver j at e;show aS j=hv j;simp only[aS];unfold vW at e;split at e
   ·rename_i i hi;cases hb:ay (pY shs) i<;>rw[hb] at e
    ·simp at e
    ·try simp only[hi]
     rw[al0 i (aao.1 hb),fO i j (Kc ZR hi)]
   ·rename_i hi;try simp only[hi]
 have np:∀k j,E3 js is own own' k=some j→(k<w.heap.size→own k≠none)∧w0.heap.size≤k∧k<w'.heap.size∧(∀o,σ'.c k o=none)∧σ'.m k=none∧σ.m k≠some cW:=by
  intro k j hk;simp only[E3] at hk;split at hk
  ·rename_i i hi;obtain⟨g1,g2,g3,g4,g5⟩:=ZY k i hi;have g6:k<w.heap.size→own k≠none:=fun af e=>g5 af (by simp[oO,e]);refine⟨g6,g1,g2,g3,g4,fun e=>?_⟩;exact g6 (h.ltm e) (ZP k _ e)
  ·split at hk
   ·rename_i j' cm;split at hk
    ·cases hk
    ·rename_i hn;obtain⟨g1,g2,g3,g4⟩:=h.owns k j' cm;have kU:(∃j,own k=some j∧cE js is j=none)∨σ.m k=some cW∨(cx k):=.inl ⟨j',cm,hn⟩;refine⟨fun _ e=>(by rw[cm] at e;cases e),g1,wj g2 hb.size,fun o=>?_,?_,fun e=>?_⟩
     ·cases e:σ'.c k o with
      |none=>rfl
      |some x=>exact absurd kU (cX k o x e).2
     ·cases e:σ'.m k with
      |none=>rfl
      |some x=>exact absurd kU (cM k x e).2
     ·rw[g4] at e;cases e
   ·cases hk
 refine⟨σ'.plus σ,E3 js is own own',aS,⟨h.defers.mono lI,Im.plus_ok aD JP,h.le.trans lI,h.old,fun k o x e=>?_,fun k x e=>?_,h.below.trans (Below.weak hb fun k hk=>?_),h.bw,fun k j hk=>?_,fun t=>?_,fun j=>?_,h.opts,?_⟩,fN.mono jT⟩
 ·rcases(cX k o x (dM k o x e)).1 with e1|e1
  ·exact h.newc k o x e1
  ·exact .inr e1
 ·rcases AM k x e with e1|e1
  ·rcases(cM k x e1).1 with e2|e2
   ·exact h.newm k x (En k x e2).1
   ·exact .inr e2
  ·exact h.newm k x e1.1
 ·have ct:k<w0.heap.size:=wj hk h.bw;refine JN k (by omega) ?_;cases e:own k with
  |none=>rfl
  |some j=>have:=(h.owns k j e).1;omega
 ·obtain⟨_,g1,g2,g3,g4,g5⟩:=np k j hk;refine⟨g1,g2,fun o=>?_,?_⟩
  ·cases e:(σ'.plus σ).c k o with
   |none=>rfl
   |some x=>have:=dM k o x e;rw[g3 o] at this;cases this
  ·cases e:(σ'.plus σ).m k with
   |none=>rfl
   |some x=>
    rcases AM k x e with e1|e1
    ·rw[g4] at e1;cases e1
    ·exact absurd (by rw[e1.1,e1.2]) g5
 ·show aG C _ ρ' _ aS (S.r t) _ (ρ'.r t);rw[iS]
  exact aG.mono lI rv (fun gs s e=>by
   unfold holds;rw[iS]) (fun gs s e=>(h.opts t gs s e).2) (h.regs t)
 ·show cg C _ ρ' _ _ aS w' _ j (match cE js is j with|some i=>(match qJ (vW S.ver shs is js) is js (eg obs i) with|some o=>o|none=>.dead)|none=>S.o j);split
  ·rename_i i hi;have db:=Kc ZR hi;split
   ·rename_i x hx;refine aqO (S1:=S.handed shs obs is js) jT an0 (fun k i' j' hk hl=>by simp only[E3,hk,hl]) db ?_ hx (Pq i);subst Ed;obtain⟨k,bx,ct⟩:=aaV (os:=os) Ps db;show ρ'.o j=nE obs os i;rw[ct];exact mz k j bx
   ·trivial
  ·rename_i hn
   have Pj:j∉js:=fun hm=>by
        obtain⟨k,hk⟩:=yO hm;have af:k<is.length:=by
         have:=(eD.1 hk).1;rw[Ed,fG];omega
        have:=Kb JJ hk (bF af);rw[hn] at this;cases this
   by_cases JB:j=iw
   ·subst JB;rw[Jr];trivial
   ·refine(h.objs j).mono lI rv (by show aS j=hv j;simp only[aS,hn]) (xl j Pj JB) (fun k hk=>⟨?_,am4 k j hk hn⟩);have:own' k=none:=by
     cases e:own' k with
     |none=>rfl
     |some i=>exact absurd (by simp[oO,hk,hn]) ((ZY k i e).2.2.2.2 (h.owns k j hk).2.1)
    simp only[E3,this,hk,hn]
 ·refine⟨tr,fx,cx,⟨σ0.keep _ _ _ _ _ hf.F hb fun k hk=>?_,fun k j hk kW=>?_,fun k o x e hc=>?_,fun k x e hc=>?_,fun k e hB hk=>?_⟩,fun j hj=>?_⟩
  ·refine JN k (σ0.lt _ _ _ _ hf.F k hk) ?_;cases e:own k with
   |none=>rfl
   |some j=>exact absurd hk (hf.own k j e)
  ·have af:=σ0.lt _ _ _ _ hf.F k kW;have:=(np k j hk).1 af;cases e:own k with
   |none=>exact this e
   |some j'=>exact hf.own k j' e kW
  ·exact(cX k o x (dM k o x e)).2 (.inr (.inr hc))
  ·rcases AM k x e with e1|e1
   ·exact(cM k x e1).2 (.inr (.inr hc))
   ·exact hf.m k x e1.1 hc
  ·rcases AM k _ e with e1|e1
   ·have af:=σ0.lt _ _ _ _ hf.F k hk;refine JI k e1 hB af ?_;have:own k=none:=by
     cases e:own k with
     |none=>rfl
     |some j=>exact absurd hk (hf.own k j e)
    simp[oO,this]
   ·exact hf.d k e1.1 hB hk
  ·change (match cE js is j with|some i=>(match qJ (vW S.ver shs is js) is js (eg obs i) with|some o=>o|none=>.dead)|none=>S.o j)=.tr at hj;split at hj
   ·rename_i i hi;split at hj
    ·rename_i x hx;exact absurd hj (asX hx)
    ·cases hj
   ·rename_i hn
    have Pj:j∉js:=fun hm=>by
     obtain⟨k,hk⟩:=yO hm;have af:k<is.length:=by
         have:=(eD.1 hk).1;rw[Ed,fG];omega
     have:=Kb JJ hk (bF af);rw[hn] at this;cases this
    have JB:j≠iw:=fun e=>by subst e;rw[Jr] at hj;cases hj
    rw[xl j Pj JB];exact qo j hj
theorem afi:∀(js:List Nat) (k:Nat) {ρ ρ':Env} {l:List D},PI.runs Φ (Gy js k) ρ=some ρ'→ρ.o iw=.tup l→iw∉js→js.Nodup→
 ρ'.r=ρ.r∧(∀(i j:Nat),js[i]?=some j→ρ'.o j=l.getD (k+i) .none)∧∀j,j∉js→ρ'.o j=ρ.o j
 |[],k,ρ,ρ',l,h,hs,hn,hd=>by
  simp only[Gy,PI.runs,aT] at h;subst h;exact⟨rfl,fun i j e=>by simp at e,fun _ _=>rfl⟩
 |x::js,k,ρ,ρ',l,h,hs,hn,hd=>by
  simp only[Gy,PI.runs,PI.run,kl,PE.ev,hs,D.tget] at h;simp only[cC,not_or] at hn;have ec:=m6.1 hd;obtain⟨g1,g2,g3⟩:=afi js (k+1) h (by simp only[Env.setO];rw[br _ _ hn.1];exact hs) hn.2 ec.2;refine⟨g1,fun i j e=>?_,fun j hj=>?_⟩
  ·cases i with
   |zero=>simp at e;subst e;rw[g3 _ ec.1];simp[Env.setO,aK]
   |succ i=>simp at e;rw[g2 i j e];congr 1;omega
  ·simp only[cC,not_or] at hj;rw[g3 j hj.2];simp only[Env.setO];exact br _ _ hj.1
theorem agM (h:Inv C S ρ σ own hv w0 σ0 A a w)(hC:CtxOK C σ0)(x:Operand):∃d,Cm C S ρ σ hv (Hb C S x) (a.eval x) d:=by
 cases x with
 |tmp t=>
  refine⟨ρ.r t,?_,fun y hy=>cj (gs:=[]) h hC rfl hy⟩;have:=(nS (gs:=[]) h rfl t).1;simpa [Act.eval,Hb,fC] using this
 |_=>exact⟨.none,trivial,fun y hy=>cj (gs:=[]) h hC rfl hy⟩
theorem XY (h:Inv C S ρ σ own hv w0 σ0 A a w)(hC:CtxOK C σ0)(hΦ:dc C Φ){f:Nat}{args:List Operand}{caps:List (Nat×Nat)}{vs:List Value}(ij:vs.length=caps.length)
 (gd:∀(i j ver:Nat),caps[i]?=some (j,ver)→ver≤S.ver j∧(ver=S.ver j→vs.getD i undef=hv j)) (alF:∀(i j ver:Nat),caps[i]?=some (j,ver)→ver=S.ver j→∃k,hv j=.pointer (some ⟨k,0,none⟩)) {r:St×Ty×List PI} (hr:rj C S f args caps=some r)
 {ρ1:Env} (ak:PI.runs Φ r.2.2 ρ=some ρ1):
 Calls C.P f (args.map a.eval++vs).toArray w fun e w'=>∃v σ1 dh aS,e=.returned v∧Inv C r.1 ρ1 σ1 dh aS w0 σ0 A a w'∧Rep C.cap σ1 r.2.1 v ((ρ1.o iw).tget 0):=by
 simp only[rj,av] at hr;obtain⟨s,hs,hr⟩:=hr;split at hr
 case h_2=>cases hr
 rename_i shs obs kZ;obtain⟨σ2,iV,jT,h2⟩:=Inv.fzs (Ap S args shs) h;have dP:=(oq (Ap S args shs) S).1;generalize S.fzs (Ap S args shs)=S2 at hr h2 dP;unfold N3 N2 at hr;generalize Yn S2 shs obs (args.map (Hb C S2)++caps.map XB)=js at hr;simp only[av] at hr;obtain⟨es,jo,hr⟩:=hr;cases hb:(xO shs obs&&(gA (obs.map (·.1))&&gA js&&rq S2 (obs.map (·.1)) js obs js&&oI (S2.o iw)&& !ay js iw))<;>simp only[hb,cond_true,cond_false] at hr
 ·cases hr
 cases hr;simp only[aq,iy] at hb;obtain⟨b0,⟨⟨⟨b1,b2⟩,b3⟩,b4⟩,b5⟩:=hb;have lK:=mI b1;have mw:=mI b2;have Jr:S2.o iw=.dead:=by
  cases e:S2.o iw<;>rw[e] at b4<;>first|rfl|cases b4
 have JV:iw∉js:=fun hm=>by rw[aao.2 hm] at b5;cases b5
 simp only[PI.runs,PI.run,av,aC] at ak;obtain⟨ρ2,⟨d,hd,rfl⟩,ak⟩:=ak;rw[PE.evs_eq,lz,G2] at hd;have e1:js.map (PE.ev ρ∘PE.o)=js.map ρ.o:=rfl;rw[e1] at hd;have hfn:=((hΦ f _ d hd s hs).2 shs obs kZ).plain b0
 have qg:=handed h2 hC b0 rfl lK mw b3 jo Jr JV (vals:=args.map a.eval++vs) (by simp[ij]) (fun t x hx=>by
  rw[ma] at hx;split at hx
  ·rename_i af;rw[fG] at af;rw[cB,bF af] at hx;cases hx;have:(args.map a.eval++vs).getD t undef=a.eval args[t]:=by
        rw[aJ,kN (by simpa using af),cB,bF af];rfl
   rw[this];exact agM h2 hC _
  ·rename_i fj;rw[fG] at fj hx;rw[cB,aC] at hx;obtain⟨c,hc,rfl⟩:=hx;obtain⟨j,ver⟩:=c;have cq:(args.map a.eval++vs).getD t undef=vs.getD (t-args.length) undef:=by
        rw[aJ,ly (by simpa using fj),fG,aJ]
   obtain⟨g1,g2⟩:=gd _ j ver hc;refine⟨.none,⟨by rw[dP];exact g1,fun e=>?_⟩,fun y hy=>by cases hy⟩;rw[dP] at e;obtain⟨k,hk⟩:=alF _ j ver hc e;exact⟨k,hk,by rw[cq,g2 e,hk]⟩) (hfn:=hfn)
 refine qg.mono fun e w' hh=>?_;obtain⟨v,dr,os,rfl,rfl,Ps,nm⟩:=hh;obtain⟨g1,g2,g3⟩:=afi js 1 (l:=dr::os) ak (by simp[Env.setO,aK]) JV mw
 obtain⟨σ1,dh,aS,hinv,bS⟩:=nm ρ1 g1 (fun k j hk=>by
  have:=g2 k j hk;rw[Cv] at this;simpa using this) (fun j hj aE=>by rw[g3 j hj];simp only[Env.setO];exact br _ _ aE)
 refine⟨v,σ1,dh,aS,rfl,hinv,?_⟩;rw[g3 iw JV];simpa [Env.setO,aK,D.tget] using bS
def qx (S:St)(dst:Option Nat)(r:St×Ty×List PI):St×List PI:=
 match dst with
 |some d=>(r.1.setR d (.dat r.2.1),r.2.2++[.setR d (.tget (.o iw) 0)])
 |none=>(r.1,r.2.2)
theorem atd {a b:List PI}{ρ:Env}:PI.runs Φ (a++b) ρ=(PI.runs Φ a ρ).bind (PI.runs Φ b):=by
 induction a generalizing ρ with
 |nil=>simp[PI.runs]
 |cons x a ih=>
  simp only[GY,PI.runs];cases x.run Φ ρ with
  |none=>rfl
  |some ρ1=>simp[ih]
theorem Xy {o:Oper}{f:Nat}{vals:List Value}(ht:∀d,o.dst=some d→¬A d∧d<a.tmps.size){r:St×Ty×List PI}(hx:(execOp a.eval o).run C.P w=.ok (.enter f vals.toArray) w)
 (hc:∀ρ1,PI.runs Φ r.2.2 ρ=some ρ1→Calls C.P f vals.toArray w fun e w'=>∃v σ1 dh aS,e=.returned v∧Inv C r.1 ρ1 σ1 dh aS w0 σ0 A a w'∧Rep C.cap σ1 r.2.1 v ((ρ1.o iw).tget 0)):bW C w0 σ0 Φ S ρ A a w o (qx S o.dst r):=by
 intro ρ' ak K Q hK;simp only[Oper.wp,hx,Oper.upon];cases hd:o.dst with
 |none=>
  rw[hd] at ak hK;refine(hc ρ' ak).mono fun e w' hh=>?_;obtain⟨v,σ1,dh,aS,rfl,hinv,bS⟩:=hh;refine hK _ _ ⟨σ1,dh,aS,?_⟩ rfl;have:(fun u=>A u∨(none:Option Nat)=some u)=A:=by funext u;simp
  rw[this];exact hinv
 |some d=>
  rw[hd] at ak hK;obtain⟨t1,t2⟩:=ht d hd;simp only[qx,atd,av] at ak;obtain⟨ρ1,h1,h2⟩:=ak;simp[PI.runs,PI.run,PE.ev] at h2;subst h2;refine(hc ρ1 h1).mono fun e w' hh=>?_;obtain⟨v,σ1,dh,aS,rfl,hinv,bS⟩:=hh;refine hK _ _ ⟨σ1,dh,aS,?_⟩ (size_put _ _ _);have:(fun u=>A u∨some d=some u)=(fun u=>A u∨u=d):=by funext u;simp[eq_comm]
  rw[this];exact hinv.setReg t1 (s:=.dat r.2.1) bS t2 (fun _ _ e=>by cases e)
theorem XZ (h:Inv C S ρ σ own hv w0 σ0 A a w)(hC:CtxOK C σ0)(ba:dp C)(hΦ:dc C Φ){f:Nat}{args:Array Operand}{ts:Array TypeId}{r:St×Ty×List PI}{o:Oper}(ht:∀d,o.dst=some d→¬A d∧d<a.tmps.size)
 (hr:rj C S f args.toList []=some r) (ho:o.op=.call {callee:=.value (.func f),args:=args,argTypes:=ts}):bW C w0 σ0 Φ S ρ A a w o (qx S o.dst r):=by
 have hs:∃s,C.sig f=some s:=by
  simp only[rj,av] at hr;obtain⟨s,hs,_⟩:=hr;exact⟨s,hs⟩
 obtain⟨s,hs⟩:=hs;have hx:=Gu (a:=a) (w:=w) ba hs ho;have jY:args.map a.eval=(args.toList.map a.eval++[]).toArray:=by apply sD;simp
 rw[jY] at hx;exact Xy ht hx fun ρ1 ak=>XY h hC hΦ (vs:=[]) rfl (fun i j ver e=>by simp at e) (fun i j ver e=>by simp at e) hr ak
def yY (S:St):List (Nat×Nat)→Bool
 |[]=>true
 |c::l=>Nat.beq c.2 (S.ver c.1)&&(match S.o c.1 with|.box ..=>true|_=>false)&&yY S l
theorem XD (h:Inv C S ρ σ own hv w0 σ0 A a w):∀{l:List (Nat×Nat)},yY S l=true→∀(i j ver:Nat),l[i]?=some (j,ver)→ver=S.ver j∧∃k,hv j=.pointer (some ⟨k,0,none⟩)
 |[],_,i,j,ver,e=>by simp at e
 |c::l,hl,i,j,ver,e=>by
  simp only[yY,aq] at hl;cases i with
  |zero=>
   simp at e;subst e;refine⟨aB hl.1.1,?_⟩;have h1:=hl.1.2;have h2:=h.objs j;split at h1
   ·rename_i ag shs eo;simp only at eo;rw[eo] at h2;obtain⟨k,cs,T,ds,g1,_⟩:=h2;exact⟨k,g1⟩
   ·cases h1
  |succ i=>simp at e;exact XD h hl.2 i j ver e
def Ag (C:Ctx)(S:St)(t:Nat)(args:List Operand):Option (St×Ty×List PI):=
 match kI S [] t with
 |.fclo f caps=>bif yY S caps then rj C S f args caps else none
 |_=>none
theorem XX (h:Inv C S ρ σ own hv w0 σ0 A a w)(hC:CtxOK C σ0)(ba:dp C)(hΦ:dc C Φ){t:Nat}{args:Array Operand}{ts:Array TypeId}{r:St×Ty×List PI}{o:Oper}(ht:∀d,o.dst=some d→¬A d∧d<a.tmps.size)
 (hr:Ag C S t args.toList=some r) (ho:o.op=.call {callee:=.value (.tmp t),args:=args,argTypes:=ts}):bW C w0 σ0 Φ S ρ A a w o (qx S o.dst r):=by
 unfold Ag at hr;split at hr
 case h_2=>cases hr
 rename_i f caps gN;cases hb:yY S caps<;>simp only[hb,cond_true,cond_false] at hr
 ·cases hr
 have gg:=(nS (gs:=[]) h rfl t).1;rw[gN] at gg;obtain⟨vs,h1,h2,h3⟩:=gg;have hs:∃s,C.sig f=some s:=by
  simp only[rj,av] at hr;obtain⟨s,hs,_⟩:=hr;exact⟨s,hs⟩
 obtain⟨s,hs⟩:=hs;have hx:=afb (a:=a) (w:=w) (vs:=vs) (x:=.tmp t) ba hs (by simpa [Act.eval] using h1) ho;have jY:args.map a.eval++vs.toArray=(args.toList.map a.eval++vs).toArray:=by apply sD;simp
 rw[jY] at hx;exact Xy ht hx fun ρ1 ak=>XY h hC hΦ h2 h3 (fun i j ver e _=>(XD h hb i j ver e).2) hr ak
def CY (S:St):List Operand→Option (List (Nat×Nat))
 |[]=>some []
 |x::xs=>
  match x with
  |.tmp t=>
   match kI S [] t with
   |.ptr j ver off=>bif Nat.beq ver (S.ver j)&&Nat.beq off 0 then(CY S xs).map fun r=>(j,ver)::r else none
   |_=>none
  |_=>none
def Dq (C:Ctx)(S:St)(dst:Nat)(fn:Fn)(first caps:Array Operand):Option (St×List PI):=
 match fn,first.toList with
 |.func f,[]=>
  match C.sig f with
  |some s=>bif qq s.mode then(CY S caps.toList).map fun c=>(S.setR dst (.fclo f c),[.setR dst (.con .none)]) else none
  |none=>none
 |_,_=>none
theorem XE (h:Inv C S ρ σ own hv w0 σ0 A a w):∀{l:List Operand} {c:List (Nat×Nat)},CY S l=some c→c.length=l.length∧∀(i j ver:Nat),c[i]?=some (j,ver)→ver≤S.ver j∧(ver=S.ver j→(l.map a.eval).getD i undef=hv j)
 |[],c,e=>by simp only[CY,aT] at e;subst e;exact⟨rfl,fun i j ver e=>by simp at e⟩
 |x::xs,c,e=>by
  simp only[CY] at e;split at e
  case h_2=>cases e
  rename_i t;split at e
  case h_2=>cases e
  rename_i j ver off gN;cases hb:(Nat.beq ver (S.ver j)&&Nat.beq off 0)<;>simp only[hb,cond_true,cond_false] at e
  ·cases e
  simp only[aq] at hb;simp only[aC] at e;obtain⟨r,hr,rfl⟩:=e;obtain⟨g1,g2⟩:=XE h hr;have gg:=(nS (gs:=[]) h rfl t).1;rw[gN] at gg;refine⟨by simp[g1],fun i j' mX e=>?_⟩;cases i with
  |zero=>
   simp at e;obtain⟨rfl,rfl⟩:=e;refine⟨gg.1,fun e=>?_⟩;obtain⟨k,k1,k2⟩:=gg.2 e;have e0:off=0:=aB hb.2;subst e0;rw[k1,←k2];simp[Act.eval]
  |succ i=>simp at e;simpa using g2 i j' mX e
theorem aiO (h:Inv C S ρ σ own hv w0 σ0 A a w)(ht:¬A dst)(af:dst<a.tmps.size){fn:Fn}{first caps:Array Operand}{r:St×List PI}{o:Oper}(hr:Dq C S dst fn first caps=some r)(hd:o.dst=some dst)(ho:o.op=.makeFunc fn first caps):bW C w0 σ0 Φ S ρ A a w o r:=by
 unfold Dq at hr;split at hr
 case h_2=>cases hr
 rename_i f D8;split at hr
 case h_2=>cases hr
 rename_i s hs;cases hb:qq s.mode<;>simp only[hb,cond_true,cond_false] at hr
 ·cases hr
 simp only[aC] at hr;obtain⟨c,hc,rfl⟩:=hr;obtain⟨g1,g2⟩:=XE h hc;have D5:first=#[]:=by rw[←ur];simpa using D8
 refine bW.value hd fun ρ' ak=>⟨.func (.func f) #[] (caps.toList.map a.eval).toArray,w,?_,?_⟩
 ·subst D5;have e9:caps.map a.eval=(caps.toList.map a.eval).toArray:=by apply sD;rw[v3]
  simp[execOp,ho,Instr.makeFunc,e9]
 ·have hρ:ρ'=ρ.setR dst .none:=by simp[PI.runs,PI.run,PE.ev] at ak;exact ak.symm
  subst hρ;exact⟨_,_,_,h.setReg ht (s:=.fclo f c) ⟨_,rfl,by simp[g1],g2⟩ af (fun _ _ e=>by cases e)⟩
end
end Cx
