/-
  Calls.
-/
import Derived.Test.YtefchokhgdmamaaGreatDoorHAC
set_option linter.unusedSimpArgs false
set_option linter.unusedVariables false
noncomputable section
namespace Cx
open Go Go.RowKit
open Classical in
def Im.noM (σ:Im):Im:=⟨σ.c,fun k=>if σ.m k=some cP then none else σ.m k⟩
theorem Rep.noM {cap:Nat→Option CSig}{σ:Im}{t:Ty}{v:Value}{d:D}(h:Rep cap σ t v d):Rep cap σ.noM t v d:=by
 induction h with
 |int k n h1 h2=>exact .int k n h1 h2
 |bool b=>exact .bool b
 |str s h=>exact .str s h
 |agg ts vs ds h1 h2 _ ho ih=>exact .agg ts vs ds h1 h2 ih ho
 |tup ts vs ds h1 h2 _ ih=>exact .tup ts vs ds h1 h2 ih
 |nil e=>exact .nil e
 |emp e a=>exact .emp e a
 |nils e=>exact .nils e
 |nsl0 e=>exact .nsl0 e
 |nsl e k o n c xs _ hx ih=>exact .nsl e k o n c xs ih hx
 |slice e k o n c xs vs hn hc hm _ hv ih=>exact .slice e k o n c xs vs hn hc hm ih hv
 |mapnil kt et=>exact .mapnil kt et
 |map kt et r jn es hm hl hx hk _ jZ CP=>
  refine .map kt et r jn es ?_ hl hx jZ CP;have az:σ.m r≠some cP:=fun e=>by rw[hm] at e;cases e;exact C1 hl hk rfl
  simp only[Im.noM,if_neg az,hm]
 |ref t k o v d _ hv ih=>exact .ref t k o v d ih hv
 |fn f cs vs ds hc h1 h2 _ ih=>exact .fn f cs vs ds hc h1 h2 ih
 |fnnil aa r=>exact .fnnil aa r
def Im.plus (σ τ:Im):Im:=⟨fun k o=>(σ.c k o).or (τ.c k o),fun k=>(σ.m k).or (τ.m k)⟩
theorem Im.plus_le1 (σ τ:Im):σ.le (σ.plus τ):=⟨fun k o v h=>by simp[Im.plus,h],fun k v h=>by simp[Im.plus,h]⟩
theorem qn.det {w:World}{k:Nat}{x y:List (Value×Value)}(h:qn w k x)(g:qn w k y):x=y:=by
 rcases h with⟨_,a,c,h1,h2⟩|⟨h1,h2⟩<;>rcases g with⟨_,a',c',g1,g2⟩|⟨g1,g2⟩
 ·rw[h1] at g1;cases g1;rw[←h2,←g2]
 ·rw[h1] at g2;cases g2
 ·rw[h2] at g1;cases g1
 ·rw[h1,g1]
theorem Im.plus_le2 {σ τ:Im}{w:World}(h:σ.ok w)(g:τ.ok w):τ.le (σ.plus τ):=by
 refine⟨fun k o v e=>?_,fun k v e=>?_⟩
 ·show(σ.c k o).or (τ.c k o)=some v;cases hc:σ.c k o with
  |none=>simpa using e
  |some u=>have:=(h.c k o u hc).symm.trans (g.c k o v e);simpa using this
 ·show(σ.m k).or (τ.m k)=some v;cases hc:σ.m k with
  |none=>simpa using e
  |some u=>simpa using(h.m k u hc).det (g.m k v e)
theorem Im.plus_ok {σ τ:Im}{w:World}(h:σ.ok w)(g:τ.ok w):(σ.plus τ).ok w:=by
 refine⟨fun k o v e=>?_,fun k v e=>?_⟩
 ·change (σ.c k o).or (τ.c k o)=some v at e;cases hc:σ.c k o with
  |none=>rw[hc] at e;exact g.c k o v (by simpa using e)
  |some u=>rw[hc] at e;simp at e;subst e;exact h.c k o u hc
 ·change (σ.m k).or (τ.m k)=some v at e;cases hc:σ.m k with
  |none=>rw[hc] at e;exact g.m k v (by simpa using e)
  |some u=>rw[hc] at e;simp at e;subst e;exact h.m k u hc
theorem Im.plus_c {σ τ:Im}{k o:Nat}{v:Value}(h:(σ.plus τ).c k o=some v):σ.c k o=some v∨τ.c k o=some v:=by
 change (σ.c k o).or (τ.c k o)=some v at h;cases hc:σ.c k o with
 |none=>rw[hc] at h;exact .inr (by simpa using h)
 |some u=>rw[hc] at h;exact .inl (by simpa using h)
theorem Im.plus_m {σ τ:Im}{k:Nat}{v:List (Value×Value)}(h:(σ.plus τ).m k=some v):σ.m k=some v∨τ.m k=some v:=by
 change (σ.m k).or (τ.m k)=some v at h;cases hc:σ.m k with
 |none=>rw[hc] at h;exact .inr (by simpa using h)
 |some u=>rw[hc] at h;exact .inl (by simpa using h)
def Ty.pureT:Ty→Bool
 |.int _|.bool|.str|.nils _=>true
 |_=>false
def Ty.pure:Ty→Bool
 |.tup ts=>ts.all Ty.pureT
 |.agg ts=>ts.all Ty.pureT
 |t=>Ty.pureT t
theorem Rep.pureT {cap:Nat→Option CSig}{σ τ:Im}{t:Ty}{v:Value}{d:D}(h:Rep cap σ t v d)(hp:t.pureT=true):Rep cap τ t v d:=by
 cases h<;>simp[Ty.pureT] at hp<;>constructor<;>assumption
theorem Rep.pure {cap:Nat→Option CSig}{σ τ:Im}{t:Ty}{v:Value}{d:D}(h:Rep cap σ t v d)(hp:t.pure=true):Rep cap τ t v d:=by
 cases h with
 |agg ts vs ds h1 h2 h ho=>exact .agg ts vs ds h1 h2 (fun i t hi=>(h i t hi).pureT (bz.1 hp t (jO hi))) ho
 |tup ts vs ds h1 h2 h=>exact .tup ts vs ds h1 h2 (fun i t hi=>(h i t hi).pureT (bz.1 hp t (jO hi)))
 |int k n h1 h2=>exact .int k n h1 h2
 |bool b=>exact .bool b
 |str s h=>exact .str s h
 |nils e=>exact .nils e
 |_=>simp[Ty.pure,Ty.pureT] at hp
def Sp (C:Ctx)(σ':Im)(B:Nat)(w':World)(ow:Nat→Option Nat)(i:Nat):RC→Value→D→Prop
 |.dat t,v,d=>t.one=true∧Rep C.cap σ' t v d
 |.row T e,v,d=>∃cells xs,d=.list xs∧w'.ownsRow B T e.size v xs.length cells∧eD C.cap σ' e cells xs∧∀k,v.ownBlock=some k→ow k=some i
def lJ (C:Ctx)(s:Sig)(σ':Im)(w w':World)(v:Value)(d:D):Prop:=
 match s.mode with
 |.dat=>Rep C.cap σ' s.res v d
 |.it _=>True
 |.ob ..=>True
 |.rows l=>∃(vs:List Value) (ds:List D) (ow:Nat→Option Nat),v=.agg vs.toArray∧d=.agg ds∧vs.length=l.length∧ds.length=l.length∧(∀(i:Nat) (c:RC),l[i]?=some c→Sp C σ' w.heap.size w' ow i c (vs.getD i undef) (ds.getD i .none))∧
   ∀k i,ow k=some i→w.heap.size≤k∧k<w'.heap.size∧(∀o,σ'.c k o=none)∧σ'.m k=none
 |.row T e=>∃cells xs,d=.list xs∧w'.ownsRow w.heap.size T e.size v xs.length cells∧eD C.cap σ' e cells xs∧∀k,v.ownBlock=some k→(∀o,σ'.c k o=none)∧σ'.m k=none
def pI (C:Ctx)(σ:Im)(ts:List Ty)(args:List Value)(ds:List D):Prop:=
 args.length=ts.length∧ds.length=ts.length∧∀(i:Nat) (t:Ty),ts[i]?=some t→Rep C.cap σ t (args.getD i undef) (ds.getD i .none)
def hZ (C:Ctx)(f:Nat)(s:Sig)(ds:List D)(d:D):Prop:=
 ∀(σ:Im) (w:World) (args:Array Value),σ.ok w→CtxOK C σ→pI C σ s.args args.toList ds→
  Calls C.P f args w fun e w'=>∃v σ',e=.returned v∧σ.le σ'∧σ'.ok w'∧Below w.heap.size w w'∧
   (∀k o x,σ'.c k o=some x→σ.c k o=some x∨w.heap.size≤k)∧(∀k x,σ'.m k=some x→σ.m k=some x∨w.heap.size≤k)∧lJ C s σ' w w' v d
def eA:List (Nat×Ob)→Nat→Ob
 |[],_=>.dead
 |x::l,j=>bif Nat.beq x.1 j then x.2 else eA l j
def mV:List (Nat×Ob)→List D→Nat→D
 |x::l,d::ds,j=>bif Nat.beq x.1 j then d else mV l ds j
 |_,_,_=>.none
def fN (shs:List Sh)(obs:List (Nat×Ob)):St:=⟨fun t=>shs.getD t .none,fun j=>eA obs j,fun _=>0⟩
def l9 (obs:List (Nat×Ob))(ds os:List D):Env:=⟨fun t=>ds.getD t .none,fun j=>mV obs os j⟩
def mS:Sh→Bool
 |.dat _=>true
 |_=>false
def oV:Mode→Bool
 |.ob ..=>true
 |_=>false
def rV:Sh→Bool
 |.none|.dat _|.obj ..|.ptr ..|.fclo ..=>true
 |_=>false
def Ie:Ob→Bool
 |.row ..|.mp ..=>true
 |.box _ shs=>shs.all rV
 |_=>false
def wx (shs:List Sh)(obs:List (Nat×Ob)):Bool:=shs.all rV&&obs.all fun x=>Ie x.2
def HO:List Sh→List (Nat×Ob)→Option (TypeId×Ty×List Ty)
 |.obj 0 0::l,[(0,.row T e),(1,.tr)]=>(Tl l).map fun ts=>(T,e,ts)
 |_,_=>none
def Ar (C:Ctx)(f:Nat)(T:TypeId)(e:Ty)(ts:List Ty)(ds:List D)(d:D):Prop:=
 ∀(N:Nat) (σ:Im) (w:World) (v:Value) (args:List Value) (xs:List D) (cells:List Value) (ds':List D),ds=.list xs::ds'→σ.ok w→CtxOK C σ→N≤w.heap.size→w.ownsRow N T e.size v xs.length cells→eD C.cap σ e cells xs→
  (∀k,v.ownBlock=some k→k<w.heap.size∧(∀o,σ.c k o=none)∧σ.m k=none)→pI C σ ts args ds'→
  Calls C.P f (v::args).toArray w fun x w'=>∃v' ka dp,x=.returned v'∧d=.list ka∧Below N w w'∧(∀k,k<w.heap.size→v.ownBlock≠some k→w'.heap[k]?=w.heap[k]?)∧
   w'.ownsRow N T e.size v' ka.length dp∧eD C.cap σ e dp ka∧∀k,v'.ownBlock=some k→(v.ownBlock=some k∨w.heap.size≤k)∧k<w'.heap.size
def sy (C:Ctx)(f:Nat)(shs:List Sh)(obs:List (Nat×Ob))(res:Ty)(ds:List D)(d:D):Prop:=
 ∀(N:Nat) (σ:Im) (own:Nat→Option Nat) (hv:Nat→Value) (w:World) (args:Array Value) (cx:Nat→Prop),wx shs obs=true→σ.ok w→CtxOK C σ→(∀k,σ.m k≠some cP)→N≤w.heap.size→args.size=shs.length→
  (∀k j,own k=some j→N≤k∧k<w.heap.size∧(∀o,σ.c k o=none)∧σ.m k=none)→
  (∀k,cx k→k<w.heap.size∧own k=none∧(∀o,σ.c k o=none)∧σ.m k=none)→
  (∀t,aC C (fN shs obs) (l9 obs ds (ds.drop shs.length)) σ hv (shs.getD t .none) (args.getD t undef) (ds.getD t .none))→
  (∀j,cn C (fN shs obs) (l9 obs ds (ds.drop shs.length)) σ own hv w N j (eA obs j))→
  Calls C.P f args w fun e w'=>∃v σ' own' hv' dr os,e=.returned v∧d=.tup (dr::os)∧os.length=obs.length∧σ.le σ'∧σ'.ok w'∧Below 0 w w'∧
   (∀k,k<w.heap.size→own k=none→w'.heap[k]?=w.heap[k]?)∧
   (∀k o x,σ'.c k o=some x→(σ.c k o=some x∨N≤k)∧¬cx k)∧(∀k x,σ'.m k=some x→(σ.m k=some x∨N≤k)∧¬cx k)∧(∀k,σ'.m k=some cP→N≤k→k<w.heap.size→own k≠none)∧
   (∀k j,own' k=some j→N≤k∧k<w'.heap.size∧(∀o,σ'.c k o=none)∧σ'.m k=none∧(k<w.heap.size→own k≠none))∧
   (∀(t:Nat) (sh:Sh),shs[t]?=some sh→mS sh=false→aC C (fN shs obs) (l9 obs ds os) σ' hv' sh (args.getD t undef) (ds.getD t .none))∧
   (∀j,cn C (fN shs obs) (l9 obs ds os) σ' own' hv' w' N j (eA obs j))∧Rep C.cap σ' res v dr
theorem aC.ctx {C C':Ctx}(eN:C'.cap=C.cap){S:St}{ρ:Env}{σ:Im}{hv:Nat→Value}{s:Sh}(hp:rV s=true){v:Value}{d:D}(h:aC C S ρ σ hv s v d):aC C' S ρ σ hv s v d:=by
 cases s with
 |dat t=>show Rep C'.cap σ t v d;rw[eN];exact h
 |opt gs s=>cases hp
 |eptr j ver a b=>cases hp
 |yv=>cases hp
 |agg l=>cases hp
 |_=>exact h
theorem cn.ctx {C C':Ctx}(eN:C'.cap=C.cap){S:St}{ρ:Env}{σ:Im}{own:Nat→Option Nat}{hv:Nat→Value}{w:World}{N j:Nat}{ob:Ob}(hp:Ie ob=true∨ob=.dead)(h:cn C S ρ σ own hv w N j ob):cn C' S ρ σ own hv w N j ob:=by
 rcases hp with hp|rfl
 ·cases ob with
  |row T e=>obtain⟨cells,xs,h1,h2,h3,h4⟩:=h;exact⟨cells,xs,h1,h2,by rw[eN];exact h3,h4⟩
  |mp kt et=>obtain⟨k,arr,clock,es,h1,h2,h3,h4,h5,h6,h7⟩:=h;exact⟨k,arr,clock,es,h1,h2,h3,h4,h5,h6,by rw[eN];exact h7⟩
  |box ag shs=>
   obtain⟨k,cs,T,ds,h1,h2,h3,h4,h5,h6,h7⟩:=h;exact⟨k,cs,T,ds,h1,h2,h3,h4,h5,h6,fun i s hs=>⟨(h7 i s hs).1,(h7 i s hs).2.ctx eN (bz.1 hp s (jO hs))⟩⟩
  |_=>cases hp
 ·trivial
theorem Wc {obs:List (Nat×Ob)}(h:(obs.all fun x=>Ie x.2)=true)(j:Nat):Ie (eA obs j)=true∨eA obs j=.dead:=by
 induction obs with
 |nil=>exact .inr rfl
 |cons x l ih=>
  simp only[pK,aj] at h;simp only[eA];cases hb:Nat.beq x.1 j
  ·exact ih h.2
  ·exact .inl h.1
theorem sy.ctx {C C':Ctx}{f:Nat}{shs:List Sh}{obs:List (Nat×Ob)}{res:Ty}{ds:List D}{d:D}(h:sy C f shs obs res ds d)(hP:C'.P=C.P)(eN:C'.cap=C.cap)(tp:C'.glob=C.glob):sy C' f shs obs res ds d:=by
 intro N σ own hv w args cx hp ax hC be hN aA aW ky h1 h2;have aQ:=hp;simp only[wx,aj] at aQ;have rF:∀t s,shs[t]?=some s→rV s=true:=fun t s hs=>bz.1 aQ.1 s (jO hs);have hC':CtxOK C σ:=⟨fun g x hx=>by have:=hC.glob g x (by rw[tp];exact hx);rwa [eN] at this⟩
 have:=h N σ own hv w args cx hp ax hC' be hN aA aW ky (fun t=>by
  cases hs:shs[t]? with
  |none=>rw[aF,hs];trivial
  |some s=>have:=h1 t;rw[aF,hs] at this ⊢;exact this.ctx eN.symm (rF t s hs)) (fun j=>(h2 j).ctx eN.symm (Wc aQ.2 j))
 rw[hP];refine this.mono fun e w' hh=>?_;obtain⟨v,σ',own',hv',dr,os,g1,g2,g3,g4,g5,g6,g7,g8,g9,g10,g11,g12,g13,g14⟩:=hh;exact⟨v,σ',own',hv',dr,os,g1,g2,g3,g4,g5,g6,g7,g8,g9,g10,g11,fun t sh hs hd=>(g12 t sh hs hd).ctx eN (rF t sh hs),fun j=>(g13 j).ctx eN (Wc aQ.2 j),by rw[eN];exact g14⟩
theorem eD.cap {c c':Nat→Option CSig}(hc:c'=c){σ:Im}{e:Ty}{cells:List Value}{xs:List D}(h:eD c σ e cells xs):eD c' σ e cells xs:=hc▸h
theorem Ar.ctx {C C':Ctx}{f:Nat}{T:TypeId}{e:Ty}{ts:List Ty}{ds:List D}{d:D}(h:Ar C f T e ts ds d)(hP:C'.P=C.P)(eN:C'.cap=C.cap)(tp:C'.glob=C.glob):Ar C' f T e ts ds d:=by
 intro N σ w v args xs cells ds' h1 h2 h3 h4 h5 h6 h7 h8;rw[hP];refine(h N σ w v args xs cells ds' h1 h2 ⟨fun g x hx=>by have:=h3.glob g x (by rw[tp];exact hx);rwa [eN] at this⟩ h4 h5 (h6.cap eN.symm) h7 ⟨h8.1,h8.2.1,fun i t hi=>by have:=h8.2.2 i t hi;rwa [eN] at this⟩).mono fun x w' hh=>?_;obtain⟨v',ka,dp,g1,g2,g3,g4,g5,g6,g7⟩:=hh;exact⟨v',ka,dp,g1,g2,g3,g4,g5,g6.cap eN,g7⟩
def gx (C:Ctx)(f:Nat)(shs:List Sh)(obs:List (Nat×Ob))(res:Ty)(ds:List D)(d:D):Prop:=
 match HO shs obs with
 |some m=>Ar C f m.1 m.2.1 m.2.2 ds d
 |none=>sy C f shs obs res ds d
theorem gx.ctx {C C':Ctx}{f:Nat}{shs:List Sh}{obs:List (Nat×Ob)}{res:Ty}{ds:List D}{d:D}(h:gx C f shs obs res ds d)(hP:C'.P=C.P)(eN:C'.cap=C.cap)(tp:C'.glob=C.glob):gx C' f shs obs res ds d:=by
 unfold gx at h ⊢;split at h
 ·exact Ar.ctx h hP eN tp
 ·exact sy.ctx h hP eN tp
theorem WG {shs:List Sh}{obs:List (Nat×Ob)}(h:∀x,x∈obs→x.2≠.tr):HO shs obs=none:=by
 unfold HO;split
 ·exact absurd rfl (h (1,.tr) (by simp))
 ·rfl
theorem gx.of {C:Ctx}{f:Nat}{shs:List Sh}{obs:List (Nat×Ob)}{res:Ty}{ds:List D}{d:D}(ht:∀x,x∈obs→x.2≠.tr)(h:sy C f shs obs res ds d):gx C f shs obs res ds d:=by
 unfold gx;rw[WG ht];exact h
theorem gx.plain {C:Ctx}{f:Nat}{shs:List Sh}{obs:List (Nat×Ob)}{res:Ty}{ds:List D}{d:D}(hp:wx shs obs=true)(h:gx C f shs obs res ds d):sy C f shs obs res ds d:=by
 unfold gx at h;rw[WG fun x hx e=>?_] at h
 ·exact h
 ·simp only[wx,aj] at hp;have:=bz.1 hp.2 x hx;rw[e] at this;cases this
def dF (C:Ctx)(Φ:aR):Prop:=∀f ds d,Φ f ds=some d→∀s,C.sig f=some s→(oV s.mode=false→hZ C f s ds d)∧∀shs obs,s.mode=.ob shs obs→gx C f shs obs s.res ds d
def l0:List Ty→Ty→Option (List Ty)
 |[.fn ys .bool],.tup []=>some ys
 |_,_=>none
def dY (C:Ctx):Prop:=(∀f cs,C.cap f=some cs→l0 cs.args cs.res=none→C.sig f=some ⟨cs.args++cs.caps,cs.res,.dat⟩)∧∀f s,C.sig f=some s→∃fn,C.P.funcs[f]?=some fn∧fn.body.isSome=true∧(fn.name== "runtime.NumGoroutine")=false
def u9 (S:St):List AgC→List Nat
 |[]=>[]
 |.obj j ver::l=>bif Nat.beq ver (S.ver j)&&kG (S.o j) then j::u9 S l else u9 S l
 |_::l=>u9 S l
def bJ (S:St)(gs:List (Nat×Bool)):List Operand→List Nat
 |[]=>[]
 |x::xs=>
  match eU S gs x with
  |.obj j ver=>bif Nat.beq ver (S.ver j)&&kG (S.o j) then j::bJ S gs xs else bJ S gs xs
  |.agg l=>u9 S l++bJ S gs xs
  |_=>bJ S gs xs
def iT (gs:List (Nat×Bool))(s:Sh):Sh:=
 match gs with
 |[]=>s
 |_=>.opt gs s
def St.fzs (S:St)(js:List Nat):St:=js.foldl St.fz S
def lC:List RC→List Ty
 |[]=>[]
 |.dat t::l=>t::lC l
 |.row _ e::l=>.slice e.rol::lC l
def A4 (fr:List Nat)(dst:Nat)(s:Sig):Option Sig:=
 match s.mode with
 |.rows l=>bif !(fr.any (Nat.beq (2000000+dst)))&&Ty.beq s.res (.agg (lC l)) then some {s with mode:=.dat} else some s
 |_=>some s
theorem IB:∀{l:List RC} {i:Nat} {t:Ty},(lC l)[i]?=some t→(l[i]?=some (.dat t))∨∃T e,l[i]?=some (.row T e)∧t=.slice e.rol
 |[],i,t,h=>by simp[lC] at h
 |.dat u::l,0,t,h=>by simp[lC] at h;subst h;exact .inl rfl
 |.row T e::l,0,t,h=>by simp[lC] at h;exact .inr ⟨T,e,rfl,h.symm⟩
 |.dat u::l,i+1,t,h=>by simpa using IB (l:=l) (i:=i) (by simpa [lC] using h)
 |.row T e::l,i+1,t,h=>by simpa using IB (l:=l) (i:=i) (by simpa [lC] using h)
theorem OS:∀(l:List RC),(lC l).length=l.length
 |[]=>rfl
 |.dat _::l=>by simp[lC,OS l]
 |.row ..::l=>by simp[lC,OS l]
theorem hZ.asDat {C:Ctx}{f:Nat}{s:Sig}{ds:List D}{d:D}{l:List RC}(hm:s.mode=.rows l)(hr:s.res=.agg (lC l))(h:hZ C f s ds d):hZ C f {s with mode:=.dat} ds d:=by
 intro σ w args h1 h2 h3;refine(h σ w args h1 h2 h3).mono fun e w' hh=>?_;obtain⟨v,σ',rfl,hle,ax,hb,cX,cY,eJ⟩:=hh;simp only[lJ,hm] at eJ;obtain⟨vs,ds,ow,rfl,rfl,l1,l2,dS,rE⟩:=eJ
 have hex:∀i,∃cs:List Value,∀T e,l[i]?=some (.row T e)→∃xs,ds.getD i .none=.list xs∧w'.ownsRow w.heap.size T e.size (vs.getD i undef) xs.length cs∧eD C.cap σ' e cs xs∧∀k,(vs.getD i undef).ownBlock=some k→ow k=some i:=fun i=>by
  cases hl:l[i]? with
  |none=>exact⟨[],fun _ _ h=>by cases h⟩
  |some c=>
   cases c with
   |dat t=>exact⟨[],fun _ _ h=>by cases h⟩
   |row T e=>
    obtain⟨cs,xs,g1,g2,g3,g4⟩:=dS i _ hl;exact⟨cs,fun T' e' h=>by cases h;exact⟨xs,g1,g2,g3,g4⟩⟩
 let cs:Nat→List Value:=fun i=>Classical.choose (hex i)
 have dA:∀i T e,l[i]?=some (.row T e)→∃xs,ds.getD i .none=.list xs∧w'.ownsRow w.heap.size T e.size (vs.getD i undef) xs.length (cs i)∧eD C.cap σ' e (cs i) xs∧∀k,(vs.getD i undef).ownBlock=some k→ow k=some i:=fun i=>RY (hex i)
 let y7:Nat→Nat→Bool:=fun i k=>decide ((vs.getD i undef).ownBlock=some k)&&(match l[i]? with|some (.row ..)=>true|_=>false)
 let τ:Im:={c:=fun k o=>match ow k with|some i=>(bif y7 i k then(cs i)[o]? else none)|none=>σ'.c k o,m:=σ'.m}
 have jE:σ'.le τ:=by
  refine⟨fun k o x hx=>?_,fun k x hx=>hx⟩;cases hk:ow k with
  |none=>simp only[τ,hk];exact hx
  |some i=>have:=(rE k i hk).2.2.1 o;rw[this] at hx;cases hx
 have ff:∀i k,y7 i k=true→∃T e,l[i]?=some (.row T e)∧(vs.getD i undef).ownBlock=some k:=fun i k hk=>by
  simp only[y7,aj,decide_eq_true_eq] at hk;obtain⟨bH,bt⟩:=hk;split at bt
  ·rename_i T e hl;exact⟨T,e,hl,bH⟩
  ·cases bt
 refine⟨_,τ,rfl,hle.trans jE,⟨fun k o x hx=>?_,ax.m⟩,hb,fun k o x hx=>?_,cY,?_⟩
 ·simp only[τ] at hx;split at hx
  ·rename_i i hi;cases hr:y7 i k with
   |false=>rw[hr] at hx;cases hx
   |true=>
    rw[hr,cond_true] at hx;obtain⟨T,e,hl,td⟩:=ff i k hr;obtain⟨xs,g1,g2,g3,g4⟩:=dA i T e hl;have:=g2.cells td o x hx;rw[qX] at this;simpa using this
  ·exact ax.c k o x hx
 ·simp only[τ] at hx;split at hx
  ·rename_i i hi;exact .inr (rE k i hi).1
  ·exact cX k o x hx
 ·simp only[lJ,hr];have hlen:=OS l;refine .agg (lC l) vs ds (by omega) (by omega) (fun i t hi=>?_) (fun i t hi=>?_)
  ·rcases IB hi with hl|⟨T,e,hl,rfl⟩
   ·exact(dS i _ hl).2.mono jE
   ·obtain⟨xs,g1,g2,⟨us,g3,g4⟩,g5⟩:=dA i T e hl;rw[g1];rcases g2.2 with⟨e1,e2⟩|⟨g,cap,cur,e1,e2,e3,e4,e5,e6,e7⟩
    ·rw[e1];have:xs=[]:=JB e2;subst this;exact .nil _
    ·rw[e1];have td:(vs.getD i undef).ownBlock=some g:=by rw[e1];rfl
     refine .slice e.rol g 0 xs.length cap xs us rfl e4 e5 (fun i x hx=>((g3 i x hx).mono jE).unf_rol) (fun j m u hj hu=>?_);rw[Ty.rol_size];have hR:y7 i g=true:=by simp only[y7,td,hl];simp
     simp only[τ,g5 g td,hR,cond_true,eW];exact g4 j m u hj hu
  ·rcases IB hi with hl|⟨T,e,hl,rfl⟩
   ·exact(dS i _ hl).1
   ·rfl
theorem ack {C:Ctx}{fr:List Nat}{dst f:Nat}{s s':Sig}{ds:List D}{d:D}(hs:A4 fr dst s=some s')(hm:s'.mode=.dat)(h:oV s.mode=false→hZ C f s ds d):hZ C f s' ds d:=by
 unfold A4 at hs;split at hs
 ·rename_i l hl;cases hb:(!(fr.any (Nat.beq (2000000+dst)))&&Ty.beq s.res (.agg (lC l)))<;>simp only[hb,cond_true,cond_false] at hs
  ·cases hs;rw[hl] at hm;cases hm
  ·cases hs;simp only[aj] at hb;exact hZ.asDat hl (Ty.beq_eq _ _ hb.2) (h (by rw[hl];rfl))
 ·cases hs;exact h (by rw[hm];rfl)
def ox (C:Ctx)(S:St)(gs:List (Nat×Bool))(dst:Nat)(f:Nat)(args:List Operand):Option (St×Sh×List PI):=
 ((C.sig f).bind (A4 C.fr dst)).bind fun s=>
   match s.mode with
   |.dat=>
    (j7 C (S.fzs (bJ S gs args)) gs args).bind fun u=>
      bif Ty.subs u.1 s.args then some (bif s.res.pure then S else S.fzs (bJ S gs args),.dat s.res,[.call gs dst f u.2]) else Option.none
   |_=>Option.none
def Bb (C:Ctx)(S:St)(dst:Nat)(f:Nat)(args:List Operand):ke:=
 (C.sig f).bind fun s=>
    match s.mode with
    |.row T e=>
     (j7 C (S.fzs (bJ S [] args)) [] args).bind fun u=>
       bif Ty.subs u.1 s.args then some (mkObj (bif e.pure then S else S.fzs (bJ S [] args)) dst (.row T e),[.call [] dst f u.2,.setO dst (.r dst),.setR dst (.con .none)]) else Option.none
    |_=>Option.none
def iI (dst:Nat)(l:List RC)(j:Nat):Option (Nat×TypeId×Ty):=
 bif Nat.beq (j%4096) dst&&Nat.ble 4096 j then(match l[j/4096-1]? with|some (.row T e)=>some (j/4096-1,T,e)|_=>Option.none) else Option.none
theorem YN {dst i:Nat}{l:List RC}{T:TypeId}{e:Ty}(hd:dst<4096)(h:l[i]?=some (.row T e)):iI dst l (gj dst i)=some (i,T,e):=by
 unfold iI gj;have e1:(4096*(i+1)+dst)%4096=dst:=by omega
 have e2:(4096*(i+1)+dst)/4096-1=i:=by omega
 have e3:Nat.ble 4096 (4096*(i+1)+dst)=true:=Nat.ble_eq_true_of_le (by omega);rw[e1,e2,e3,h,gL];rfl
theorem ak4 {dst i j:Nat}{l:List RC}{T:TypeId}{e:Ty}(h:iI dst l j=some (i,T,e)):j=gj dst i∧l[i]?=some (.row T e):=by
 unfold iI at h;cases hb:(Nat.beq (j%4096) dst&&Nat.ble 4096 j)<;>simp only[hb,cond_true,cond_false] at h
 ·cases h
 simp only[aj] at hb;have h1:=au hb.1;have h2:=jP hb.2;split at h
 ·rename_i hl;cases h;exact⟨by unfold gj;omega,hl⟩
 ·cases h
def St.newRows (S:St)(dst:Nat)(l:List RC):St:=⟨S.r,fun j=>match iI dst l j with|some x=>.row x.2.1 x.2.2|Option.none=>S.o j,fun j=>match iI dst l j with|some _=>S.ver j+1|Option.none=>S.ver j⟩
def mZ (S:St)(dst:Nat):List RC→Nat→List AgC
 |[],_=>[]
 |.dat t::l,i=>.dat t::mZ S dst l (i+1)
 |.row ..::l,i=>.obj (gj dst i) (S.ver (gj dst i)+1)::mZ S dst l (i+1)
def zR (dst:Nat):List RC→Nat→List PI
 |[],_=>[]
 |.dat _::l,i=>zR dst l (i+1)
 |.row ..::l,i=>.setO (gj dst i) (.cell (.r dst) i)::zR dst l (i+1)
def Bc (C:Ctx)(S:St)(dst:Nat)(f:Nat)(args:List Operand):ke:=
 (C.sig f).bind fun s=>
    match s.mode with
    |.rows l=>
     (j7 C (S.fzs (bJ S [] args)) [] args).bind fun u=>
       bif Ty.subs u.1 s.args&&Nat.blt dst 4096 then
         some (((S.fzs (bJ S [] args)).newRows dst l).setR dst (.agg (mZ (S.fzs (bJ S [] args)) dst l 0)),.call [] dst f u.2::zR dst l 0) else Option.none
    |_=>Option.none
theorem YO (S:St)(dst:Nat):∀(l:List RC) (i:Nat),(mZ S dst l i).length=l.length∧∀(n:Nat) (c:AgC),(mZ S dst l i)[n]?=some c→(∃t,l[n]?=some (.dat t)∧c=.dat t)∨∃T e,l[n]?=some (.row T e)∧c=.obj (gj dst (i+n)) (S.ver (gj dst (i+n))+1)
 |[],i=>⟨rfl,fun n c h=>by simp[mZ] at h⟩
 |x::l,i=>by
  obtain⟨h1,h2⟩:=YO S dst l (i+1);have e:∀n,i+1+n=i+(n+1):=fun n=>by omega
  cases x with
  |dat t=>
   refine⟨by simp[mZ,h1],fun n c h=>?_⟩;cases n with
   |zero=>simp[mZ] at h;exact .inl ⟨t,rfl,h.symm⟩
   |succ n=>simp only[mZ,EC] at h ⊢;have:=h2 n c h;rwa [e] at this
  |row T y=>
   refine⟨by simp[mZ,h1],fun n c h=>?_⟩;cases n with
   |zero=>simp[mZ] at h;exact .inr ⟨T,y,rfl,by rw[gK];exact h.symm⟩
   |succ n=>simp only[mZ,EC] at h ⊢;have:=h2 n c h;rwa [e] at this
theorem OR (Φ:aR)(dst:Nat):∀(l:List RC) (i:Nat) (ρ ρ':Env),PI.runs Φ (zR dst l i) ρ=some ρ'→ρ'.r=ρ.r∧(∀j,(∀(n:Nat) (T:TypeId) (e:Ty),l[n]?=some (.row T e)→j≠gj dst (i+n))→ρ'.o j=ρ.o j)∧
 ∀(n:Nat) (T:TypeId) (e:Ty),l[n]?=some (.row T e)→ρ'.o (gj dst (i+n))=(ρ.r dst).c (i+n)
 |[],i,ρ,ρ',h=>by
  simp only[zR,PI.runs,aO] at h;subst h;exact⟨rfl,fun _ _=>rfl,fun n T e h=>by simp at h⟩
 |x::l,i,ρ,ρ',h=>by
  have e:∀n,i+1+n=i+(n+1):=fun n=>by omega
  cases x with
  |dat t=>
   obtain⟨h1,h2,h3⟩:=OR Φ dst l (i+1) ρ ρ' h;refine⟨h1,fun j hj=>h2 j fun n T y hn=>by rw[e];exact hj (n+1) T y (by simpa using hn),fun n T y hn=>?_⟩;cases n with
   |zero=>simp at hn
   |succ n=>have:=h3 n T y (by simpa using hn);rwa [e] at this
  |row T0 y0=>
   simp only[zR,PI.runs,PI.run,jQ] at h;obtain⟨h1,h2,h3⟩:=OR Φ dst l (i+1) _ ρ' h;refine⟨h1,fun j hj=>?_,fun n T y hn=>?_⟩
   ·rw[h2 j fun n T y hn=>by rw[e];exact hj (n+1) T y (by simpa using hn)];exact bf _ _ (by have:=hj 0 T0 y0 rfl;rwa [gK] at this)
   ·cases n with
    |zero=>
     rw[gK,h2 _ fun n T y hn=>by unfold gj;omega];exact aG _ _ _
    |succ n=>have:=h3 n T y (by simpa using hn);rwa [e] at this
def Ba (C:Ctx)(S:St)(dst:Nat)(f:Nat)(args:List Operand):ke:=
 (C.sig f).bind fun s=>
    match s.mode,args with
    |.ob shs obs,x::xs=>
     match HO shs obs,eU S [] x with
     |some m,.obj j ver=>
      match S.o j with
      |.row T e=>
       bif Nat.beq ver (S.ver j)&&(Nat.beq T m.1&&Ty.beq e m.2.1) then
            (j7 C S [] xs).bind fun u=>
             bif Ty.subs u.1 m.2.2 then some ((S.newO j (.row T e)).setR dst (.obj j (S.ver j+1)),[.call [] dst f (.o j::u.2),.setO j (.r dst),.setR dst (.con .none)]) else Option.none
       else Option.none
      |_=>Option.none
     |_,_=>Option.none
    |_,_=>Option.none
def np (C:Ctx)(S:St)(gs:List (Nat×Bool))(dst:Nat)(x:Operand)(args:List Operand):Option (St×Sh×List PI):=
 match use C S gs x with
 |some (.fn aa r,e)=>
  match l0 aa r with
  |some _=>Option.none
  |Option.none=>
  (j7 C (S.fzs (bJ S gs args)) gs args).bind fun u=>
    bif Ty.subs u.1 aa then some (bif r.pure then S else S.fzs (bJ S gs args),.dat r,[.callc gs dst e u.2]) else Option.none
 |_=>Option.none
theorem nu:∀(js:List Nat) (S:St),(S.fzs js).ver=S.ver∧(S.fzs js).r=S.r
 |[],S=>⟨rfl,rfl⟩
 |j::js,S=>by
  obtain⟨h1,h2⟩:=nu js (S.fz j);obtain⟨k1,k2⟩:=Gi S j;exact⟨h1.trans k1,h2.trans k2⟩
section
variable {C:Ctx} {S:St} {ρ:Env} {σ:Im} {own:Nat→Option Nat} {hv:Nat→Value} {w0:World} {σ0:Base} {A:Nat→Prop} {a:Act} {w:World} {gs:List (Nat×Bool)} {Φ:aR} {dst:Nat}
theorem Inv.fzs:∀(js:List Nat) {S:St} {σ:Im} {own:Nat→Option Nat},Inv C S ρ σ own hv w0 σ0 A a w→∃σ' own',σ.le σ'∧Inv C (S.fzs js) ρ σ' own' hv w0 σ0 A a w
 |[],S,σ,own,h=>⟨σ,own,.refl σ,h⟩
 |j::js,S,σ,own,h=>by
  obtain⟨σ1,dv,hle,h1⟩:=h.fz j;obtain⟨σ2,iz,jE,h2⟩:=Inv.fzs js h1;exact⟨σ2,iz,hle.trans jE,h2⟩
theorem Inv.world (h:Inv C S ρ σ own hv w0 σ0 A a w){σ':Im}{w':World}(hle:σ.le σ')(ax:σ'.ok w')(hb:Below w.heap.size w w')(cX:∀k o x,σ'.c k o=some x→σ.c k o=some x∨w.heap.size≤k)
 (cY:∀k x,σ'.m k=some x→σ.m k=some x∨w.heap.size≤k):Inv C S ρ σ' own hv w0 σ0 A a w':=by
 have aA:=h.below.size;refine h.step (fun _=>False) rfl hle ax (fun k o x hx=>(cX k o x hx).imp id (fun e=>⟨by omega,.inr e⟩)) (fun k x hx=>(cY k x hx).imp id (fun e=>⟨by omega,.inr e⟩)) (hb.mono aA) (.refl S hv) (fun j _=>⟨rfl,rfl,rfl,fun k hk=>⟨hk,hb.block k (h.owns k j hk).2.1⟩⟩) (fun _ hf=>hf.elim) (fun k j hk=>?_) (fun _=>id) (fun t=>.inl ⟨rfl,rfl,rfl⟩) (fun _ _=>rfl) (fun k hk _=>hb.block k hk) (fun k i hk=>.inl ⟨i,hk⟩) (fun _ hf=>hf.elim);obtain⟨g1,g2,g3,g4⟩:=h.owns k j hk;refine⟨g1,by have:=hb.size;omega,fun o=>?_,?_⟩
 ·cases hc:σ'.c k o with
  |none=>rfl
  |some x=>rcases cX k o x hc with e|e
           ·rw[g3 o] at e;cases e
           ·omega
 ·cases hc:σ'.m k with
  |none=>rfl
  |some x=>rcases cY k x hc with e|e
           ·rw[g4] at e;cases e
           ·omega
theorem CtxOK.mono {C:Ctx}{σ σ':Im}(h:CtxOK C σ)(hle:σ.le σ'):CtxOK C σ':=⟨fun g x hx=>(h.glob g x hx).mono hle⟩
theorem Ai (h:Inv C S ρ σ own hv w0 σ0 A a w)(hC:CtxOK C σ0)(hg:holds gs ρ=true){xs:List Operand}{u:List Ty×List PE}{ts:List Ty}(hu:j7 C S gs xs=some u)(hs:Ty.subs u.1 ts=true):pI C σ ts (xs.map a.eval) (PE.evs ρ u.2):=by
 obtain⟨l1,l2,aD⟩:=aad h hC hg _ _ hu;have hl:=Ty.subs_len _ _ hs;refine⟨by rw[fl];omega,by rw[PE.evs_eq,fl];omega,fun i t hi=>?_⟩;obtain⟨s,oS,bX⟩:=Ty.subs_get _ _ hs i t hi;exact(aD i s oS).sub bX
theorem D7 {o:Oper}{f:Nat}{args:Array Operand}{ts:Array TypeId}(aP:dY C){s:Sig}(hs:C.sig f=some s)(ho:o.op=.call {callee:=.value (.func f),args:=args,argTypes:=ts}):
 (execOp a.eval o).run C.P w=.ok (.enter f (args.map a.eval)) w:=by
 obtain⟨fn,h1,h2,h3⟩:=aP.2 f s hs;obtain⟨bd,mI⟩:=Sm.1 h2;have h4:¬fn.name= "runtime.NumGoroutine" :=by simpa using h3
 simp[execOp,ho,resolve,Act.eval,Deferred.ofValue,invoke,callFunc,h1,mI,h4]
theorem Zy {o:Oper}{x:Operand}{f:Nat}{vs:List Value}{args:Array Operand}{ts:Array TypeId}(aP:dY C){s:Sig}(hs:C.sig f=some s)(hx:a.eval x=.func (.func f) #[] vs.toArray)(ho:o.op=.call {callee:=.value x,args:=args,argTypes:=ts}):
 (execOp a.eval o).run C.P w=.ok (.enter f (args.map a.eval++vs.toArray)) w:=by
 obtain⟨fn,h1,h2,h3⟩:=aP.2 f s hs;obtain⟨bd,mI⟩:=Sm.1 h2;have h4:¬fn.name= "runtime.NumGoroutine" :=by simpa using h3
 simp[execOp,ho,resolve,hx,Deferred.ofValue,invoke,callFunc,h1,mI,h4]
theorem SZ (h:Inv C S ρ σ own hv w0 σ0 A a w)(hC:CtxOK C σ0)(ht:¬A dst)(ae:dst<a.tmps.size)(dR:∀g,g∈gs→A g.1)(hg:holds gs ρ=true){f:Nat}{s:Sig}{js:List Nat}{vals:List Value}{ds:List D}{d:D}(kD:s.mode=.dat)(hfn:hZ C f s ds d)
 (il:∀σ1 dv,σ.le σ1→Inv C (S.fzs js) ρ σ1 dv hv w0 σ0 A a w→pI C σ1 s.args vals ds) {K:Act→World→Prop} {Q:Exit→Act→World→Prop}
 (hK:∀a' w',Good C w0 σ0 ((bif s.res.pure then S else S.fzs js).setR dst (iT gs (.dat s.res))) (ρ.setR dst d) (fun u=>A u∨u=dst) a' w'→a'.tmps.size=a.tmps.size→K a' w'):
 Calls C.P f vals.toArray w (fun e j9=>match e with|.returned v=>K (a.put (some dst) v) j9|.panicked chain=>Q (.panic chain) a j9|.outgrown=>LetsOut Q):=by
 obtain⟨σ1,dv,lf,h1⟩:=Inv.fzs js h;have oG:=hfn σ1 w vals.toArray h1.ok (hC.mono h1.le) (by simpa using il σ1 dv lf h1);refine oG.mono fun e w' hh=>?_;obtain⟨v,σ',rfl,hle,ax,hb,cX,cY,eJ⟩:=hh;simp only[lJ,kD] at eJ;refine hK _ _ ?_ (size_put _ _ _);have hh:holds gs (ρ.setR dst d)=true:=by rw[Cm (t:=dst) (d:=d) fun g hm e=>ht (by rw[←e];exact dR g hm)];exact hg
 have put:∀{S2:St} {σ2:Im} {iz:Nat→Option Nat},Inv C S2 ρ σ2 iz hv w0 σ0 A a w'→Rep C.cap σ2 s.res v d→Good C w0 σ0 (S2.setR dst (iT gs (.dat s.res))) (ρ.setR dst d) (fun u=>A u∨u=dst) (a.put (some dst) v) w':=by
  intro S2 σ2 iz h2 hr;cases gs with
  |nil=>exact⟨_,_,_,h2.setReg ht (s:=.dat s.res) hr ae (fun _ _ e=>by cases e)⟩
  |cons g bG=>
   refine⟨_,_,_,h2.setReg ht (s:=.opt (g::bG) (.dat s.res)) ⟨fun _=>hr,fun e=>absurd (hh.symm.trans e) (by decide)⟩ ae (fun gs s e=>?_)⟩;cases e;exact⟨dR,fun _ _ e=>by cases e⟩
 cases hp:s.res.pure with
 |true=>
  simp only[cond_true];exact put (h.world (.refl σ) (h.ok.below hb) hb (fun _ _ _ hx=>.inl hx) (fun _ _ hx=>.inl hx)) (eJ.pure hp)
 |false=>
  simp only[cond_false];exact put (h1.world hle ax hb cX cY) eJ
theorem AR {o:Oper}{f:Nat}{args:Array Value}{K:Act→World→Prop}{Q:Exit→Act→World→Prop}(hd:o.dst=some dst)(hx:(execOp a.eval o).run C.P w=.ok (.enter f args) w)
 (h:Calls C.P f args w (fun e j9=>match e with|.returned v=>K (a.put (some dst) v) j9|.panicked chain=>Q (.panic chain) a j9|.outgrown=>LetsOut Q)):o.wp C.P a w K Q:=by
 simp only[Oper.wp,hx,Oper.upon,hd];refine h.mono fun e j9 hh=>?_;cases e<;>exact hh
theorem acP (h:Inv C S ρ σ own hv w0 σ0 A a w)(hC:CtxOK C σ0)(aP:dY C)(hΦ:dF C Φ)(ht:¬A dst)(ae:dst<a.tmps.size)(dR:∀g,g∈gs→A g.1)(hg:holds gs ρ=true){f:Nat}{args:Array Operand}{ts:Array TypeId}{r:St×Sh×List PI}
 (hr:ox C S gs dst f args.toList=some r) {o:Oper} (hd:o.dst=some dst) (ho:o.op=.call {callee:=.value (.func f),args:=args,argTypes:=ts}):bP C w0 σ0 Φ S ρ A a w o (r.1.setR dst (iT gs r.2.1),r.2.2):=by
 simp only[ox,ao] at hr;obtain⟨s,⟨s0,hs,ja⟩,hr⟩:=hr;split at hr
 case h_2=>cases hr
 rename_i kD;simp only[ao] at hr;obtain⟨u,hu,hr⟩:=hr;cases bI:Ty.subs u.1 s.args<;>simp only[bI,cond_true,cond_false] at hr
 ·cases hr
 cases hr;intro ρ' af K Q hK;simp only[PI.runs,PI.run,hg,cond_true,ao,av] at af;obtain⟨ρ1,⟨d,ba,rfl⟩,af⟩:=af;cases af;have hfn:=ack ja kD (hΦ f _ d ba s0 hs).1;refine AR hd (D7 aP hs ho) ?_;have jH:args.map a.eval=(args.toList.map a.eval).toArray:=by apply qL;rw[uO]
 rw[jH];have gD:(fun u=>A u∨o.dst=some u)=(fun u=>A u∨u=dst):=by funext u;rw[hd];simp[eq_comm]
 rw[gD] at hK;exact SZ h hC ht ae dR hg (js:=bJ S gs args.toList) kD hfn (fun σ1 dv _ h1=>Ai h1 hC hg hu bI) hK
theorem acG (h:Inv C S ρ σ own hv w0 σ0 A a w)(hC:CtxOK C σ0)(aP:dY C)(hΦ:dF C Φ)(ht:¬A dst)(ae:dst<a.tmps.size)(dR:∀g,g∈gs→A g.1)(hg:holds gs ρ=true){x:Operand}{args:Array Operand}{ts:Array TypeId}{r:St×Sh×List PI}
 (hr:np C S gs dst x args.toList=some r) {o:Oper} (hd:o.dst=some dst) (ho:o.op=.call {callee:=.value x,args:=args,argTypes:=ts}):bP C w0 σ0 Φ S ρ A a w o (r.1.setR dst (iT gs r.2.1),r.2.2):=by
 unfold np at hr;split at hr
 case h_2=>cases hr
 rename_i aa r0 e vW;split at hr
 case h_1=>cases hr
 rename_i L4;simp only[ao] at hr;obtain⟨u,hu,hr⟩:=hr;cases bI:Ty.subs u.1 aa<;>simp only[bI,cond_true,cond_false] at hr
 ·cases hr
 cases hr;have hx:=cl h hC hg vW;intro ρ' af K Q hK;simp only[PI.runs,PI.run,hg,cond_true,ao] at af;obtain⟨ρ1,nG,af⟩:=af;cases af;split at nG
 case h_2=>cases nG
 rename_i f caps bD;simp only[av] at nG;obtain⟨d,ba,rfl⟩:=nG;rw[bD] at hx;generalize fI:a.eval x=xv at hx;generalize aY:Ty.fn aa r0=ty at hx;cases hx with
 |fn f cs vs ds hc h1 h2 aD=>
  cases aY;have hs:=aP.1 f cs hc L4;have hfn:=(hΦ f _ d ba _ hs).1 rfl;refine AR hd (Zy aP hs fI ho) ?_;have jH:args.map a.eval++vs.toArray=(args.toList.map a.eval++vs).toArray:=by apply qL;simp
  rw[jH];have gD:(fun u=>A u∨o.dst=some u)=(fun u=>A u∨u=dst):=by funext u;rw[hd];simp[eq_comm]
  rw[gD] at hK;refine SZ h hC ht ae dR hg (js:=bJ S gs args.toList) (s:=⟨cs.args++cs.caps,cs.res,.dat⟩) rfl hfn (fun σ1 dv lf i1=>?_) hK;obtain⟨g1,g2,g3⟩:=Ai i1 hC hg hu bI;refine⟨by simp only[iK,g1,h1],by simp only[iK,g2,h2],fun i t hi=>?_⟩;rw[lH] at hi;split at hi
  ·rename_i ae;have:=g3 i t hi;rw[aF,aF,kf (by omega),kf (by omega)];simpa [aF] using this
  ·rename_i fq;have:=(aD _ t hi).mono lf;rw[aF,aF,iJ (by omega),iJ (by omega),g1,g2];simpa [aF] using this
theorem acK (h:Inv C S ρ σ own hv w0 σ0 A a w)(hC:CtxOK C σ0)(aP:dY C)(hΦ:dF C Φ)(ht:¬A dst)(ae:dst<a.tmps.size){f:Nat}{args:Array Operand}{ts:Array TypeId}{r:St×List PI}
 (hr:Bb C S dst f args.toList=some r) {o:Oper} (hd:o.dst=some dst) (ho:o.op=.call {callee:=.value (.func f),args:=args,argTypes:=ts}):bP C w0 σ0 Φ S ρ A a w o r:=by
 simp only[Bb,ao] at hr;obtain⟨s,hs,hr⟩:=hr;split at hr
 case h_2=>cases hr
 rename_i T e kD;simp only[ao] at hr;obtain⟨u,hu,hr⟩:=hr;cases bI:Ty.subs u.1 s.args<;>simp only[bI,cond_true,cond_false] at hr
 ·cases hr
 cases hr;intro ρ' af K Q hK;have B3:holds ([]:List (Nat×Bool)) ρ=true:=rfl;simp only[PI.runs,PI.run,B3,cond_true,ao,av] at af;obtain⟨ρ1,⟨d,ba,rfl⟩,ρ2,g2,ρ3,g3,g4⟩:=af;cases g2;cases g3;cases g4;have hfn:=(hΦ f _ d ba s hs).1 (by rw[kD];rfl);obtain⟨σ1,dv,lf,h1⟩:=Inv.fzs (bJ S [] args.toList) h;have jH:args.map a.eval=(args.toList.map a.eval).toArray:=by apply qL;rw[uO]
 refine AR hd (D7 aP hs ho) ?_;rw[jH];have oG:=hfn σ1 w (args.toList.map a.eval).toArray h1.ok (hC.mono h1.le) (by simpa using Ai h1 hC rfl hu bI);refine oG.mono fun e' w' hh=>?_;obtain⟨v,σ',rfl,hle,ax,hb,cX,cY,eJ⟩:=hh;simp only[lJ,kD] at eJ;obtain⟨cells,xs,rfl,aW,iu,mK⟩:=eJ;refine hK _ _ ?_ (size_put _ _ _);have gD:(fun u=>A u∨o.dst=some u)=(fun u=>A u∨u=dst):=by funext u;rw[hd];simp[eq_comm]
 rw[gD];have main:∀{S2:St} {σ1 σ2:Im} {iz:Nat→Option Nat},Inv C S2 ρ σ1 iz hv w0 σ0 A a w→σ1.le σ2→σ2.ok w'→(∀k o x,σ2.c k o=some x→σ1.c k o=some x∨w.heap.size≤k)→(∀k x,σ2.m k=some x→σ1.m k=some x∨w.heap.size≤k)→eD C.cap σ2 e cells xs→(∀k,v.ownBlock=some k→(∀o,σ2.c k o=none)∧σ2.m k=none)→
  Good C w0 σ0 (mkObj S2 dst (.row T e)) ((ρ.setO dst (.list xs)).setR dst .none) (fun u=>A u∨u=dst) (a.put (some dst) v) w':=by
  intro S2 σ1 σ2 iz h2 jE Mt agz agC afQ afU;have aA:=h1.below.size
  have lj:=h2.newOσ dst (.row T e) (.list xs) v (fun k=>decide (v.ownBlock=some k)) jE Mt agz agC hb (fun k hk=>aW.lt k (by simpa using hk)) (fun k hk=>afU k (by simpa using hk)) ⟨cells,xs,by simp[Env.setO,aG],by
        rw[aG];refine⟨aW.1,?_⟩;rcases aW.2 with e1|⟨g,cap,cur,e1,e2,e3⟩
        ·exact .inl e1
        ·exact .inr ⟨g,cap,cur,e1,by omega,e3⟩,afQ,fun k hk=>by rw[aG] at hk;simp[fD,hk]⟩
  have Vh:=lj.setObj ht (j:=dst) (v:=v) (aG _ _ _) ae;have e:(S2.newO dst (.row T e)).ver dst=S2.ver dst+1:=aG _ _ _;rw[e] at Vh;exact⟨_,_,_,Vh⟩
 have eρ:((ρ.setR dst (.list xs)).setO dst ((PE.r dst).ev (ρ.setR dst (.list xs)))).setR dst ((PE.con D.none).ev ((ρ.setR dst (.list xs)).setO dst ((PE.r dst).ev (ρ.setR dst (.list xs)))))=(ρ.setO dst (.list xs)).setR dst .none:=by
  have:∀d1 d2:D,bO (bO ρ.r dst d1) dst d2=bO ρ.r dst d2:=by
   intro d1 d2;funext i;simp only[fj];split<;>rfl
  simp[Env.setR,Env.setO,PE.ev,aG,this]
 show Good C w0 σ0 _ _ _ _ _;rw[eρ];cases hp:e.pure with
 |true=>
  simp only[cond_true];refine main h (.refl σ) (h.ok.below hb) (fun _ _ _ hx=>.inl hx) (fun _ _ hx=>.inl hx) ?_ (fun k hk=>?_)
  ·obtain⟨vs,k1,k2⟩:=iu;exact⟨vs,fun i x hx=>(k1 i x hx).pure hp,k2⟩
  ·obtain⟨f1,f2⟩:=mK k hk;refine⟨fun o=>?_,?_⟩
   ·cases hc:σ.c k o with
    |none=>rfl
    |some x=>have:=hle.c _ _ _ (lf.c _ _ _ hc);rw[f1 o] at this;cases this
   ·cases hc:σ.m k with
    |none=>rfl
    |some x=>have:=hle.m _ _ (lf.m _ _ hc);rw[f2] at this;cases this
 |false=>
  simp only[cond_false];exact main h1 hle ax cX cY iu mK
theorem acM (h:Inv C S ρ σ own hv w0 σ0 A a w)(hC:CtxOK C σ0)(aP:dY C)(hΦ:dF C Φ)(ht:¬A dst)(ae:dst<a.tmps.size){f:Nat}{args:Array Operand}{ts:Array TypeId}{r:St×List PI}
 (hr:Bc C S dst f args.toList=some r) {o:Oper} (hd:o.dst=some dst) (ho:o.op=.call {callee:=.value (.func f),args:=args,argTypes:=ts}):bP C w0 σ0 Φ S ρ A a w o r:=by
 simp only[Bc,ao] at hr;obtain⟨s,hs,hr⟩:=hr;split at hr
 case h_2=>cases hr
 rename_i l kD;simp only[ao] at hr;obtain⟨u,hu,hr⟩:=hr;cases bI:(Ty.subs u.1 s.args&&Nat.blt dst 4096)<;>simp only[bI,cond_true,cond_false] at hr
 ·cases hr
 cases hr;simp only[aj,ia] at bI;obtain⟨bI,qf⟩:=bI;intro ρ' af K Q hK;have B3:holds ([]:List (Nat×Bool)) ρ=true:=rfl;simp only[PI.runs,PI.run,B3,cond_true,ao,av] at af;obtain⟨ρ1,⟨d,ba,rfl⟩,af⟩:=af;have hfn:=(hΦ f _ d ba s hs).1 (by rw[kD];rfl);obtain⟨σ1,dv,lf,h1⟩:=Inv.fzs (bJ S [] args.toList) h;generalize S.fzs (bJ S [] args.toList)=S1 at hu h1 hK ⊢;have jH:args.map a.eval=(args.toList.map a.eval).toArray:=by apply qL;rw[uO]
 refine AR hd (D7 aP hs ho) ?_;rw[jH];have oG:=hfn σ1 w (args.toList.map a.eval).toArray h1.ok (hC.mono h1.le) (by simpa using Ai h1 hC rfl hu bI);refine oG.mono fun e' w' hh=>?_;obtain⟨v,σ',rfl,hle,ax,hb,cX,cY,eJ⟩:=hh;simp only[lJ,kD] at eJ;obtain⟨vs,ds,ow,rfl,rfl,l1,l2,dS,rE⟩:=eJ;refine hK _ _ ?_ (size_put _ _ _);have gD:(fun u=>A u∨o.dst=some u)=(fun u=>A u∨u=dst):=by funext u;rw[hd];simp[eq_comm]
 rw[gD];obtain⟨r1,r2,r3⟩:=OR Φ dst l 0 _ ρ' af;simp only[eW] at r2 r3;have Zc:(ρ.setR dst (.agg ds)).r dst=.agg ds:=aG _ _ _;rw[Zc] at r3;have aA:=h1.below.size
 let W:Nat→Prop:=fun j=>∃x,iI dst l j=some x
 let own':Nat→Option Nat:=fun k=>match ow k with
  |some i=>some (gj dst i)
  |none=>match dv k with
   |some j=>match iI dst l j with|some _=>none|none=>some j
   |none=>none
 let hv':Nat→Value:=fun j=>match iI dst l j with|some x=>vs.getD x.1 undef|none=>hv j
 have Mk:∀j,¬W j→iI dst l j=none:=fun j hj=>by
  cases e:iI dst l j with
  |none=>rfl
  |some x=>exact absurd ⟨x,e⟩ hj
 have fK:∀j,¬W j→ρ'.o j=ρ.o j:=fun j hj=>r2 j fun n T e hn e1=>hj ⟨(n,T,e),by rw[e1];exact YN qf hn⟩
 have B8:∀k j,dv k=some j→ow k=none:=fun k j hk=>by
  cases e:ow k with
  |none=>rfl
  |some i=>have:=rE k i e;have:=h1.owns k j hk;omega
 have qe:Compat S1 hv ((S1.newRows dst l).setR dst (.agg (mZ S1 dst l 0))) hv':=⟨fun j=>by
  show S1.ver j≤(match iI dst l j with|some _=>S1.ver j+1|none=>S1.ver j);split
  ·exact Nat.le_succ _
  ·exact aU _,fun j e=>by
  have e:(match iI dst l j with|some _=>S1.ver j+1|none=>S1.ver j)=S1.ver j:=e;show(match iI dst l j with|some x=>vs.getD x.1 undef|none=>hv j)=hv j;cases hj:iI dst l j with
  |none=>rfl
  |some x=>rw[hj] at e;simp only at e;omega⟩
 refine⟨σ',own',hv',?_⟩
 refine h1.step (w':=w') W rfl hle ax (fun k o x hx=>(cX k o x hx).imp id fun e=>⟨by omega,.inr e⟩) (fun k x hx=>(cY k x hx).imp id fun e=>⟨by omega,.inr e⟩) (hb.mono aA) qe
  (fun j hj=>⟨?_,fK j hj,?_,fun k hk=>⟨?_,hb.block k (h1.owns k j hk).2.1⟩⟩) (fun j hj=>?_) (fun k i hk=>?_) (fun _=>.inl) (fun t=>?_) (fun t hA=>?_) (fun k hk _=>hb.block k hk) (fun k i hk=>?_) (fun j hj=>?_)
 ·show(match iI dst l j with|some x=>Ob.row x.2.1 x.2.2|none=>S1.o j)=S1.o j;rw[Mk j hj]
 ·show(match iI dst l j with|some x=>vs.getD x.1 undef|none=>hv j)=hv j;rw[Mk j hj]
 ·show own' k=some j;simp only[own',B8 k j hk,hk,Mk j hj]
 ·obtain⟨⟨i,T,e⟩,hx⟩:=hj;obtain⟨rfl,hi⟩:=ak4 hx;show cn C _ ρ' σ' own' hv' w' w0.heap.size (gj dst i) (match iI dst l (gj dst i) with|some x=>Ob.row x.2.1 x.2.2|none=>S1.o (gj dst i));rw[hx];obtain⟨cells,xs,g1,g2,g3,g4⟩:=dS i _ hi;have e2:hv' (gj dst i)=vs.getD i undef:=by simp only[hv',hx]
  refine⟨cells,xs,?_,?_,g3,fun k hk=>?_⟩
  ·rw[r3 i T e hi];simpa [D.c,D.cells] using g1
  ·rw[e2];refine⟨g2.1,?_⟩;rcases g2.2 with e1|⟨g,cap,cur,e1,e3,e4⟩
   ·exact .inl e1
   ·exact .inr ⟨g,cap,cur,e1,by omega,e4⟩
  ·rw[e2] at hk;simp only[own',g4 k hk]
 ·simp only[own'] at hk;split at hk
  ·rename_i i' cv;have:=rE k i' cv;exact⟨by omega,this.2.1,this.2.2.1,this.2.2.2⟩
  ·split at hk
   ·rename_i j hj;obtain⟨g1,g2,g3,g4⟩:=h1.owns k j hj;refine⟨g1,by have:=hb.size;omega,fun o=>?_,?_⟩
    ·cases hc:σ'.c k o with
     |none=>rfl
     |some x=>rcases cX k o x hc with e|e
              ·rw[g3 o] at e;cases e
              ·omega
    ·cases hc:σ'.m k with
     |none=>rfl
     |some x=>rcases cY k x hc with e|e
              ·rw[g4] at e;cases e
              ·omega
   ·cases hk
 ·by_cases hu:t=dst
  ·subst hu;refine .inr ⟨?_,fun gs s e=>?_⟩
   ·rw[wS];have e3:ρ'.r t=.agg ds:=by rw[r1];exact Zc
    simp only[St.setR,aG,ae,and_self,if_true,e3];obtain⟨q1,q2⟩:=YO S1 t l 0;refine⟨vs,ds,rfl,rfl,by omega,by omega,fun i c hc=>?_⟩;rcases q2 i c hc with⟨ty,hl,rfl⟩|⟨T,e,hl,rfl⟩
    ·exact dS i _ hl
    ·rw[eW];have hx:=YN qf hl;refine⟨?_,fun _=>?_⟩
     ·show S1.ver (gj t i)+1≤(match iI t l (gj t i) with|some _=>S1.ver (gj t i)+1|none=>S1.ver (gj t i));rw[hx];exact aU _
     ·simp only[hv',hx]
   ·simp only[St.setR,aG] at e;cases e
  ·refine .inl ⟨bf _ _ hu,?_,?_⟩
   ·rw[wS];simp[hu]
   ·rw[r1];exact bf _ _ hu
 ·rw[r1];exact bf _ _ (fun e=>ht (e▸hA))
 ·simp only[own'] at hk;split at hk
  ·rename_i i' cv;exact .inr (rE k i' cv).1
  ·split at hk
   ·rename_i j hj;exact .inl ⟨j,hj⟩
   ·cases hk
 ·obtain⟨x,hx⟩:=hj;show(match iI dst l j with|some x=>Ob.row x.2.1 x.2.2|none=>S1.o j)≠.tr;rw[hx];intro e;cases e
theorem acI (h:Inv C S ρ σ own hv w0 σ0 A a w)(hC:CtxOK C σ0)(aP:dY C)(hΦ:dF C Φ)(ht:¬A dst)(ae:dst<a.tmps.size){f:Nat}{args:Array Operand}{ts:Array TypeId}{r:St×List PI}
 (hr:Ba C S dst f args.toList=some r) {o:Oper} (hd:o.dst=some dst) (ho:o.op=.call {callee:=.value (.func f),args:=args,argTypes:=ts}):bP C w0 σ0 Φ S ρ A a w o r:=by
 simp only[Ba,ao] at hr;obtain⟨s,hs,hr⟩:=hr;split at hr
 case h_2=>cases hr
 rename_i shs obs x xs kD il;split at hr
 case h_2=>cases hr
 rename_i m j ver lg eu;split at hr
 case h_2=>cases hr
 rename_i T e eo;cases hb:(Nat.beq ver (S.ver j)&&(Nat.beq T m.1&&Ty.beq e m.2.1))<;>simp only[hb,cond_true,cond_false] at hr
 ·cases hr
 simp only[aj] at hb;have dC:=au hb.1;have hT:=au hb.2.1;have he:=Ty.beq_eq _ _ hb.2.2;simp only[ao] at hr;obtain⟨u,hu,hr⟩:=hr;cases bI:Ty.subs u.1 m.2.2<;>simp only[bI,cond_true,cond_false] at hr
 ·cases hr
 cases hr;intro ρ' af K Q hK;have B3:holds ([]:List (Nat×Bool)) ρ=true:=rfl;simp only[PI.runs,PI.run,B3,cond_true,ao,av] at af;obtain⟨ρ1,⟨d,ba,rfl⟩,ρ2,g2,ρ3,g3,g4⟩:=af;cases g2;cases g3;cases g4;have hfn:=(hΦ f _ d ba s hs).2 shs obs kD;unfold gx at hfn;rw[lg] at hfn;simp only at hfn;rw[←hT,←he] at hfn;have cj:=(qF h (gs:=[]) rfl x).1;rw[eu] at cj;have cj:=cj.2 dC;have aV:=h.objs j;rw[eo] at aV;obtain⟨cells,ys,h1,h2,h3,h4⟩:=aV;have jH:args.map a.eval=(a.eval x::xs.map a.eval).toArray:=by apply qL;rw[uO,il];rfl
 refine AR hd (D7 aP hs ho) ?_;rw[jH,cj];have aA:=h.below.size
 have oG:=hfn w0.heap.size σ w (hv j) (xs.map a.eval) ys cells (PE.evs ρ u.2) (by simp[PE.evs,PE.ev,h1]) h.ok (hC.mono h.le) aA h2 h3 (fun k hk=>by
  have:=h.owns k j (h4 k hk);exact this.2) (Ai h hC rfl hu bI)
 refine oG.mono fun e' w' hh=>?_;obtain⟨v',ka,dp,rfl,rfl,BP,B8,agR,afP,Ux⟩:=hh;refine hK _ _ ?_ (size_put _ _ _);have gD:(fun u=>A u∨o.dst=some u)=(fun u=>A u∨u=dst):=by funext u;rw[hd];simp[eq_comm]
 rw[gD]
 have M0:=h.updO j (.row T e) (.list ka) v' (fun k=>decide (v'.ownBlock=some k)) BP (fun k hk az=>B8 k hk (fun e=>az (h4 k e))) (fun k hk=>by
  have bU:v'.ownBlock=some k:=by simpa using hk
  exact⟨(Ux k bU).1.imp (h4 k) id,(Ux k bU).2⟩)
  ⟨dp,ka,by simp[Env.setO,aG],by rw[aG];exact agR,afP,fun k hk=>by rw[aG] at hk;simp[fD,hk]⟩
 have h9:=M0.setObj ht (j:=j) (v:=v') (aG _ _ _) ae;have e1:(S.newO j (.row T e)).ver j=S.ver j+1:=aG _ _ _;rw[e1] at h9;have eρ:((ρ.setR dst (.list ka)).setO j ((PE.r dst).ev (ρ.setR dst (.list ka)))).setR dst ((PE.con D.none).ev ((ρ.setR dst (.list ka)).setO j ((PE.r dst).ev (ρ.setR dst (.list ka)))))=(ρ.setO j (.list ka)).setR dst .none:=by
  have:∀d1 d2:D,bO (bO ρ.r dst d1) dst d2=bO ρ.r dst d2:=by
   intro d1 d2;funext i;simp only[fj];split<;>rfl
  simp[Env.setR,Env.setO,PE.ev,aG,this]
 show Good C w0 σ0 _ _ _ _ _;rw[eρ];exact⟨_,_,_,h9⟩
end
def gY:Nat:=1000000013
abbrev m7:=Sh×Option (Ty×PE)
def EO (C:Ctx)(S:St)(x:Operand):m7:=(eU S [] x,use C S [] x)
def S5 (c:Nat×Nat):m7:=(.ptr c.1 c.2 0,none)
def cE:List Nat→List Nat→Nat→Option Nat
 |i::is,j::js,k=>bif Nat.beq i k then some j else cE is js k
 |_,_,_=>none
def akl:Sh→Sh→List (Nat×Nat)
 |.obj i _,.obj j _=>[(i,j)]
 |.ptr i _ _,.ptr j _ _=>[(i,j)]
 |.fclo _ a,.fclo _ b=>(a.zip b).map fun x=>(x.1.1,x.2.1)
 |_,_=>[]
def Oe:List Sh→List Sh→List (Nat×Nat)
 |a::aa,b::bs=>akl a b++Oe aa bs
 |_,_=>[]
def akk:Ob→Ob→List (Nat×Nat)
 |.box _ a,.box _ b=>Oe a b
 |_,_=>[]
def Wd:List (Nat×Nat)→Nat→Nat
 |[],_=>gY
 |x::l,i=>bif Nat.beq x.1 i then x.2 else Wd l i
def ajb (S:St)(obs:List (Nat×Ob))(p:List (Nat×Nat)):List (Nat×Nat):=p++p.flatMap fun x=>akk (eA obs x.1) (S.o x.2)
def TH (S:St)(shs:List Sh)(obs:List (Nat×Ob))(acts:List m7):List Nat:=obs.map fun o=>Wd (ajb S obs (Oe shs (acts.map (·.1)))) o.1
section
variable (ver:Nat→Nat) (is js:List Nat)
def D4:List (Nat×Nat)→Option (List (Nat×Nat))
 |[]=>some []
 |x::l=>bif Nat.beq x.2 0 then(cE is js x.1).bind fun j=>(D4 l).map fun r=>(j,ver j)::r else none
def j5:Sh→Option Sh
 |.dat t=>some (.dat t)
 |.none=>some .none
 |.obj i v=>bif Nat.beq v 0 then(cE is js i).map fun j=>.obj j (ver j) else none
 |.ptr i v off=>bif Nat.beq v 0 then(cE is js i).map fun j=>.ptr j (ver j) off else none
 |.fclo f caps=>(D4 ver is js caps).map (.fclo f)
 |_=>none
def D5:List Sh→Option (List Sh)
 |[]=>some []
 |s::l=>(j5 ver is js s).bind fun a=>(D5 l).map (a::·)
def pB:Ob→Option Ob
 |.row T e=>some (.row T e)
 |.mp a b=>some (.mp a b)
 |.box ag shs=>(D5 ver is js shs).map (.box ag)
 |_=>none
end
def Bt (c:Sh):Sh→Bool
 |.none=>true
 |.dat b=>match c with|.dat a=>Ty.sub a b|_=>false
 |x=>Sh.beq c x
def yq:List Sh→List Sh→Bool
 |[],[]=>true
 |a::aa,b::bs=>Bt a b&&yq aa bs
 |_,_=>false
def yp:Ob→Ob→Bool
 |.box x a,.box y b=>(x==y)&&yq a b
 |.row T a,.row U b=>Nat.beq T U&&Ty.beq a b
 |.mp a b,.mp c d=>Ty.beq a c&&Ty.beq b d
 |_,_=>false
def p8 (S:St)(is js:List Nat):List (Nat×Ob)→List Nat→Bool
 |[],[]=>true
 |o::obs,j::jl=>(match pB S.ver is js o.2 with|some x=>yp (S.o j) x|none=>false)&&p8 S is js obs jl
 |_,_=>false
def Bs (S:St)(is js:List Nat)(a:m7)(s:Sh):Option PE:=
 match s with
 |.dat t=>(match a.2 with|some x=>bif Ty.sub x.1 t then some x.2 else none|none=>none)
 |.none=>some (.con .none)
 |s=>(match j5 S.ver is js s with|some x=>bif Sh.beq a.1 x then some (.con .none) else none|none=>none)
def sW (S:St)(is js:List Nat):List m7→List Sh→Option (List PE)
 |[],[]=>some []
 |a::aa,s::ss=>(Bs S is js a s).bind fun e=>(sW S is js aa ss).map (e::·)
 |_,_=>none
def ou:List Sh→List Nat
 |[]=>[]
 |.obj i _::l=>i::ou l
 |.ptr i _ _::l=>i::ou l
 |.fclo _ c::l=>c.map (·.1)++ou l
 |_::l=>ou l
def aH (l:List Nat)(x:Nat):Bool:=l.any (Nat.beq x)
def uJ (ver:Nat→Nat)(shs:List Sh)(is js:List Nat):Nat→Nat:=fun j=>match cE js is j with|some i=>bif aH (ou shs) i then ver j else ver j+1|none=>ver j
def St.handed (S:St)(shs:List Sh)(obs:List (Nat×Ob))(is js:List Nat):St:=
 ⟨S.r,fun j=>match cE js is j with|some i=>(match pB (uJ S.ver shs is js) is js (eA obs i) with|some o=>o|none=>.dead)|none=>S.o j,uJ S.ver shs is js⟩
def yu (S:St):List Operand→List Sh→List Nat
 |x::xs,s::ss=>(bif mS s then bJ S [] [x] else[])++yu S xs ss
 |_,_=>[]
def Eb:List Nat→Nat→List PI
 |[],_=>[]
 |j::js,k=>.setO j (.tget (.o gY) k)::Eb js (k+1)
def KS (S:St)(res:Ty)(f:Nat)(shs:List Sh)(obs:List (Nat×Ob))(acts:List m7)(is js:List Nat):Option (St×Ty×List PI):=
 (sW S is js acts shs).bind fun es=>
    bif wx shs obs&&(gp is&&gp js&&p8 S is js obs js&&nJ (S.o gY)&& !aH js gY) then some (S.handed shs obs is js,res,.mcall gY f (es++js.map .o)::Eb js 1) else none
def KT (C:Ctx)(S:St)(res:Ty)(f:Nat)(shs:List Sh)(obs:List (Nat×Ob))(acts:List m7):Option (St×Ty×List PI):=
 KS S res f shs obs acts (obs.map (·.1)) (TH S shs obs acts)
def pZ (C:Ctx)(S:St)(f:Nat)(args:List Operand)(caps:List (Nat×Nat)):Option (St×Ty×List PI):=
 (C.sig f).bind fun s=>
    match s.mode with
    |.ob shs obs=>KT C (S.fzs (yu S args shs)) s.res f shs obs (args.map (EO C (S.fzs (yu S args shs)))++caps.map S5)
    |_=>none
theorem VG {l:List Nat}{x:Nat}:aH l x=true↔x∈l:=by
 unfold aH;rw[uT];exact⟨fun⟨y,hy,h⟩=>by rw[au h];exact hy,fun h=>⟨x,h,gL x⟩⟩
theorem V8:∀{is js:List Nat} {i j:Nat},cE is js i=some j→∃k:Nat,is[k]?=some i∧js[k]?=some j
 |[],_,i,j,h=>by cases h
 |_::_,[],i,j,h=>by cases h
 |x::is,y::js,i,j,h=>by
  simp only[cE] at h;cases hb:Nat.beq x i<;>simp only[hb,cond_true,cond_false] at h
  ·obtain⟨k,h1,h2⟩:=V8 h;exact⟨k+1,h1,h2⟩
  ·cases h;exact⟨0,by rw[au hb];rfl,rfl⟩
theorem HB:∀{is js:List Nat} {i j k:Nat},is.Nodup→is[k]?=some i→js[k]?=some j→cE is js i=some j
 |[],_,i,j,k,_,h,_=>by simp at h
 |_::_,[],i,j,k,_,_,h=>by simp at h
 |x::is,y::js,i,j,k,hn,h1,h2=>by
  simp only[cE];cases k with
  |zero=>simp at h1 h2;subst h1 h2;rw[gL];rfl
  |succ k=>
   simp at h1 h2;have az:x≠i:=fun e=>by subst e;exact(mB.1 hn).1 (jO h1)
   rw[eX az];exact HB (mB.1 hn).2 h1 h2
theorem HD {is js:List Nat}(h2:js.Nodup){i j:Nat}(h:cE is js i=some j):cE js is j=some i:=by
 obtain⟨k,g1,g2⟩:=V8 h;exact HB h2 g2 g1
theorem ah7 (obs:List (Nat×Ob))(f:Nat→D):∀{is js:List Nat} {i j:Nat},is=obs.map (·.1)→cE is js i=some j→mV obs (js.map f) i=f j:=by
 induction obs with
 |nil=>intro is js i j h1 h2;subst h1;cases h2
 |cons x l ih=>
  intro is js i j h1 h2;subst h1;cases js with
  |nil=>cases h2
  |cons y js=>
   simp only[gz,cE] at h2;simp only[gz,mV];cases hb:Nat.beq x.1 i<;>simp only[hb,cond_true,cond_false] at h2 ⊢
   ·exact ih rfl h2
   ·cases h2;rfl
theorem V5:∀{obs:List (Nat×Ob)} {js:List Nat} {os:List D} {i j:Nat},os.length=obs.length→cE (obs.map (·.1)) js i=some j→∃k:Nat,js[k]?=some j∧mV obs os i=os.getD k .none
 |[],_,_,i,j,_,h=>by cases h
 |_::_,[],_,i,j,_,h=>by cases h
 |_::_,_::_,[],i,j,hl,h=>by simp at hl
 |x::obs,y::js,o::os,i,j,hl,h=>by
  simp only[gz,cE] at h;simp only[mV];cases hb:Nat.beq x.1 i<;>simp only[hb,cond_true,cond_false] at h ⊢
  ·obtain⟨k,h1,h2⟩:=V5 (obs:=obs) (js:=js) (os:=os) (by simpa using hl) h;exact⟨k+1,h1,by simpa using h2⟩
  ·cases h;exact⟨0,rfl,rfl⟩
theorem Wb:∀{obs:List (Nat×Ob)} {js:List Nat} {i:Nat},js.length=obs.length→cE (obs.map (·.1)) js i=none→eA obs i=.dead
 |[],_,i,_,_=>rfl
 |x::obs,[],i,hl,h=>by simp at hl
 |x::obs,y::js,i,hl,h=>by
  simp only[gz,cE] at h;simp only[eA];cases hb:Nat.beq x.1 i<;>simp only[hb,cond_true,cond_false] at h ⊢
  ·exact Wb (by simpa using hl) h
  ·cases h
theorem TO {S:St}{is js:List Nat}:∀{obs:List (Nat×Ob)} {jl:List Nat},p8 S is js obs jl=true→jl.length=obs.length
 |[],[],_=>rfl
 |[],_::_,h=>by simp[p8] at h
 |_::_,[],h=>by simp[p8] at h
 |o::obs,j::jl,h=>by simp only[p8,aj] at h;simp[TO h.2]
theorem TN {S:St}{is js:List Nat}:∀{obs:List (Nat×Ob)} {jl:List Nat},p8 S is js obs jl=true→∀{i j:Nat},cE (obs.map (·.1)) jl i=some j→∃x,pB S.ver is js (eA obs i)=some x∧yp (S.o j) x=true
 |[],_,_,i,j,h=>by cases h
 |_::_,[],_,i,j,h=>by cases h
 |o::obs,y::jl,hf,i,j,h=>by
  simp only[p8,aj] at hf;simp only[gz,cE] at h;simp only[eA];cases hb:Nat.beq o.1 i<;>simp only[hb,cond_true,cond_false] at h ⊢
  ·exact TN hf.2 h
  ·cases h;have h1:=hf.1;split at h1
   ·rename_i x hx;exact⟨x,hx,h1⟩
   ·cases h1
theorem TP:∀{a b:List Sh},yq a b=true→a.length=b.length∧∀(i:Nat) (y:Sh),b[i]?=some y→∃x,a[i]?=some x∧Bt x y=true
 |[],[],_=>⟨rfl,fun i y h=>by simp at h⟩
 |[],_::_,h=>by simp[yq] at h
 |_::_,[],h=>by simp[yq] at h
 |a::aa,b::bs,h=>by
  simp only[yq,aj] at h;obtain⟨g1,g2⟩:=TP h.2;refine⟨by simp[g1],fun i y hy=>?_⟩;cases i with
  |zero=>simp at hy;subst hy;exact⟨a,rfl,h.1⟩
  |succ i=>simp at hy;simpa using g2 i y hy
theorem Py {ver:Nat→Nat}{is js:List Nat}:∀{a b:List Sh},D5 ver is js a=some b→b.length=a.length∧∀(i:Nat) (x:Sh),a[i]?=some x→∃y,b[i]?=some y∧j5 ver is js x=some y
 |[],b,h=>by simp only[D5,aO] at h;subst h;exact⟨rfl,fun i x h=>by simp at h⟩
 |s::l,b,h=>by
  simp only[D5,ao,av] at h;obtain⟨y,hy,r,hr,rfl⟩:=h;obtain⟨g1,g2⟩:=Py hr;refine⟨by simp[g1],fun i x hx=>?_⟩;cases i with
  |zero=>simp at hx;subst hx;exact⟨y,rfl,hy⟩
  |succ i=>simp at hx;simpa using g2 i x hx
theorem IY {ver:Nat→Nat}{is js:List Nat}:∀{a b:List (Nat×Nat)},D4 ver is js a=some b→b.length=a.length∧∀(i x v:Nat),a[i]?=some (x,v)→∃j,b[i]?=some (j,ver j)∧cE is js x=some j∧v=0
 |[],b,h=>by simp only[D4,aO] at h;subst h;exact⟨rfl,fun i x v h=>by simp at h⟩
 |s::l,b,h=>by
  simp only[D4] at h;cases hb:Nat.beq s.2 0<;>simp only[hb,cond_true,cond_false] at h
  ·cases h
  simp only[ao,av] at h;obtain⟨y,hy,r,hr,rfl⟩:=h;obtain⟨g1,g2⟩:=IY hr;refine⟨by simp[g1],fun i x v hx=>?_⟩;cases i with
  |zero=>simp at hx;subst hx;exact⟨y,rfl,hy,au hb⟩
  |succ i=>simp at hx;simpa using g2 i x v hx
theorem Px {ver:Nat→Nat}{is js:List Nat}{s x:Sh}(h:j5 ver is js s=some x):(∀gs s',s≠.opt gs s')∧∀gs s',x≠.opt gs s':=by
 cases s<;>simp only[j5] at h
 case none=>cases h;exact⟨(fun _ _ e=>by cases e),(fun _ _ e=>by cases e)⟩
 case dat=>cases h;exact⟨(fun _ _ e=>by cases e),(fun _ _ e=>by cases e)⟩
 case obj i v=>
  cases hb:Nat.beq v 0<;>simp only[hb,cond_true,cond_false] at h
  ·cases h
  simp only[av] at h;obtain⟨j,_,rfl⟩:=h;exact⟨(fun _ _ e=>by cases e),(fun _ _ e=>by cases e)⟩
 case ptr i v off=>
  cases hb:Nat.beq v 0<;>simp only[hb,cond_true,cond_false] at h
  ·cases h
  simp only[av] at h;obtain⟨j,_,rfl⟩:=h;exact⟨(fun _ _ e=>by cases e),(fun _ _ e=>by cases e)⟩
 case fclo f caps=>
  simp only[av] at h;obtain⟨j,_,rfl⟩:=h;exact⟨(fun _ _ e=>by cases e),(fun _ _ e=>by cases e)⟩
 all_goals cases h
section
variable {C:Ctx} {S S1:St} {ρ ρ1:Env} {σ σ1:Im} {own dv:Nat→Option Nat} {hv aL:Nat→Value} {w0:World} {σ0:Base} {A:Nat→Prop} {a:Act} {w w1:World} {Φ:aR} {dst:Nat}
 {is js:List Nat} {shs:List Sh} {obs:List (Nat×Ob)} {ρf:Env}
theorem Zl (hσ:Im.leR C.cap σ σ1){eP:Nat→Value}(fL:∀i j,cE is js i=some j→eP i=hv j){s x:Sh}(hr:j5 S.ver is js s=some x){v:Value}{d:D}(h:aC C S ρ σ hv x v d):aC C (fN shs obs) ρf σ1 eP s v d:=by
 cases s<;>simp only[j5] at hr
 case none=>trivial
 case dat=>cases hr;exact hσ.rep h
 case obj i ver=>
  cases hb:Nat.beq ver 0<;>simp only[hb,cond_true,cond_false] at hr
  ·cases hr
  simp only[av] at hr;obtain⟨j,hj,rfl⟩:=hr;exact⟨by rw[au hb];exact nf _,fun _=>by rw[fL i j hj];exact h.2 rfl⟩
 case ptr i ver off=>
  cases hb:Nat.beq ver 0<;>simp only[hb,cond_true,cond_false] at hr
  ·cases hr
  simp only[av] at hr;obtain⟨j,hj,rfl⟩:=hr;exact⟨by rw[au hb];exact nf _,fun _=>by rw[fL i j hj];exact h.2 rfl⟩
 case fclo f caps=>
  simp only[av] at hr;obtain⟨c,hc,rfl⟩:=hr;obtain⟨g1,g2⟩:=IY hc;obtain⟨vs,h1,h2,h3⟩:=h;refine⟨vs,h1,by omega,fun i x ver hi=>?_⟩;obtain⟨j,e1,e2,e3⟩:=g2 i x ver hi;exact⟨by rw[e3];exact nf _,fun _=>by rw[fL x j e2];exact(h3 i j _ e1).2 rfl⟩
 all_goals cases hr
theorem alp (hσ:σ.le σ1){eP:Nat→Value}(fL:∀i j,cE is js i=some j→eP i=aL j){s x:Sh}(hr:j5 S1.ver is js s=some x){v:Value}{d:D}(h:aC C (fN shs obs) ρf σ eP s v d):aC C S1 ρ1 σ1 aL x v d:=by
 cases s<;>simp only[j5] at hr
 case none=>cases hr;trivial
 case dat=>cases hr;exact Rep.mono hσ h
 case obj i ver=>
  cases hb:Nat.beq ver 0<;>simp only[hb,cond_true,cond_false] at hr
  ·cases hr
  simp only[av] at hr;obtain⟨j,hj,rfl⟩:=hr;exact⟨aU _,fun _=>by rw[←fL i j hj];exact h.2 (au hb)⟩
 case ptr i ver off=>
  cases hb:Nat.beq ver 0<;>simp only[hb,cond_true,cond_false] at hr
  ·cases hr
  simp only[av] at hr;obtain⟨j,hj,rfl⟩:=hr;exact⟨aU _,fun _=>by rw[←fL i j hj];exact h.2 (au hb)⟩
 case fclo f caps=>
  simp only[av] at hr;obtain⟨c,hc,rfl⟩:=hr;obtain⟨g1,g2⟩:=IY hc;obtain⟨vs,h1,h2,h3⟩:=h;refine⟨vs,h1,by omega,fun i j ver hi=>?_⟩;have ae:i<caps.length:=by have:=(dZ.1 hi).1;omega
  obtain⟨j',e1,e2,e3⟩:=g2 i _ _ (bo ae);rw[hi] at e1;cases e1;exact⟨aU _,fun _=>by rw[←fL _ j e2];exact(h3 i _ _ (bo ae)).2 e3⟩
 all_goals cases hr
theorem adH {c x:Sh}(hf:Bt c x=true){v:Value}{d:D}(h:aC C S ρ σ hv c v d):aC C S ρ σ hv x v d:=by
 cases x with
 |none=>trivial
 |dat b=>
  simp only[Bt] at hf;split at hf
  ·exact Rep.sub h hf
  ·cases hf
 |_=>simp only[Bt] at hf;rw[Sh.beq_eq _ _ hf] at h;exact h
theorem ajB (hσ:Im.leR C.cap σ σ1){eP:Nat→Value}{C7:Nat→Option Nat}(fL:∀i j,cE is js i=some j→eP i=hv j)(aW:∀k j i,own k=some j→cE js is j=some i→C7 k=some i)(be:js.Nodup){i j N:Nat}(cq:cE is js i=some j)(hρ:ρf.o i=ρ.o j){ob x:Ob}
 (hr:pB S.ver is js ob=some x) (hf:yp (S.o j) x=true) (h:cn C S ρ σ own hv w N j (S.o j)):cn C (fN shs obs) ρf σ1 C7 eP w N i ob:=by
 have eO:=HD be cq;cases ob<;>simp only[pB] at hr
 case row T e=>
  cases hr;cases ho:S.o j<;>rw[ho] at hf h<;>simp only[yp,aj] at hf<;>try (cases hf;done)
  obtain⟨cells,xs,h1,h2,h3,h4⟩:=h;rw[au hf.1,Ty.beq_eq _ _ hf.2] at*;exact⟨cells,xs,by rw[hρ];exact h1,by rw[fL i j cq];exact h2,h3.monoR hσ,fun k hk=>aW k j i (h4 k (by rw[←fL i j cq];exact hk)) eO⟩
 case mp kt et=>
  cases hr;cases ho:S.o j<;>rw[ho] at hf h<;>simp only[yp,aj] at hf<;>try (cases hf;done)
  obtain⟨k,arr,clock,es,h1,h2,h3,h4,h5,h6,h7⟩:=h;rw[Ty.beq_eq _ _ hf.1,Ty.beq_eq _ _ hf.2] at*;exact⟨k,arr,clock,es,by rw[fL i j cq];exact h1,aW k j i h2 eO,h3,by rw[hρ];exact h4,h5,h6,fun n e p he hp=>⟨hσ.rep (h7 n e p he hp).1,hσ.rep (h7 n e p he hp).2⟩⟩
 case box ag cs=>
  simp only[av] at hr;obtain⟨cs',dA,rfl⟩:=hr;cases ho:S.o j<;>rw[ho] at hf h<;>simp only[yp,aj] at hf<;>try (cases hf;done)
  obtain⟨k,vs,T,ds,h1,h2,h3,h4,h5,h6,h7⟩:=h;obtain⟨l1,g1⟩:=TP hf.2;obtain⟨l2,g2⟩:=Py dA;refine⟨k,vs,T,ds,by rw[fL i j cq];exact h1,aW k j i h2 eO,h3,by omega,by rw[hρ];exact h5,by omega,fun n s hs=>?_⟩;obtain⟨y,hy,CB⟩:=g2 n s hs;obtain⟨z,hz,rz⟩:=g1 n y hy;exact⟨(Px CB).1,Zl hσ fL CB (adH rz (h7 n z hz).2)⟩
 all_goals cases hr
theorem ajC (hσ:σ.le σ1){eP:Nat→Value}{C7:Nat→Option Nat}(fL:∀i j,cE is js i=some j→eP i=aL j)(aW:∀k i j,C7 k=some i→cE is js i=some j→dv k=some j){i j N:Nat}(cq:cE is js i=some j)(hρ:ρ1.o j=ρf.o i){ob x:Ob}
 (hr:pB S1.ver is js ob=some x) (h:cn C (fN shs obs) ρf σ C7 eP w N i ob):cn C S1 ρ1 σ1 dv aL w N j x:=by
 cases ob<;>simp only[pB] at hr
 case row T e=>
  cases hr;obtain⟨cells,xs,h1,h2,h3,h4⟩:=h;exact⟨cells,xs,by rw[hρ];exact h1,by rw[←fL i j cq];exact h2,h3.mono hσ,fun k hk=>aW k i j (h4 k (by rw[fL i j cq];exact hk)) cq⟩
 case mp kt et=>
  cases hr;obtain⟨k,arr,clock,es,h1,h2,h3,h4,h5,h6,h7⟩:=h;exact⟨k,arr,clock,es,by rw[←fL i j cq];exact h1,aW k i j h2 cq,h3,by rw[hρ];exact h4,h5,h6,fun n e p he hp=>⟨(h7 n e p he hp).1.mono hσ,(h7 n e p he hp).2.mono hσ⟩⟩
 case box ag cs=>
  simp only[av] at hr;obtain⟨cs',dA,rfl⟩:=hr;obtain⟨k,vs,T,ds,h1,h2,h3,h4,h5,h6,h7⟩:=h;obtain⟨l2,g2⟩:=Py dA;refine⟨k,vs,T,ds,by rw[←fL i j cq];exact h1,aW k i j h2 cq,h3,by omega,by rw[hρ];exact h5,by omega,fun n s hs=>?_⟩;have ae:n<cs.length:=by have:=(dZ.1 hs).1;omega
  obtain⟨y,hy,CB⟩:=g2 n _ (bo ae);rw[hs] at hy;cases hy;exact⟨(Px CB).2,alp hσ fL CB (h7 n _ (bo ae)).2⟩
 all_goals cases hr
theorem alo {ver:Nat→Nat}{ob x:Ob}(hr:pB ver is js ob=some x):x≠.tr:=by
 cases ob<;>simp only[pB] at hr
 case row=>cases hr;intro e;cases e
 case mp=>cases hr;intro e;cases e
 case box=>
  simp only[av] at hr;obtain⟨_,_,rfl⟩:=hr;intro e;cases e
 all_goals cases hr
theorem CtxOK.noM (h:CtxOK C σ):CtxOK C σ.noM:=⟨fun g x hx=>(h.glob g x hx).noM⟩
def Ep (C:Ctx)(S:St)(ρ:Env)(σ:Im)(hv:Nat→Value)(x:m7)(v:Value)(d:D):Prop:=aC C S ρ σ hv x.1 v d∧∀y,x.2=some y→Rep C.cap σ y.1 v (y.2.ev ρ)
theorem TL:∀{acts:List m7} {shs:List Sh} {es:List PE},sW S is js acts shs=some es→acts.length=shs.length∧es.length=shs.length∧∀(t:Nat) (s:Sh),shs[t]?=some s→∃x e,acts[t]?=some x∧es[t]?=some e∧Bs S is js x s=some e
 |[],[],es,h=>by simp only[sW,aO] at h;subst h;exact⟨rfl,rfl,fun t s h=>by simp at h⟩
 |[],_::_,es,h=>by simp[sW] at h
 |_::_,[],es,h=>by simp[sW] at h
 |x::acts,s::shs,es,h=>by
  simp only[sW,ao,av] at h;obtain⟨e,he,r,hr,rfl⟩:=h;obtain⟨g1,g2,g3⟩:=TL hr;refine⟨by simp[g1],by simp[g2],fun t s' hs=>?_⟩;cases t with
  |zero=>simp at hs;subst hs;exact⟨x,e,rfl,rfl,he⟩
  |succ t=>simp at hs;simpa using g3 t s' hs
theorem adF (hσ:Im.leR C.cap σ σ1){eP:Nat→Value}(fL:∀i j,cE is js i=some j→eP i=hv j){x:m7}{s:Sh}{e:PE}(hf:Bs S is js x s=some e){v:Value}{d:D}(h:Ep C S ρ σ hv x v d):aC C (fN shs obs) ρf σ1 eP s v (e.ev ρ):=by
 have gen:∀s,(match j5 S.ver is js s with|some y=>bif Sh.beq x.1 y then some (PE.con .none) else none|none=>none)=some e→mS s=false→aC C (fN shs obs) ρf σ1 eP s v (e.ev ρ):=by
  intro s hm hd;split at hm
  ·rename_i y hy;cases hb:Sh.beq x.1 y<;>simp only[hb,cond_true,cond_false] at hm
   ·cases hm
   have h1:=h.1;rw[Sh.beq_eq _ _ hb] at h1;have:=Zl (shs:=shs) (obs:=obs) (ρf:=ρf) hσ fL hy h1;cases s with
   |dat t=>cases hd
   |opt gs s'=>exact absurd rfl ((Px hy).1 gs s')
   |eptr j ver size off=>simp[j5] at hy
   |agg l=>simp[j5] at hy
   |_=>exact this
  ·cases hm
 unfold Bs at hf;split at hf
 ·rename_i t;split at hf
  ·rename_i y hy;cases hb:Ty.sub y.1 t<;>simp only[hb,cond_true,cond_false] at hf
   ·cases hf
   cases hf;exact hσ.rep ((h.2 y hy).sub hb)
  ·cases hf
 ·trivial
 ·rename_i lh oN;refine gen _ hf ?_;cases s<;>first|rfl|exact absurd rfl (lh _)
theorem acq {eP M2:Nat→Value}{σ σ':Im}{ρf ρf':Env}{args:Nat→Value}{ds ds':Nat→D}(h1:∀(t:Nat) (s:Sh),shs[t]?=some s→aC C (fN shs obs) ρf σ eP s (args t) (ds t))(h2:∀(t:Nat) (s:Sh),shs[t]?=some s→mS s=false→aC C (fN shs obs) ρf' σ' M2 s (args t) (ds' t))
 (hz:∀s,s∈shs→∃x,j5 S.ver is js s=some x) {i:Nat} (hi:i∈ou shs):M2 i=eP i:=by
 have key:∀(l:List Sh),(∀s,s∈l→∃t:Nat,shs[t]?=some s)→i∈ou l→M2 i=eP i:=by
  intro l
  induction l with
  |nil=>intro _ h;cases h
  |cons s l ih=>
   intro hl hi;obtain⟨t,ht⟩:=hl s (dG ..);have yQ:∀s,s∈l→∃t:Nat,shs[t]?=some s:=fun s hs=>hl s (dz _ hs);obtain⟨x,hx⟩:=hz s (jO ht);have a1:=h1 t s ht;have a2:=h2 t s ht;cases s<;>simp only[ou] at hi
   case obj j ver=>
        simp only[j5] at hx;cases hb:Nat.beq ver 0<;>simp only[hb,cond_true,cond_false] at hx
        ·cases hx
        rcases df.1 hi with e|e
        ·subst e;rw[←(a1.2 (au hb)),←((a2 rfl).2 (au hb))]
        ·exact ih yQ e
   case ptr j ver off=>
        simp only[j5] at hx;cases hb:Nat.beq ver 0<;>simp only[hb,cond_true,cond_false] at hx
        ·cases hx
        rcases df.1 hi with e|e
        ·subst e;obtain⟨k1,e1,e2⟩:=a1.2 (au hb);obtain⟨k2,e3,e4⟩:=(a2 rfl).2 (au hb);rw[e2] at e4;cases e4;rw[e1,e3]
        ·exact ih yQ e
   case fclo f caps=>
        simp only[j5,av] at hx;obtain⟨c,hc,_⟩:=hx;obtain⟨_,g2⟩:=IY hc;rcases de.1 hi with e|e
        ·obtain⟨y,hy,e1⟩:=eE.1 e;subst e1;obtain⟨m,hm⟩:=w9 hy;obtain⟨vs,b1,b2,b3⟩:=a1;obtain⟨Al,c1,c2,c3⟩:=a2 rfl;rw[b1] at c1;have cr:vs=Al:=by simpa using c1
         subst cr;obtain⟨_,_,_,mQ⟩:=g2 m y.1 y.2 hm;rw[←(b3 m y.1 y.2 hm).2 mQ,←(c3 m y.1 y.2 hm).2 mQ]
        ·exact ih yQ e
   all_goals exact ih yQ hi
 exact key shs (fun s hs=>w9 hs) hi
end
section
variable {C:Ctx} {S:St} {ρ:Env} {σ:Im} {own:Nat→Option Nat} {hv:Nat→Value} {w0:World} {σ0:Base} {A:Nat→Prop} {a:Act} {w:World} {Φ:aR} {dst:Nat}
 {is js:List Nat} {shs:List Sh} {obs:List (Nat×Ob)}
theorem Below.weak {B:Nat}{w w':World}(h:Below 0 w w')(hk:∀k,k<B→w'.heap[k]?=w.heap[k]?):Below B w w':=⟨h.os,h.tape,h.output,h.size,hk⟩
def nP (js is:List Nat)(own:Nat→Option Nat):Nat→Option Nat:=fun k=>(own k).bind (cE js is)
def C6 (js is:List Nat)(own own':Nat→Option Nat):Nat→Option Nat:=fun k=>
 match own' k with
 |some i=>cE is js i
 |none=>match own k with|some j=>(match cE js is j with|some _=>none|none=>some j)|none=>none
theorem handed (h:Inv C S ρ σ own hv w0 σ0 A a w)(hC:CtxOK C σ0)(agW:wx shs obs=true)(B7:is=obs.map (·.1))(U7:is.Nodup)(G7:js.Nodup)(yK:p8 S is js obs js=true){acts:List m7}{es:List PE}(iW:sW S is js acts shs=some es)
 (GJ:S.o gY=.dead) (Hi:gY∉js) {vals:List Value} (hvl:vals.length=acts.length) (afe:∀(t:Nat) (x:m7),acts[t]?=some x→∃d,Ep C S ρ σ hv x (vals.getD t undef) d) {f:Nat} {res:Ty} {d:D}
 (hfn:sy C f shs obs res (es.map (PE.ev ρ)++js.map ρ.o) d):
 Calls C.P f vals.toArray w fun e w'=>∃v dr os,e=.returned v∧d=.tup (dr::os)∧os.length=js.length∧
  ∀ρ':Env,ρ'.r=ρ.r→(∀(k j:Nat),js[k]?=some j→ρ'.o j=os.getD k .none)→(∀j,j∉js→j≠gY→ρ'.o j=ρ.o j)→
   ∃σ1 dv aL,Inv C (S.handed shs obs is js) ρ' σ1 dv aL w0 σ0 A a w'∧Rep C.cap σ1 res v dr:=by
 obtain⟨al1,al2,il⟩:=TL iW;have fc:=TO yK;have tE:w0.heap.size≤w.heap.size:=h.below.size;obtain⟨tr,fx,cx,hf,vV⟩:=h.frame
 let eP:Nat→Value:=fun i=>match cE is js i with|some j=>hv j|none=>undef
 have fL:∀i j,cE is js i=some j→eP i=hv j:=fun i j e=>by simp only[eP,e]
 have UY:Im.leR C.cap σ σ.noM:=⟨Rep.noM,fun _ _ _ e=>e⟩
 have Cj:∀k x,σ.noM.m k=some x→σ.m k=some x∧x≠cP:=by
  intro k x e;by_cases hd:σ.m k=some cP
  ·simp[Im.noM,hd] at e
  ·simp only[Im.noM,if_neg hd] at e;exact⟨e,fun e2=>hd (by rw[e,e2])⟩
 have vB:(es.map (PE.ev ρ)++js.map ρ.o).drop shs.length=js.map ρ.o:=by rw[List.drop_append];simp[al2]
 have af1:∀t e,es[t]?=some e→(es.map (PE.ev ρ)++js.map ρ.o).getD t .none=e.ev ρ:=fun t e he=>by
  have ae:=(dZ.1 he).1;rw[aF,kf (by simpa using ae),cA,he];rfl
 have ag6:∀s,s∈shs→∃x,j5 S.ver is js s=some x:=by
  intro s hs;obtain⟨t,ht⟩:=w9 hs;obtain⟨x,e,_,_,he⟩:=il t s ht;unfold Bs at he;split at he
  ·exact⟨_,rfl⟩
  ·exact⟨_,rfl⟩
  ·split at he
   ·rename_i y hy;exact⟨y,hy⟩
   ·cases he
 have US:∀t,aC C (fN shs obs) (l9 obs (es.map (PE.ev ρ)++js.map ρ.o) ((es.map (PE.ev ρ)++js.map ρ.o).drop shs.length)) σ.noM eP (shs.getD t .none) (vals.toArray.getD t undef) ((es.map (PE.ev ρ)++js.map ρ.o).getD t .none):=by
  intro t;cases hs:shs[t]? with
  |none=>rw[aF,hs];trivial
  |some s=>
   obtain⟨x,e,hx,he,GM⟩:=il t s hs;obtain⟨d',aff⟩:=afe t x hx;rw[aF (l:=shs),hs,af1 t e he];have e1:vals.toArray.getD t undef=vals.getD t undef:=by simp[ej,aF]
   rw[e1];exact adF UY fL GM aff
 have agc:∀i,cn C (fN shs obs) (l9 obs (es.map (PE.ev ρ)++js.map ρ.o) ((es.map (PE.ev ρ)++js.map ρ.o).drop shs.length)) σ.noM (nP js is own) eP w w0.heap.size i (eA obs i):=by
  intro i;cases cq:cE is js i with
  |none=>subst B7;rw[Wb fc cq];trivial
  |some j=>
   subst B7;obtain⟨x,hx,GN⟩:=TN yK cq;refine ajB UY fL (fun k j' i' hk hl=>by simp only[nP,hk,jQ,hl]) G7 cq ?_ hx GN (h.objs j);show mV obs _ i=_;rw[vB];exact ah7 obs ρ.o rfl cq
 have oG:=hfn w0.heap.size σ.noM (nP js is own) eP w vals.toArray (fun k=>(∃j,own k=some j∧cE js is j=none)∨σ.m k=some cP∨(cx k)) agW ⟨h.ok.c,fun k x e=>h.ok.m k x (Cj k x e).1⟩ ((hC.mono h.le).noM)
  (fun k e=>(Cj k _ e).2 rfl) tE (by simp;omega) (fun k i hk=>by
    simp only[nP,ao] at hk;obtain⟨j,hj,_⟩:=hk;obtain⟨g1,g2,g3,g4⟩:=h.owns k j hj;exact⟨g1,g2,g3,by by_cases e:σ.m k=some cP<;>simp[Im.noM,e,g4]⟩) (fun k hk=>by
    rcases hk with⟨j,hj,hn⟩|hk|hk
    ·obtain⟨g1,g2,g3,g4⟩:=h.owns k j hj;exact⟨g2,by simp[nP,hj,hn],g3,by by_cases e:σ.m k=some cP<;>simp[Im.noM,e,g4]⟩
    ·have Cg:=h.ok.m k _ hk;have hn:own k=none:=by
      cases e:own k with
      |none=>rfl
      |some j=>rw[(h.owns k j e).2.2.2] at hk;cases hk
     refine⟨Cg.lt,by simp[nP,hn],fun o=>?_,by simp[Im.noM,hk]⟩;cases e:σ.c k o with
     |none=>exact e
     |some x=>
      have c1:=h.ok.c k o x e;rcases Cg with⟨m1,_⟩|⟨_,m2⟩
      ·exact absurd rfl m1
      ·simp[World.cell?,m2] at c1
    ·have kA:=σ0.sub _ _ _ _ hf.F k hk;have hn:own k=none:=by
      cases e:own k with
      |none=>rfl
      |some j=>exact absurd kA (hf.own k j e)
     refine⟨σ0.lt _ _ _ _ hf.F k kA,by simp[nP,hn],fun o=>?_,?_⟩
     ·cases e:σ.c k o with
      |none=>exact e
      |some x=>exact absurd hk (hf.c k o x e)
     ·cases e:σ.m k with
      |none=>simp[Im.noM,e]
      |some x=>exact absurd hk (hf.m k x e)) US agc
 refine oG.mono fun e w' hh=>?_;obtain⟨v,σ',own',hv',dr,os,rfl,hd,Mu,hle,ax,hb,jb,cX,cY,G6,Ve,B8,Ms,eJ⟩:=hh;refine⟨v,dr,os,rfl,hd,by omega,fun ρ' iw lT vQ=>?_⟩;have Hb:∀k,k<w.heap.size→own k=none→w'.heap[k]?=w.heap[k]?:=fun k hk hn=>jb k hk (by simp[nP,hn]);have agP:∀k j,own k=some j→cE js is j=none→w'.heap[k]?=w.heap[k]?:=fun k j hk hn=>jb k (h.owns k j hk).2.1 (by simp[nP,hk,hn])
 have afD:∀k o x,σ.c k o=some x→own k=none:=fun k o x e=>by
  cases e1:own k with
  |none=>rfl
  |some j=>rw[(h.owns k j e1).2.2.1 o] at e;cases e
 have U5:∀k x,σ.m k=some x→own k=none:=fun k x e=>by
  cases e1:own k with
  |none=>rfl
  |some j=>rw[(h.owns k j e1).2.2.2] at e;cases e
 have Hd:σ.ok w':=⟨fun k o x e=>by rw[World.cell?_of_block (Hb k (h.lt e) (afD k o x e))];exact h.ok.c k o x e,fun k x e=>(h.ok.m k x e).keep (Hb k (h.ltm e) (U5 k x e))⟩
 have lf:σ.le (σ'.plus σ):=Im.plus_le2 ax Hd;have jE:σ'.le (σ'.plus σ):=Im.plus_le1 σ' σ;have dA:∀k o x,(σ'.plus σ).c k o=some x→σ'.c k o=some x:=fun k o x e=>(Im.plus_c e).elim id (fun e=>hle.c k o x e)
 have yS:∀k x,(σ'.plus σ).m k=some x→σ'.m k=some x∨(σ.m k=some x∧x=cP):=fun k x e=>(Im.plus_m e).elim .inl (fun e=>by
  by_cases hd:x=cP
  ·exact .inr ⟨e,hd⟩
  ·refine .inl (hle.m k x ?_);have:σ.m k≠some cP:=fun e2=>hd (by rw[e] at e2;cases e2;rfl);simp only[Im.noM,if_neg this,e])
 let aL:Nat→Value:=fun j=>match cE js is j with|some i=>hv' i|none=>hv j
 have ahA:∀i j,cE is js i=some j→hv' i=aL j:=fun i j e=>by simp only[aL,HD G7 e]
 have afL:∀i,i∈ou shs→hv' i=eP i:=fun i hi=>acq (S:=S) (is:=is) (js:=js) (args:=fun t=>vals.toArray.getD t undef) (ds:=fun t=>(es.map (PE.ev ρ)++js.map ρ.o).getD t .none) (ds':=fun t=>(es.map (PE.ev ρ)++js.map ρ.o).getD t .none) (fun t s hs=>by
  have:=US t;rw[aF (l:=shs),hs] at this;exact this) (fun t s hs hd=>B8 t s hs hd) ag6 hi
 have qe:Compat S hv (S.handed shs obs is js) aL:=by
  refine⟨fun j=>?_,fun j e=>?_⟩
  ·show S.ver j≤uJ S.ver shs is js j;unfold uJ;split
   ·cases aH (ou shs) _<;>simp
   ·exact aU _
  ·change uJ S.ver shs is js j=S.ver j at e;show aL j=hv j;simp only[aL];unfold uJ at e;split at e
   ·rename_i i hi;cases hb:aH (ou shs) i<;>rw[hb] at e
    ·simp at e
    ·try simp only[hi]
     rw[afL i (VG.1 hb),fL i j (HD U7 hi)]
   ·rename_i hi;try simp only[hi]
 have mK:∀k j,C6 js is own own' k=some j→(k<w.heap.size→own k≠none)∧w0.heap.size≤k∧k<w'.heap.size∧(∀o,σ'.c k o=none)∧σ'.m k=none∧σ.m k≠some cP:=by
  intro k j hk;simp only[C6] at hk;split at hk
  ·rename_i i hi;obtain⟨g1,g2,g3,g4,g5⟩:=Ve k i hi;have g6:k<w.heap.size→own k≠none:=fun ae e=>g5 ae (by simp[nP,e]);refine⟨g6,g1,g2,g3,g4,fun e=>?_⟩;exact g6 (h.ltm e) (U5 k _ e)
  ·split at hk
   ·rename_i j' bp;split at hk
    ·cases hk
    ·rename_i hn;obtain⟨g1,g2,g3,g4⟩:=h.owns k j' bp;have ky:(∃j,own k=some j∧cE js is j=none)∨σ.m k=some cP∨(cx k):=.inl ⟨j',bp,hn⟩;refine⟨fun _ e=>(by rw[bp] at e;cases e),g1,uW g2 hb.size,fun o=>?_,?_,fun e=>?_⟩
     ·cases e:σ'.c k o with
      |none=>rfl
      |some x=>exact absurd ky (cX k o x e).2
     ·cases e:σ'.m k with
      |none=>rfl
      |some x=>exact absurd ky (cY k x e).2
     ·rw[g4] at e;cases e
   ·cases hk
 refine⟨σ'.plus σ,C6 js is own own',aL,⟨h.defers.mono lf,Im.plus_ok ax Hd,h.le.trans lf,h.old,fun k o x e=>?_,fun k x e=>?_,h.below.trans (Below.weak hb fun k hk=>?_),h.bw,fun k j hk=>?_,fun t=>?_,fun j=>?_,h.opts,?_⟩,eJ.mono jE⟩
 ·rcases(cX k o x (dA k o x e)).1 with e1|e1
  ·exact h.newc k o x e1
  ·exact .inr e1
 ·rcases yS k x e with e1|e1
  ·rcases(cY k x e1).1 with e2|e2
   ·exact h.newm k x (Cj k x e2).1
   ·exact .inr e2
  ·exact h.newm k x e1.1
 ·have bt:k<w0.heap.size:=uW hk h.bw;refine Hb k (by omega) ?_;cases e:own k with
  |none=>rfl
  |some j=>have:=(h.owns k j e).1;omega
 ·obtain⟨_,g1,g2,g3,g4,g5⟩:=mK k j hk;refine⟨g1,g2,fun o=>?_,?_⟩
  ·cases e:(σ'.plus σ).c k o with
   |none=>rfl
   |some x=>have:=dA k o x e;rw[g3 o] at this;cases this
  ·cases e:(σ'.plus σ).m k with
   |none=>rfl
   |some x=>
    rcases yS k x e with e1|e1
    ·rw[g4] at e1;cases e1
    ·exact absurd (by rw[e1.1,e1.2]) g5
 ·show aC C _ ρ' _ aL (S.r t) _ (ρ'.r t);rw[iw]
  exact aC.mono lf qe (fun gs s e=>by
   unfold holds;rw[iw]) (fun gs s e=>(h.opts t gs s e).2) (h.regs t)
 ·show cn C _ ρ' _ _ aL w' _ j (match cE js is j with|some i=>(match pB (uJ S.ver shs is js) is js (eA obs i) with|some o=>o|none=>.dead)|none=>S.o j);split
  ·rename_i i hi;have cq:=HD U7 hi;split
   ·rename_i x hx;refine ajC (S1:=S.handed shs obs is js) jE ahA (fun k i' j' hk hl=>by simp only[C6,hk,hl]) cq ?_ hx (Ms i);subst B7;obtain⟨k,bH,bt⟩:=V5 (os:=os) Mu cq;show ρ'.o j=mV obs os i;rw[bt];exact lT k j bH
   ·trivial
  ·rename_i hn
   have Mn:j∉js:=fun hm=>by
        obtain⟨k,hk⟩:=w9 hm;have ae:k<is.length:=by
         have:=(dZ.1 hk).1;rw[B7,fl];omega
        have:=HB G7 hk (bo ae);rw[hn] at this;cases this
   by_cases GX:j=gY
   ·subst GX;rw[GJ];trivial
   ·refine(h.objs j).mono lf qe (by show aL j=hv j;simp only[aL,hn]) (vQ j Mn GX) (fun k hk=>⟨?_,agP k j hk hn⟩);have:own' k=none:=by
     cases e:own' k with
     |none=>rfl
     |some i=>exact absurd (by simp[nP,hk,hn]) ((Ve k i e).2.2.2.2 (h.owns k j hk).2.1)
    simp only[C6,this,hk,hn]
 ·refine⟨tr,fx,cx,⟨σ0.keep _ _ _ _ _ hf.F hb fun k hk=>?_,fun k j hk kA=>?_,fun k o x e hc=>?_,fun k x e hc=>?_,fun k e hB hk=>?_⟩,fun j hj=>?_⟩
  ·refine Hb k (σ0.lt _ _ _ _ hf.F k hk) ?_;cases e:own k with
   |none=>rfl
   |some j=>exact absurd hk (hf.own k j e)
  ·have ae:=σ0.lt _ _ _ _ hf.F k kA;have:=(mK k j hk).1 ae;cases e:own k with
   |none=>exact this e
   |some j'=>exact hf.own k j' e kA
  ·exact(cX k o x (dA k o x e)).2 (.inr (.inr hc))
  ·rcases yS k x e with e1|e1
   ·exact(cY k x e1).2 (.inr (.inr hc))
   ·exact hf.m k x e1.1 hc
  ·rcases yS k _ e with e1|e1
   ·have ae:=σ0.lt _ _ _ _ hf.F k hk;refine G6 k e1 hB ae ?_;have:own k=none:=by
     cases e:own k with
     |none=>rfl
     |some j=>exact absurd hk (hf.own k j e)
    simp[nP,this]
   ·exact hf.d k e1.1 hB hk
  ·change (match cE js is j with|some i=>(match pB (uJ S.ver shs is js) is js (eA obs i) with|some o=>o|none=>.dead)|none=>S.o j)=.tr at hj;split at hj
   ·rename_i i hi;split at hj
    ·rename_i x hx;exact absurd hj (alo hx)
    ·cases hj
   ·rename_i hn
    have Mn:j∉js:=fun hm=>by
     obtain⟨k,hk⟩:=w9 hm;have ae:k<is.length:=by
         have:=(dZ.1 hk).1;rw[B7,fl];omega
     have:=HB G7 hk (bo ae);rw[hn] at this;cases this
    have GX:j≠gY:=fun e=>by subst e;rw[GJ] at hj;cases hj
    rw[vQ j Mn GX];exact vV j hj
theorem ZJ:∀(js:List Nat) (k:Nat) {ρ ρ':Env} {l:List D},PI.runs Φ (Eb js k) ρ=some ρ'→ρ.o gY=.tup l→gY∉js→js.Nodup→
 ρ'.r=ρ.r∧(∀(i j:Nat),js[i]?=some j→ρ'.o j=l.getD (k+i) .none)∧∀j,j∉js→ρ'.o j=ρ.o j
 |[],k,ρ,ρ',l,h,hs,hn,hd=>by
  simp only[Eb,PI.runs,aO] at h;subst h;exact⟨rfl,fun i j e=>by simp at e,fun _ _=>rfl⟩
 |x::js,k,ρ,ρ',l,h,hs,hn,hd=>by
  simp only[Eb,PI.runs,PI.run,jQ,PE.ev,hs,D.tget] at h;simp only[df,not_or] at hn;have gC:=mB.1 hd;obtain⟨g1,g2,g3⟩:=ZJ js (k+1) h (by simp only[Env.setO];rw[bf _ _ hn.1];exact hs) hn.2 gC.2;refine⟨g1,fun i j e=>?_,fun j hj=>?_⟩
  ·cases i with
   |zero=>simp at e;subst e;rw[g3 _ gC.1];simp[Env.setO,aG]
   |succ i=>simp at e;rw[g2 i j e];congr 1;omega
  ·simp only[df,not_or] at hj;rw[g3 j hj.2];simp only[Env.setO];exact bf _ _ hj.1
theorem aaT (h:Inv C S ρ σ own hv w0 σ0 A a w)(hC:CtxOK C σ0)(x:Operand):∃d,Ep C S ρ σ hv (EO C S x) (a.eval x) d:=by
 cases x with
 |tmp t=>
  refine⟨ρ.r t,?_,fun y hy=>cl (gs:=[]) h hC rfl hy⟩;have:=(ml (gs:=[]) h rfl t).1;simpa [Act.eval,EO,eU] using this
 |_=>exact⟨.none,trivial,fun y hy=>cl (gs:=[]) h hC rfl hy⟩
theorem Tq (h:Inv C S ρ σ own hv w0 σ0 A a w)(hC:CtxOK C σ0)(hΦ:dF C Φ){f:Nat}{args:List Operand}{caps:List (Nat×Nat)}{vs:List Value}(cr:vs.length=caps.length)
 (eN:∀(i j ver:Nat),caps[i]?=some (j,ver)→ver≤S.ver j∧(ver=S.ver j→vs.getD i undef=hv j)) (afu:∀(i j ver:Nat),caps[i]?=some (j,ver)→ver=S.ver j→∃k,hv j=.pointer (some ⟨k,0,none⟩)) {r:St×Ty×List PI} (hr:pZ C S f args caps=some r)
 {ρ1:Env} (af:PI.runs Φ r.2.2 ρ=some ρ1):
 Calls C.P f (args.map a.eval++vs).toArray w fun e w'=>∃v σ1 dv aL,e=.returned v∧Inv C r.1 ρ1 σ1 dv aL w0 σ0 A a w'∧Rep C.cap σ1 r.2.1 v ((ρ1.o gY).tget 0):=by
 simp only[pZ,ao] at hr;obtain⟨s,hs,hr⟩:=hr;split at hr
 case h_2=>cases hr
 rename_i shs obs kD;obtain⟨σ2,iz,jE,h2⟩:=Inv.fzs (yu S args shs) h;have dC:=(nu (yu S args shs) S).1;generalize S.fzs (yu S args shs)=S2 at hr h2 dC;unfold KT KS at hr;generalize TH S2 shs obs (args.map (EO C S2)++caps.map S5)=js at hr;simp only[ao] at hr;obtain⟨es,iW,hr⟩:=hr;cases hb:(wx shs obs&&(gp (obs.map (·.1))&&gp js&&p8 S2 (obs.map (·.1)) js obs js&&nJ (S2.o gY)&& !aH js gY))<;>simp only[hb,cond_true,cond_false] at hr
 ·cases hr
 cases hr;simp only[aj,hH] at hb;obtain⟨b0,⟨⟨⟨b1,b2⟩,b3⟩,b4⟩,b5⟩:=hb;have lh:=l8 b1;have oN:=l8 b2;have GJ:S2.o gY=.dead:=by
  cases e:S2.o gY<;>rw[e] at b4<;>first|rfl|cases b4
 have Hi:gY∉js:=fun hm=>by rw[VG.2 hm] at b5;cases b5
 simp only[PI.runs,PI.run,ao,av] at af;obtain⟨ρ2,⟨d,hd,rfl⟩,af⟩:=af;rw[PE.evs_eq,m9,JM] at hd;have e1:js.map (PE.ev ρ∘PE.o)=js.map ρ.o:=rfl;rw[e1] at hd;have hfn:=((hΦ f _ d hd s hs).2 shs obs kD).plain b0
 have oG:=handed h2 hC b0 rfl lh oN b3 iW GJ Hi (vals:=args.map a.eval++vs) (by simp[cr]) (fun t x hx=>by
  rw[lH] at hx;split at hx
  ·rename_i ae;rw[fl] at ae;rw[cA,bo ae] at hx;cases hx;have:(args.map a.eval++vs).getD t undef=a.eval args[t]:=by
        rw[aF,kf (by simpa using ae),cA,bo ae];rfl
   rw[this];exact aaT h2 hC _
  ·rename_i fq;rw[fl] at fq hx;rw[cA,av] at hx;obtain⟨c,hc,rfl⟩:=hx;obtain⟨j,ver⟩:=c;have cj:(args.map a.eval++vs).getD t undef=vs.getD (t-args.length) undef:=by
        rw[aF,iJ (by simpa using fq),fl,aF]
   obtain⟨g1,g2⟩:=eN _ j ver hc;refine⟨.none,⟨by rw[dC];exact g1,fun e=>?_⟩,fun y hy=>by cases hy⟩;rw[dC] at e;obtain⟨k,hk⟩:=afu _ j ver hc e;exact⟨k,hk,by rw[cj,g2 e,hk]⟩) (hfn:=hfn)
 refine oG.mono fun e w' hh=>?_;obtain⟨v,dr,os,rfl,rfl,Mu,jV⟩:=hh;obtain⟨g1,g2,g3⟩:=ZJ js 1 (l:=dr::os) af (by simp[Env.setO,aG]) Hi oN
 obtain⟨σ1,dv,aL,hinv,bE⟩:=jV ρ1 g1 (fun k j hk=>by
  have:=g2 k j hk;rw[Ax] at this;simpa using this) (fun j hj az=>by rw[g3 j hj];simp only[Env.setO];exact bf _ _ az)
 refine⟨v,σ1,dv,aL,rfl,hinv,?_⟩;rw[g3 gY Hi];simpa [Env.setO,aG,D.tget] using bE
def pf (S:St)(dst:Option Nat)(r:St×Ty×List PI):St×List PI:=
 match dst with
 |some d=>(r.1.setR d (.dat r.2.1),r.2.2++[.setR d (.tget (.o gY) 0)])
 |none=>(r.1,r.2.2)
theorem alH {a b:List PI}{ρ:Env}:PI.runs Φ (a++b) ρ=(PI.runs Φ a ρ).bind (PI.runs Φ b):=by
 induction a generalizing ρ with
 |nil=>simp[PI.runs]
 |cons x a ih=>
  simp only[EA,PI.runs];cases x.run Φ ρ with
  |none=>rfl
  |some ρ1=>simp[ih]
theorem SY {o:Oper}{f:Nat}{vals:List Value}(ht:∀d,o.dst=some d→¬A d∧d<a.tmps.size){r:St×Ty×List PI}(hx:(execOp a.eval o).run C.P w=.ok (.enter f vals.toArray) w)
 (hc:∀ρ1,PI.runs Φ r.2.2 ρ=some ρ1→Calls C.P f vals.toArray w fun e w'=>∃v σ1 dv aL,e=.returned v∧Inv C r.1 ρ1 σ1 dv aL w0 σ0 A a w'∧Rep C.cap σ1 r.2.1 v ((ρ1.o gY).tget 0)):bP C w0 σ0 Φ S ρ A a w o (pf S o.dst r):=by
 intro ρ' af K Q hK;simp only[Oper.wp,hx,Oper.upon];cases hd:o.dst with
 |none=>
  rw[hd] at af hK;refine(hc ρ' af).mono fun e w' hh=>?_;obtain⟨v,σ1,dv,aL,rfl,hinv,bE⟩:=hh;refine hK _ _ ⟨σ1,dv,aL,?_⟩ rfl;have:(fun u=>A u∨(none:Option Nat)=some u)=A:=by funext u;simp
  rw[this];exact hinv
 |some d=>
  rw[hd] at af hK;obtain⟨t1,t2⟩:=ht d hd;simp only[pf,alH,ao] at af;obtain⟨ρ1,h1,h2⟩:=af;simp[PI.runs,PI.run,PE.ev] at h2;subst h2;refine(hc ρ1 h1).mono fun e w' hh=>?_;obtain⟨v,σ1,dv,aL,rfl,hinv,bE⟩:=hh;refine hK _ _ ⟨σ1,dv,aL,?_⟩ (size_put _ _ _);have:(fun u=>A u∨some d=some u)=(fun u=>A u∨u=d):=by funext u;simp[eq_comm]
  rw[this];exact hinv.setReg t1 (s:=.dat r.2.1) bE t2 (fun _ _ e=>by cases e)
theorem Tr (h:Inv C S ρ σ own hv w0 σ0 A a w)(hC:CtxOK C σ0)(aP:dY C)(hΦ:dF C Φ){f:Nat}{args:Array Operand}{ts:Array TypeId}{r:St×Ty×List PI}{o:Oper}(ht:∀d,o.dst=some d→¬A d∧d<a.tmps.size)
 (hr:pZ C S f args.toList []=some r) (ho:o.op=.call {callee:=.value (.func f),args:=args,argTypes:=ts}):bP C w0 σ0 Φ S ρ A a w o (pf S o.dst r):=by
 have hs:∃s,C.sig f=some s:=by
  simp only[pZ,ao] at hr;obtain⟨s,hs,_⟩:=hr;exact⟨s,hs⟩
 obtain⟨s,hs⟩:=hs;have hx:=D7 (a:=a) (w:=w) aP hs ho;have jH:args.map a.eval=(args.toList.map a.eval++[]).toArray:=by apply qL;simp
 rw[jH] at hx;exact SY ht hx fun ρ1 af=>Tq h hC hΦ (vs:=[]) rfl (fun i j ver e=>by simp at e) (fun i j ver e=>by simp at e) hr af
def xm (S:St):List (Nat×Nat)→Bool
 |[]=>true
 |c::l=>Nat.beq c.2 (S.ver c.1)&&(match S.o c.1 with|.box ..=>true|_=>false)&&xm S l
theorem S7 (h:Inv C S ρ σ own hv w0 σ0 A a w):∀{l:List (Nat×Nat)},xm S l=true→∀(i j ver:Nat),l[i]?=some (j,ver)→ver=S.ver j∧∃k,hv j=.pointer (some ⟨k,0,none⟩)
 |[],_,i,j,ver,e=>by simp at e
 |c::l,hl,i,j,ver,e=>by
  simp only[xm,aj] at hl;cases i with
  |zero=>
   simp at e;subst e;refine⟨au hl.1.1,?_⟩;have h1:=hl.1.2;have h2:=h.objs j;split at h1
   ·rename_i ag shs eo;simp only at eo;rw[eo] at h2;obtain⟨k,cs,T,ds,g1,_⟩:=h2;exact⟨k,g1⟩
   ·cases h1
  |succ i=>simp at e;exact S7 h hl.2 i j ver e
def yj (C:Ctx)(S:St)(t:Nat)(args:List Operand):Option (St×Ty×List PI):=
 match j6 S [] t with
 |.fclo f caps=>bif xm S caps then pZ C S f args caps else none
 |_=>none
theorem Tp (h:Inv C S ρ σ own hv w0 σ0 A a w)(hC:CtxOK C σ0)(aP:dY C)(hΦ:dF C Φ){t:Nat}{args:Array Operand}{ts:Array TypeId}{r:St×Ty×List PI}{o:Oper}(ht:∀d,o.dst=some d→¬A d∧d<a.tmps.size)
 (hr:yj C S t args.toList=some r) (ho:o.op=.call {callee:=.value (.tmp t),args:=args,argTypes:=ts}):bP C w0 σ0 Φ S ρ A a w o (pf S o.dst r):=by
 unfold yj at hr;split at hr
 case h_2=>cases hr
 rename_i f caps eu;cases hb:xm S caps<;>simp only[hb,cond_true,cond_false] at hr
 ·cases hr
 have fU:=(ml (gs:=[]) h rfl t).1;rw[eu] at fU;obtain⟨vs,h1,h2,h3⟩:=fU;have hs:∃s,C.sig f=some s:=by
  simp only[pZ,ao] at hr;obtain⟨s,hs,_⟩:=hr;exact⟨s,hs⟩
 obtain⟨s,hs⟩:=hs;have hx:=Zy (a:=a) (w:=w) (vs:=vs) (x:=.tmp t) aP hs (by simpa [Act.eval] using h1) ho;have jH:args.map a.eval++vs.toArray=(args.toList.map a.eval++vs).toArray:=by apply qL;simp
 rw[jH] at hx;exact SY ht hx fun ρ1 af=>Tq h hC hΦ h2 h3 (fun i j ver e _=>(S7 h hb i j ver e).2) hr af
def AT (S:St):List Operand→Option (List (Nat×Nat))
 |[]=>some []
 |x::xs=>
  match x with
  |.tmp t=>
   match j6 S [] t with
   |.ptr j ver off=>bif Nat.beq ver (S.ver j)&&Nat.beq off 0 then(AT S xs).map fun r=>(j,ver)::r else none
   |_=>none
  |_=>none
def Bf (C:Ctx)(S:St)(dst:Nat)(fn:Fn)(first caps:Array Operand):Option (St×List PI):=
 match fn,first.toList with
 |.func f,[]=>
  match C.sig f with
  |some s=>bif oV s.mode then(AT S caps.toList).map fun c=>(S.setR dst (.fclo f c),[.setR dst (.con .none)]) else none
  |none=>none
 |_,_=>none
theorem S8 (h:Inv C S ρ σ own hv w0 σ0 A a w):∀{l:List Operand} {c:List (Nat×Nat)},AT S l=some c→c.length=l.length∧∀(i j ver:Nat),c[i]?=some (j,ver)→ver≤S.ver j∧(ver=S.ver j→(l.map a.eval).getD i undef=hv j)
 |[],c,e=>by simp only[AT,aO] at e;subst e;exact⟨rfl,fun i j ver e=>by simp at e⟩
 |x::xs,c,e=>by
  simp only[AT] at e;split at e
  case h_2=>cases e
  rename_i t;split at e
  case h_2=>cases e
  rename_i j ver off eu;cases hb:(Nat.beq ver (S.ver j)&&Nat.beq off 0)<;>simp only[hb,cond_true,cond_false] at e
  ·cases e
  simp only[aj] at hb;simp only[av] at e;obtain⟨r,hr,rfl⟩:=e;obtain⟨g1,g2⟩:=S8 h hr;have fU:=(ml (gs:=[]) h rfl t).1;rw[eu] at fU;refine⟨by simp[g1],fun i j' mw e=>?_⟩;cases i with
  |zero=>
   simp at e;obtain⟨rfl,rfl⟩:=e;refine⟨fU.1,fun e=>?_⟩;obtain⟨k,k1,k2⟩:=fU.2 e;have e0:off=0:=au hb.2;subst e0;rw[k1,←k2];simp[Act.eval]
  |succ i=>simp at e;simpa using g2 i j' mw e
theorem acX (h:Inv C S ρ σ own hv w0 σ0 A a w)(ht:¬A dst)(ae:dst<a.tmps.size){fn:Fn}{first caps:Array Operand}{r:St×List PI}{o:Oper}(hr:Bf C S dst fn first caps=some r)(hd:o.dst=some dst)(ho:o.op=.makeFunc fn first caps):bP C w0 σ0 Φ S ρ A a w o r:=by
 unfold Bf at hr;split at hr
 case h_2=>cases hr
 rename_i f B2;split at hr
 case h_2=>cases hr
 rename_i s hs;cases hb:oV s.mode<;>simp only[hb,cond_true,cond_false] at hr
 ·cases hr
 simp only[av] at hr;obtain⟨c,hc,rfl⟩:=hr;obtain⟨g1,g2⟩:=S8 h hc;have BY:first=#[]:=by rw[←sv];simpa using B2
 refine bP.value hd fun ρ' af=>⟨.func (.func f) #[] (caps.toList.map a.eval).toArray,w,?_,?_⟩
 ·subst BY;have e9:caps.map a.eval=(caps.toList.map a.eval).toArray:=by apply qL;rw[uO]
  simp[execOp,ho,Instr.makeFunc,e9]
 ·have hρ:ρ'=ρ.setR dst .none:=by simp[PI.runs,PI.run,PE.ev] at af;exact af.symm
  subst hρ;exact⟨_,_,_,h.setReg ht (s:=.fclo f c) ⟨_,rfl,by simp[g1],g2⟩ ae (fun _ _ e=>by cases e)⟩
end
end Cx
