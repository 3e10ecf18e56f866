/-
  Calls.
-/
import Derived.Test.YtmnnipoiigfapaaGreatDoorHAC
set_option linter.unusedSimpArgs false
set_option linter.unusedVariables false
noncomputable section
namespace Cx
open Go Go.RowKit
open Classical in
def Im.noM (σ:Im):Im:=⟨σ.c,fun k=>if σ.m k=some cZ then none else σ.m k⟩
theorem Rep.noM {cap:Nat→Option CSig}{σ:Im}{t:Ty}{v:Value}{d:D}(h:Rep cap σ t v d):Rep cap σ.noM t v d:=by
 induction h with
 |int k n h1 h2=>exact .int k n h1 h2
 |bool b=>exact .bool b
 |str s h=>exact .str s h
 |agg ts vs ds h1 h2 _ ho ih=>exact .agg ts vs ds h1 h2 ih ho
 |tup ts vs ds h1 h2 _ ih=>exact .tup ts vs ds h1 h2 ih
 |nil e=>exact .nil e
 |emp e a=>exact .emp e a
 |nils e=>exact .nils e
 |nsl0 e=>exact .nsl0 e
 |nsl e k o n c xs _ hx ih=>exact .nsl e k o n c xs ih hx
 |slice e k o n c xs vs hn hc hm _ hv ih=>exact .slice e k o n c xs vs hn hc hm ih hv
 |mapnil kt et=>exact .mapnil kt et
 |map kt et r jD es hm hl hx hk _ kr DW=>
  refine .map kt et r jD es ?_ hl hx kr DW;have ay:σ.m r≠some cZ:=fun e=>by rw[hm] at e;cases e;exact D8 hl hk rfl
  simp only[Im.noM,if_neg ay,hm]
 |ref t k o v d _ hv ih=>exact .ref t k o v d ih hv
 |fn f cs vs ds hc h1 h2 _ ih=>exact .fn f cs vs ds hc h1 h2 ih
 |fnnil aa r=>exact .fnnil aa r
def Im.plus (σ τ:Im):Im:=⟨fun k o=>(σ.c k o).or (τ.c k o),fun k=>(σ.m k).or (τ.m k)⟩
theorem Im.plus_le1 (σ τ:Im):σ.le (σ.plus τ):=⟨fun k o v h=>by simp[Im.plus,h],fun k v h=>by simp[Im.plus,h]⟩
theorem q8.det {w:World}{k:Nat}{x y:List (Value×Value)}(h:q8 w k x)(g:q8 w k y):x=y:=by
 rcases h with⟨_,a,c,h1,h2⟩|⟨h1,h2⟩<;>rcases g with⟨_,a',c',g1,g2⟩|⟨g1,g2⟩
 ·rw[h1] at g1;cases g1;rw[←h2,←g2]
 ·rw[h1] at g2;cases g2
 ·rw[h2] at g1;cases g1
 ·rw[h1,g1]
theorem Im.plus_le2 {σ τ:Im}{w:World}(h:σ.ok w)(g:τ.ok w):τ.le (σ.plus τ):=by
 refine⟨fun k o v e=>?_,fun k v e=>?_⟩
 ·show(σ.c k o).or (τ.c k o)=some v;cases hc:σ.c k o with
  |none=>simpa using e
  |some u=>have:=(h.c k o u hc).symm.trans (g.c k o v e);simpa using this
 ·show(σ.m k).or (τ.m k)=some v;cases hc:σ.m k with
  |none=>simpa using e
  |some u=>simpa using(h.m k u hc).det (g.m k v e)
theorem Im.plus_ok {σ τ:Im}{w:World}(h:σ.ok w)(g:τ.ok w):(σ.plus τ).ok w:=by
 refine⟨fun k o v e=>?_,fun k v e=>?_⟩
 ·change (σ.c k o).or (τ.c k o)=some v at e;cases hc:σ.c k o with
  |none=>rw[hc] at e;exact g.c k o v (by simpa using e)
  |some u=>rw[hc] at e;simp at e;subst e;exact h.c k o u hc
 ·change (σ.m k).or (τ.m k)=some v at e;cases hc:σ.m k with
  |none=>rw[hc] at e;exact g.m k v (by simpa using e)
  |some u=>rw[hc] at e;simp at e;subst e;exact h.m k u hc
theorem Im.plus_c {σ τ:Im}{k o:Nat}{v:Value}(h:(σ.plus τ).c k o=some v):σ.c k o=some v∨τ.c k o=some v:=by
 change (σ.c k o).or (τ.c k o)=some v at h;cases hc:σ.c k o with
 |none=>rw[hc] at h;exact .inr (by simpa using h)
 |some u=>rw[hc] at h;exact .inl (by simpa using h)
theorem Im.plus_m {σ τ:Im}{k:Nat}{v:List (Value×Value)}(h:(σ.plus τ).m k=some v):σ.m k=some v∨τ.m k=some v:=by
 change (σ.m k).or (τ.m k)=some v at h;cases hc:σ.m k with
 |none=>rw[hc] at h;exact .inr (by simpa using h)
 |some u=>rw[hc] at h;exact .inl (by simpa using h)
def Ty.pureT:Ty→Bool
 |.int _|.bool|.str|.nils _=>true
 |_=>false
def Ty.pure:Ty→Bool
 |.tup ts=>ts.all Ty.pureT
 |.agg ts=>ts.all Ty.pureT
 |t=>Ty.pureT t
theorem Rep.pureT {cap:Nat→Option CSig}{σ τ:Im}{t:Ty}{v:Value}{d:D}(h:Rep cap σ t v d)(hp:t.pureT=true):Rep cap τ t v d:=by
 cases h<;>simp[Ty.pureT] at hp<;>constructor<;>assumption
theorem Rep.pure {cap:Nat→Option CSig}{σ τ:Im}{t:Ty}{v:Value}{d:D}(h:Rep cap σ t v d)(hp:t.pure=true):Rep cap τ t v d:=by
 cases h with
 |agg ts vs ds h1 h2 h ho=>exact .agg ts vs ds h1 h2 (fun i t hi=>(h i t hi).pureT (bJ.1 hp t (lV hi))) ho
 |tup ts vs ds h1 h2 h=>exact .tup ts vs ds h1 h2 (fun i t hi=>(h i t hi).pureT (bJ.1 hp t (lV hi)))
 |int k n h1 h2=>exact .int k n h1 h2
 |bool b=>exact .bool b
 |str s h=>exact .str s h
 |nils e=>exact .nils e
 |_=>simp[Ty.pure,Ty.pureT] at hp
def Vz (C:Ctx)(σ':Im)(B:Nat)(w':World)(ow:Nat→Option Nat)(i:Nat):RC→Value→D→Prop
 |.dat t,v,d=>t.one=true∧Rep C.cap σ' t v d
 |.row T e,v,d=>∃cells xs,d=.list xs∧w'.ownsRow B T e.size v xs.length cells∧eh C.cap σ' e cells xs∧∀k,v.ownBlock=some k→ow k=some i
def lW (C:Ctx)(s:Sig)(σ':Im)(w w':World)(v:Value)(d:D):Prop:=
 match s.mode with
 |.dat=>Rep C.cap σ' s.res v d
 |.it _=>True
 |.ob ..=>True
 |.rows l=>∃(vs:List Value) (ds:List D) (ow:Nat→Option Nat),v=.agg vs.toArray∧d=.agg ds∧vs.length=l.length∧ds.length=l.length∧(∀(i:Nat) (c:RC),l[i]?=some c→Vz C σ' w.heap.size w' ow i c (vs.getD i undef) (ds.getD i .none))∧
   ∀k i,ow k=some i→w.heap.size≤k∧k<w'.heap.size∧(∀o,σ'.c k o=none)∧σ'.m k=none
 |.row T e=>∃cells xs,d=.list xs∧w'.ownsRow w.heap.size T e.size v xs.length cells∧eh C.cap σ' e cells xs∧∀k,v.ownBlock=some k→(∀o,σ'.c k o=none)∧σ'.m k=none
def oU (C:Ctx)(σ:Im)(ts:List Ty)(args:List Value)(ds:List D):Prop:=
 args.length=ts.length∧ds.length=ts.length∧∀(i:Nat) (t:Ty),ts[i]?=some t→Rep C.cap σ t (args.getD i undef) (ds.getD i .none)
def iv (C:Ctx)(f:Nat)(s:Sig)(ds:List D)(d:D):Prop:=
 ∀(σ:Im) (w:World) (args:Array Value),σ.ok w→CtxOK C σ→oU C σ s.args args.toList ds→
  Calls C.P f args w fun e w'=>∃v σ',e=.returned v∧σ.le σ'∧σ'.ok w'∧Below w.heap.size w w'∧
   (∀k o x,σ'.c k o=some x→σ.c k o=some x∨w.heap.size≤k)∧(∀k x,σ'.m k=some x→σ.m k=some x∨w.heap.size≤k)∧lW C s σ' w w' v d
def ec:List (Nat×Ob)→Nat→Ob
 |[],_=>.dead
 |x::l,j=>bif Nat.beq x.1 j then x.2 else ec l j
def nq:List (Nat×Ob)→List D→Nat→D
 |x::l,d::ds,j=>bif Nat.beq x.1 j then d else nq l ds j
 |_,_,_=>.none
def fN (shs:List Sh)(obs:List (Nat×Ob)):St:=⟨fun t=>shs.getD t .none,fun j=>ec obs j,fun _=>0⟩
def mq (obs:List (Nat×Ob))(ds os:List D):Env:=⟨fun t=>ds.getD t .none,fun j=>nq obs os j⟩
def nl:Sh→Bool
 |.dat _=>true
 |_=>false
def pW:Mode→Bool
 |.ob ..=>true
 |_=>false
def th:Sh→Bool
 |.none|.dat _|.obj ..|.ptr ..|.fclo ..=>true
 |_=>false
def JL:Ob→Bool
 |.row ..|.mp ..=>true
 |.box _ shs=>shs.all th
 |_=>false
def xw (shs:List Sh)(obs:List (Nat×Ob)):Bool:=shs.all th&&obs.all fun x=>JL x.2
def Jk:List Sh→List (Nat×Ob)→Option (TypeId×Ty×List Ty)
 |.obj 0 0::l,[(0,.row T e),(1,.tr)]=>(Wh l).map fun ts=>(T,e,ts)
 |_,_=>none
def BI (C:Ctx)(f:Nat)(T:TypeId)(e:Ty)(ts:List Ty)(ds:List D)(d:D):Prop:=
 ∀(N:Nat) (σ:Im) (w:World) (v:Value) (args:List Value) (xs:List D) (cells:List Value) (ds':List D),ds=.list xs::ds'→σ.ok w→CtxOK C σ→N≤w.heap.size→w.ownsRow N T e.size v xs.length cells→eh C.cap σ e cells xs→
  (∀k,v.ownBlock=some k→k<w.heap.size∧(∀o,σ.c k o=none)∧σ.m k=none)→oU C σ ts args ds'→
  Calls C.P f (v::args).toArray w fun x w'=>∃v' j6 dF,x=.returned v'∧d=.list j6∧Below N w w'∧(∀k,k<w.heap.size→v.ownBlock≠some k→w'.heap[k]?=w.heap[k]?)∧
   w'.ownsRow N T e.size v' j6.length dF∧eh C.cap σ e dF j6∧∀k,v'.ownBlock=some k→(v.ownBlock=some k∨w.heap.size≤k)∧k<w'.heap.size
def tM (C:Ctx)(f:Nat)(shs:List Sh)(obs:List (Nat×Ob))(res:Ty)(ds:List D)(d:D):Prop:=
 ∀(N:Nat) (σ:Im) (own:Nat→Option Nat) (hv:Nat→Value) (w:World) (args:Array Value) (cx:Nat→Prop),xw shs obs=true→σ.ok w→CtxOK C σ→(∀k,σ.m k≠some cZ)→N≤w.heap.size→args.size=shs.length→
  (∀k j,own k=some j→N≤k∧k<w.heap.size∧(∀o,σ.c k o=none)∧σ.m k=none)→
  (∀k,cx k→k<w.heap.size∧own k=none∧(∀o,σ.c k o=none)∧σ.m k=none)→
  (∀t,aH C (fN shs obs) (mq obs ds (ds.drop shs.length)) σ hv (shs.getD t .none) (args.getD t undef) (ds.getD t .none))→
  (∀j,cn C (fN shs obs) (mq obs ds (ds.drop shs.length)) σ own hv w N j (ec obs j))→
  Calls C.P f args w fun e w'=>∃v σ' own' hv' dr os,e=.returned v∧d=.tup (dr::os)∧os.length=obs.length∧σ.le σ'∧σ'.ok w'∧Below 0 w w'∧
   (∀k,k<w.heap.size→own k=none→w'.heap[k]?=w.heap[k]?)∧
   (∀k o x,σ'.c k o=some x→(σ.c k o=some x∨N≤k)∧¬cx k)∧(∀k x,σ'.m k=some x→(σ.m k=some x∨N≤k)∧¬cx k)∧(∀k,σ'.m k=some cZ→N≤k→k<w.heap.size→own k≠none)∧
   (∀k j,own' k=some j→N≤k∧k<w'.heap.size∧(∀o,σ'.c k o=none)∧σ'.m k=none∧(k<w.heap.size→own k≠none))∧
   (∀(t:Nat) (sh:Sh),shs[t]?=some sh→nl sh=false→aH C (fN shs obs) (mq obs ds os) σ' hv' sh (args.getD t undef) (ds.getD t .none))∧
   (∀j,cn C (fN shs obs) (mq obs ds os) σ' own' hv' w' N j (ec obs j))∧Rep C.cap σ' res v dr
theorem aH.ctx {C C':Ctx}(fU:C'.cap=C.cap){S:St}{ρ:Env}{σ:Im}{hv:Nat→Value}{s:Sh}(hp:th s=true){v:Value}{d:D}(h:aH C S ρ σ hv s v d):aH C' S ρ σ hv s v d:=by
 cases s with
 |dat t=>show Rep C'.cap σ t v d;rw[fU];exact h
 |opt gs s=>cases hp
 |eptr j ver a b=>cases hp
 |yv=>cases hp
 |agg l=>cases hp
 |_=>exact h
theorem cn.ctx {C C':Ctx}(fU:C'.cap=C.cap){S:St}{ρ:Env}{σ:Im}{own:Nat→Option Nat}{hv:Nat→Value}{w:World}{N j:Nat}{ob:Ob}(hp:JL ob=true∨ob=.dead)(h:cn C S ρ σ own hv w N j ob):cn C' S ρ σ own hv w N j ob:=by
 rcases hp with hp|rfl
 ·cases ob with
  |row T e=>obtain⟨cells,xs,h1,h2,h3,h4⟩:=h;exact⟨cells,xs,h1,h2,by rw[fU];exact h3,h4⟩
  |mp kt et=>obtain⟨k,arr,clock,es,h1,h2,h3,h4,h5,h6,h7⟩:=h;exact⟨k,arr,clock,es,h1,h2,h3,h4,h5,h6,by rw[fU];exact h7⟩
  |box ag shs=>
   obtain⟨k,cs,T,ds,h1,h2,h3,h4,h5,h6,h7⟩:=h;exact⟨k,cs,T,ds,h1,h2,h3,h4,h5,h6,fun i s hs=>⟨(h7 i s hs).1,(h7 i s hs).2.ctx fU (bJ.1 hp s (lV hs))⟩⟩
  |_=>cases hp
 ·trivial
theorem Zn {obs:List (Nat×Ob)}(h:(obs.all fun x=>JL x.2)=true)(j:Nat):JL (ec obs j)=true∨ec obs j=.dead:=by
 induction obs with
 |nil=>exact .inr rfl
 |cons x l ih=>
  simp only[qu,ao] at h;simp only[ec];cases hb:Nat.beq x.1 j
  ·exact ih h.2
  ·exact .inl h.1
theorem tM.ctx {C C':Ctx}{f:Nat}{shs:List Sh}{obs:List (Nat×Ob)}{res:Ty}{ds:List D}{d:D}(h:tM C f shs obs res ds d)(hP:C'.P=C.P)(fU:C'.cap=C.cap)(uB:C'.glob=C.glob):tM C' f shs obs res ds d:=by
 intro N σ own hv w args cx hp aB hC bp hN aK cm kN h1 h2;have aT:=hp;simp only[xw,ao] at aT;have sQ:∀t s,shs[t]?=some s→th s=true:=fun t s hs=>bJ.1 aT.1 s (lV hs);have hC':CtxOK C σ:=⟨fun g x hx=>by have:=hC.glob g x (by rw[uB];exact hx);rwa [fU] at this⟩
 have:=h N σ own hv w args cx hp aB hC' bp hN aK cm kN (fun t=>by
  cases hs:shs[t]? with
  |none=>rw[aJ,hs];trivial
  |some s=>have:=h1 t;rw[aJ,hs] at this ⊢;exact this.ctx fU.symm (sQ t s hs)) (fun j=>(h2 j).ctx fU.symm (Zn aT.2 j))
 rw[hP];refine this.mono fun e w' hh=>?_;obtain⟨v,σ',own',hv',dr,os,g1,g2,g3,g4,g5,g6,g7,g8,g9,g10,g11,g12,g13,g14⟩:=hh;exact⟨v,σ',own',hv',dr,os,g1,g2,g3,g4,g5,g6,g7,g8,g9,g10,g11,fun t sh hs hd=>(g12 t sh hs hd).ctx fU (sQ t sh hs),fun j=>(g13 j).ctx fU (Zn aT.2 j),by rw[fU];exact g14⟩
theorem eh.cap {c c':Nat→Option CSig}(hc:c'=c){σ:Im}{e:Ty}{cells:List Value}{xs:List D}(h:eh c σ e cells xs):eh c' σ e cells xs:=hc▸h
theorem BI.ctx {C C':Ctx}{f:Nat}{T:TypeId}{e:Ty}{ts:List Ty}{ds:List D}{d:D}(h:BI C f T e ts ds d)(hP:C'.P=C.P)(fU:C'.cap=C.cap)(uB:C'.glob=C.glob):BI C' f T e ts ds d:=by
 intro N σ w v args xs cells ds' h1 h2 h3 h4 h5 h6 h7 h8;rw[hP];refine(h N σ w v args xs cells ds' h1 h2 ⟨fun g x hx=>by have:=h3.glob g x (by rw[uB];exact hx);rwa [fU] at this⟩ h4 h5 (h6.cap fU.symm) h7 ⟨h8.1,h8.2.1,fun i t hi=>by have:=h8.2.2 i t hi;rwa [fU] at this⟩).mono fun x w' hh=>?_;obtain⟨v',j6,dF,g1,g2,g3,g4,g5,g6,g7⟩:=hh;exact⟨v',j6,dF,g1,g2,g3,g4,g5,g6.cap fU,g7⟩
def gD (C:Ctx)(f:Nat)(shs:List Sh)(obs:List (Nat×Ob))(res:Ty)(ds:List D)(d:D):Prop:=
 match Jk shs obs with
 |some m=>BI C f m.1 m.2.1 m.2.2 ds d
 |none=>tM C f shs obs res ds d
theorem gD.ctx {C C':Ctx}{f:Nat}{shs:List Sh}{obs:List (Nat×Ob)}{res:Ty}{ds:List D}{d:D}(h:gD C f shs obs res ds d)(hP:C'.P=C.P)(fU:C'.cap=C.cap)(uB:C'.glob=C.glob):gD C' f shs obs res ds d:=by
 unfold gD at h ⊢;split at h
 ·exact BI.ctx h hP fU uB
 ·exact tM.ctx h hP fU uB
theorem ZU {shs:List Sh}{obs:List (Nat×Ob)}(h:∀x,x∈obs→x.2≠.tr):Jk shs obs=none:=by
 unfold Jk;split
 ·exact absurd rfl (h (1,.tr) (by simp))
 ·rfl
theorem gD.of {C:Ctx}{f:Nat}{shs:List Sh}{obs:List (Nat×Ob)}{res:Ty}{ds:List D}{d:D}(ht:∀x,x∈obs→x.2≠.tr)(h:tM C f shs obs res ds d):gD C f shs obs res ds d:=by
 unfold gD;rw[ZU ht];exact h
theorem gD.plain {C:Ctx}{f:Nat}{shs:List Sh}{obs:List (Nat×Ob)}{res:Ty}{ds:List D}{d:D}(hp:xw shs obs=true)(h:gD C f shs obs res ds d):tM C f shs obs res ds d:=by
 unfold gD at h;rw[ZU fun x hx e=>?_] at h
 ·exact h
 ·simp only[xw,ao] at hp;have:=bJ.1 hp.2 x hx;rw[e] at this;cases this
def di (C:Ctx)(Φ:aQ):Prop:=∀f ds d,Φ f ds=some d→∀s,C.sig f=some s→(pW s.mode=false→iv C f s ds d)∧∀shs obs,s.mode=.ob shs obs→gD C f shs obs s.res ds d
def mf:List Ty→Ty→Option (List Ty)
 |[.fn ys .bool],.tup []=>some ys
 |_,_=>none
def dx (C:Ctx):Prop:=(∀f cs,C.cap f=some cs→mf cs.args cs.res=none→C.sig f=some ⟨cs.args++cs.caps,cs.res,.dat⟩)∧∀f s,C.sig f=some s→∃fn,C.P.funcs[f]?=some fn∧fn.body.isSome=true∧(fn.name== "runtime.NumGoroutine")=false
def v7 (S:St):List AgC→List Nat
 |[]=>[]
 |.obj j ver::l=>bif Nat.beq ver (S.ver j)&&kT (S.o j) then j::v7 S l else v7 S l
 |_::l=>v7 S l
def bT (S:St)(gs:List (Nat×Bool)):List Operand→List Nat
 |[]=>[]
 |x::xs=>
  match fw S gs x with
  |.obj j ver=>bif Nat.beq ver (S.ver j)&&kT (S.o j) then j::bT S gs xs else bT S gs xs
  |.agg l=>v7 S l++bT S gs xs
  |_=>bT S gs xs
def jf (gs:List (Nat×Bool))(s:Sh):Sh:=
 match gs with
 |[]=>s
 |_=>.opt gs s
def St.fzs (S:St)(js:List Nat):St:=js.foldl St.fz S
def lN:List RC→List Ty
 |[]=>[]
 |.dat t::l=>t::lN l
 |.row _ e::l=>.slice e.rol::lN l
def Cm (fr:List Nat)(dst:Nat)(s:Sig):Option Sig:=
 match s.mode with
 |.rows l=>bif !(fr.any (Nat.beq (2000000+dst)))&&Ty.beq s.res (.agg (lN l)) then some {s with mode:=.dat} else some s
 |_=>some s
theorem Kh:∀{l:List RC} {i:Nat} {t:Ty},(lN l)[i]?=some t→(l[i]?=some (.dat t))∨∃T e,l[i]?=some (.row T e)∧t=.slice e.rol
 |[],i,t,h=>by simp[lN] at h
 |.dat u::l,0,t,h=>by simp[lN] at h;subst h;exact .inl rfl
 |.row T e::l,0,t,h=>by simp[lN] at h;exact .inr ⟨T,e,rfl,h.symm⟩
 |.dat u::l,i+1,t,h=>by simpa using Kh (l:=l) (i:=i) (by simpa [lN] using h)
 |.row T e::l,i+1,t,h=>by simpa using Kh (l:=l) (i:=i) (by simpa [lN] using h)
theorem Q0:∀(l:List RC),(lN l).length=l.length
 |[]=>rfl
 |.dat _::l=>by simp[lN,Q0 l]
 |.row ..::l=>by simp[lN,Q0 l]
theorem iv.asDat {C:Ctx}{f:Nat}{s:Sig}{ds:List D}{d:D}{l:List RC}(hm:s.mode=.rows l)(hr:s.res=.agg (lN l))(h:iv C f s ds d):iv C f {s with mode:=.dat} ds d:=by
 intro σ w args h1 h2 h3;refine(h σ w args h1 h2 h3).mono fun e w' hh=>?_;obtain⟨v,σ',rfl,hle,aB,hb,da,cR,fI⟩:=hh;simp only[lW,hm] at fI;obtain⟨vs,ds,ow,rfl,rfl,l1,l2,dP,sP⟩:=fI
 have hex:∀i,∃cs:List Value,∀T e,l[i]?=some (.row T e)→∃xs,ds.getD i .none=.list xs∧w'.ownsRow w.heap.size T e.size (vs.getD i undef) xs.length cs∧eh C.cap σ' e cs xs∧∀k,(vs.getD i undef).ownBlock=some k→ow k=some i:=fun i=>by
  cases hl:l[i]? with
  |none=>exact⟨[],fun _ _ h=>by cases h⟩
  |some c=>
   cases c with
   |dat t=>exact⟨[],fun _ _ h=>by cases h⟩
   |row T e=>
    obtain⟨cs,xs,g1,g2,g3,g4⟩:=dP i _ hl;exact⟨cs,fun T' e' h=>by cases h;exact⟨xs,g1,g2,g3,g4⟩⟩
 let cs:Nat→List Value:=fun i=>Classical.choose (hex i)
 have dz:∀i T e,l[i]?=some (.row T e)→∃xs,ds.getD i .none=.list xs∧w'.ownsRow w.heap.size T e.size (vs.getD i undef) xs.length (cs i)∧eh C.cap σ' e (cs i) xs∧∀k,(vs.getD i undef).ownBlock=some k→ow k=some i:=fun i=>Ve (hex i)
 let Ap:Nat→Nat→Bool:=fun i k=>decide ((vs.getD i undef).ownBlock=some k)&&(match l[i]? with|some (.row ..)=>true|_=>false)
 let τ:Im:={c:=fun k o=>match ow k with|some i=>(bif Ap i k then(cs i)[o]? else none)|none=>σ'.c k o,m:=σ'.m}
 have jQ:σ'.le τ:=by
  refine⟨fun k o x hx=>?_,fun k x hx=>hx⟩;cases hk:ow k with
  |none=>simp only[τ,hk];exact hx
  |some i=>have:=(sP k i hk).2.2.1 o;rw[this] at hx;cases hx
 have w5:∀i k,Ap i k=true→∃T e,l[i]?=some (.row T e)∧(vs.getD i undef).ownBlock=some k:=fun i k hk=>by
  simp only[Ap,ao,decide_eq_true_eq] at hk;obtain⟨bl,bE⟩:=hk;split at bE
  ·rename_i T e hl;exact⟨T,e,hl,bl⟩
  ·cases bE
 refine⟨_,τ,rfl,hle.trans jQ,⟨fun k o x hx=>?_,aB.m⟩,hb,fun k o x hx=>?_,cR,?_⟩
 ·simp only[τ] at hx;split at hx
  ·rename_i i hi;cases hr:Ap i k with
   |false=>rw[hr] at hx;cases hx
   |true=>
    rw[hr,cond_true] at hx;obtain⟨T,e,hl,nW⟩:=w5 i k hr;obtain⟨xs,g1,g2,g3,g4⟩:=dz i T e hl;have:=g2.cells nW o x hx;rw[se] at this;simpa using this
  ·exact aB.c k o x hx
 ·simp only[τ] at hx;split at hx
  ·rename_i i hi;exact .inr (sP k i hi).1
  ·exact da k o x hx
 ·simp only[lW,hr];have hlen:=Q0 l;refine .agg (lN l) vs ds (by omega) (by omega) (fun i t hi=>?_) (fun i t hi=>?_)
  ·rcases Kh hi with hl|⟨T,e,hl,rfl⟩
   ·exact(dP i _ hl).2.mono jQ
   ·obtain⟨xs,g1,g2,⟨us,g3,g4⟩,g5⟩:=dz i T e hl;rw[g1];rcases g2.2 with⟨e1,e2⟩|⟨g,cap,cur,e1,e2,e3,e4,e5,e6,e7⟩
    ·rw[e1];have:xs=[]:=Lm e2;subst this;exact .nil _
    ·rw[e1];have nW:(vs.getD i undef).ownBlock=some g:=by rw[e1];rfl
     refine .slice e.rol g 0 xs.length cap xs us rfl e4 e5 (fun i x hx=>((g3 i x hx).mono jQ).unf_rol) (fun j m u hj hu=>?_);rw[Ty.rol_size];have hR:Ap i g=true:=by simp only[Ap,nW,hl];simp
     simp only[τ,g5 g nW,hR,cond_true,gF];exact g4 j m u hj hu
  ·rcases Kh hi with hl|⟨T,e,hl,rfl⟩
   ·exact(dP i _ hl).1
   ·rfl
theorem afT {C:Ctx}{fr:List Nat}{dst f:Nat}{s s':Sig}{ds:List D}{d:D}(hs:Cm fr dst s=some s')(hm:s'.mode=.dat)(h:pW s.mode=false→iv C f s ds d):iv C f s' ds d:=by
 unfold Cm at hs;split at hs
 ·rename_i l hl;cases hb:(!(fr.any (Nat.beq (2000000+dst)))&&Ty.beq s.res (.agg (lN l)))<;>simp only[hb,cond_true,cond_false] at hs
  ·cases hs;rw[hl] at hm;cases hm
  ·cases hs;simp only[ao] at hb;exact iv.asDat hl (Ty.beq_eq _ _ hb.2) (h (by rw[hl];rfl))
 ·cases hs;exact h (by rw[hm];rfl)
def pA (C:Ctx)(S:St)(gs:List (Nat×Bool))(dst:Nat)(f:Nat)(args:List Operand):Option (St×Sh×List PI):=
 ((C.sig f).bind (Cm C.fr dst)).bind fun s=>
   match s.mode with
   |.dat=>
    (kD C (S.fzs (bT S gs args)) gs args).bind fun u=>
      bif Ty.subs u.1 s.args then some (bif s.res.pure then S else S.fzs (bT S gs args),.dat s.res,[.call gs dst f u.2]) else Option.none
   |_=>Option.none
def Ct (C:Ctx)(S:St)(dst:Nat)(f:Nat)(args:List Operand):kH:=
 (C.sig f).bind fun s=>
    match s.mode with
    |.row T e=>
     (kD C (S.fzs (bT S [] args)) [] args).bind fun u=>
       bif Ty.subs u.1 s.args then some (mkObj (bif e.pure then S else S.fzs (bT S [] args)) dst (.row T e),[.call [] dst f u.2,.setO dst (.r dst),.setR dst (.con .none)]) else Option.none
    |_=>Option.none
def iY (dst:Nat)(l:List RC)(j:Nat):Option (Nat×TypeId×Ty):=
 bif Nat.beq (j%4096) dst&&Nat.ble 4096 j then(match l[j/4096-1]? with|some (.row T e)=>some (j/4096-1,T,e)|_=>Option.none) else Option.none
theorem acz {dst i:Nat}{l:List RC}{T:TypeId}{e:Ty}(hd:dst<4096)(h:l[i]?=some (.row T e)):iY dst l (gu dst i)=some (i,T,e):=by
 unfold iY gu;have e1:(4096*(i+1)+dst)%4096=dst:=by omega
 have e2:(4096*(i+1)+dst)/4096-1=i:=by omega
 have e3:Nat.ble 4096 (4096*(i+1)+dst)=true:=Nat.ble_eq_true_of_le (by omega);rw[e1,e2,e3,h,gE];rfl
theorem aqk {dst i j:Nat}{l:List RC}{T:TypeId}{e:Ty}(h:iY dst l j=some (i,T,e)):j=gu dst i∧l[i]?=some (.row T e):=by
 unfold iY at h;cases hb:(Nat.beq (j%4096) dst&&Nat.ble 4096 j)<;>simp only[hb,cond_true,cond_false] at h
 ·cases h
 simp only[ao] at hb;have h1:=az hb.1;have h2:=jI hb.2;split at h
 ·rename_i hl;cases h;exact⟨by unfold gu;omega,hl⟩
 ·cases h
def St.newRows (S:St)(dst:Nat)(l:List RC):St:=⟨S.r,fun j=>match iY dst l j with|some x=>.row x.2.1 x.2.2|Option.none=>S.o j,fun j=>match iY dst l j with|some _=>S.ver j+1|Option.none=>S.ver j⟩
def nz (S:St)(dst:Nat):List RC→Nat→List AgC
 |[],_=>[]
 |.dat t::l,i=>.dat t::nz S dst l (i+1)
 |.row ..::l,i=>.obj (gu dst i) (S.ver (gu dst i)+1)::nz S dst l (i+1)
def Be (dst:Nat):List RC→Nat→List PI
 |[],_=>[]
 |.dat _::l,i=>Be dst l (i+1)
 |.row ..::l,i=>.setO (gu dst i) (.cell (.r dst) i)::Be dst l (i+1)
def Cu (C:Ctx)(S:St)(dst:Nat)(f:Nat)(args:List Operand):kH:=
 (C.sig f).bind fun s=>
    match s.mode with
    |.rows l=>
     (kD C (S.fzs (bT S [] args)) [] args).bind fun u=>
       bif Ty.subs u.1 s.args&&Nat.blt dst 4096 then
         some (((S.fzs (bT S [] args)).newRows dst l).setR dst (.agg (nz (S.fzs (bT S [] args)) dst l 0)),.call [] dst f u.2::Be dst l 0) else Option.none
    |_=>Option.none
theorem acA (S:St)(dst:Nat):∀(l:List RC) (i:Nat),(nz S dst l i).length=l.length∧∀(n:Nat) (c:AgC),(nz S dst l i)[n]?=some c→(∃t,l[n]?=some (.dat t)∧c=.dat t)∨∃T e,l[n]?=some (.row T e)∧c=.obj (gu dst (i+n)) (S.ver (gu dst (i+n))+1)
 |[],i=>⟨rfl,fun n c h=>by simp[nz] at h⟩
 |x::l,i=>by
  obtain⟨h1,h2⟩:=acA S dst l (i+1);have e:∀n,i+1+n=i+(n+1):=fun n=>by omega
  cases x with
  |dat t=>
   refine⟨by simp[nz,h1],fun n c h=>?_⟩;cases n with
   |zero=>simp[nz] at h;exact .inl ⟨t,rfl,h.symm⟩
   |succ n=>simp only[nz,F0] at h ⊢;have:=h2 n c h;rwa [e] at this
  |row T y=>
   refine⟨by simp[nz,h1],fun n c h=>?_⟩;cases n with
   |zero=>simp[nz] at h;exact .inr ⟨T,y,rfl,by rw[iw];exact h.symm⟩
   |succ n=>simp only[nz,F0] at h ⊢;have:=h2 n c h;rwa [e] at this
theorem QZ (Φ:aQ)(dst:Nat):∀(l:List RC) (i:Nat) (ρ ρ':Env),PI.runs Φ (Be dst l i) ρ=some ρ'→ρ'.r=ρ.r∧(∀j,(∀(n:Nat) (T:TypeId) (e:Ty),l[n]?=some (.row T e)→j≠gu dst (i+n))→ρ'.o j=ρ.o j)∧
 ∀(n:Nat) (T:TypeId) (e:Ty),l[n]?=some (.row T e)→ρ'.o (gu dst (i+n))=(ρ.r dst).c (i+n)
 |[],i,ρ,ρ',h=>by
  simp only[Be,PI.runs,aU] at h;subst h;exact⟨rfl,fun _ _=>rfl,fun n T e h=>by simp at h⟩
 |x::l,i,ρ,ρ',h=>by
  have e:∀n,i+1+n=i+(n+1):=fun n=>by omega
  cases x with
  |dat t=>
   obtain⟨h1,h2,h3⟩:=QZ Φ dst l (i+1) ρ ρ' h;refine⟨h1,fun j hj=>h2 j fun n T y hn=>by rw[e];exact hj (n+1) T y (by simpa using hn),fun n T y hn=>?_⟩;cases n with
   |zero=>simp at hn
   |succ n=>have:=h3 n T y (by simpa using hn);rwa [e] at this
  |row T0 y0=>
   simp only[Be,PI.runs,PI.run,j9] at h;obtain⟨h1,h2,h3⟩:=QZ Φ dst l (i+1) _ ρ' h;refine⟨h1,fun j hj=>?_,fun n T y hn=>?_⟩
   ·rw[h2 j fun n T y hn=>by rw[e];exact hj (n+1) T y (by simpa using hn)];exact bq _ _ (by have:=hj 0 T0 y0 rfl;rwa [iw] at this)
   ·cases n with
    |zero=>
     rw[iw,h2 _ fun n T y hn=>by unfold gu;omega];exact aL _ _ _
    |succ n=>have:=h3 n T y (by simpa using hn);rwa [e] at this
def Cs (C:Ctx)(S:St)(dst:Nat)(f:Nat)(args:List Operand):kH:=
 (C.sig f).bind fun s=>
    match s.mode,args with
    |.ob shs obs,x::xs=>
     match Jk shs obs,fw S [] x with
     |some m,.obj j ver=>
      match S.o j with
      |.row T e=>
       bif Nat.beq ver (S.ver j)&&(Nat.beq T m.1&&Ty.beq e m.2.1) then
            (kD C S [] xs).bind fun u=>
             bif Ty.subs u.1 m.2.2 then some ((S.newO j (.row T e)).setR dst (.obj j (S.ver j+1)),[.call [] dst f (.o j::u.2),.setO j (.r dst),.setR dst (.con .none)]) else Option.none
       else Option.none
      |_=>Option.none
     |_,_=>Option.none
    |_,_=>Option.none
def nQ (C:Ctx)(S:St)(gs:List (Nat×Bool))(dst:Nat)(x:Operand)(args:List Operand):Option (St×Sh×List PI):=
 match use C S gs x with
 |some (.fn aa r,e)=>
  match mf aa r with
  |some _=>Option.none
  |Option.none=>
  (kD C (S.fzs (bT S gs args)) gs args).bind fun u=>
    bif Ty.subs u.1 aa then some (bif r.pure then S else S.fzs (bT S gs args),.dat r,[.callc gs dst e u.2]) else Option.none
 |_=>Option.none
theorem nS:∀(js:List Nat) (S:St),(S.fzs js).ver=S.ver∧(S.fzs js).r=S.r
 |[],S=>⟨rfl,rfl⟩
 |j::js,S=>by
  obtain⟨h1,h2⟩:=nS js (S.fz j);obtain⟨k1,k2⟩:=HX S j;exact⟨h1.trans k1,h2.trans k2⟩
section
variable {C:Ctx} {S:St} {ρ:Env} {σ:Im} {own:Nat→Option Nat} {hv:Nat→Value} {w0:World} {σ0:Base} {A:Nat→Prop} {a:Act} {w:World} {gs:List (Nat×Bool)} {Φ:aQ} {dst:Nat}
theorem Inv.fzs:∀(js:List Nat) {S:St} {σ:Im} {own:Nat→Option Nat},Inv C S ρ σ own hv w0 σ0 A a w→∃σ' own',σ.le σ'∧Inv C (S.fzs js) ρ σ' own' hv w0 σ0 A a w
 |[],S,σ,own,h=>⟨σ,own,.refl σ,h⟩
 |j::js,S,σ,own,h=>by
  obtain⟨σ1,dp,hle,h1⟩:=h.fz j;obtain⟨σ2,iW,jQ,h2⟩:=Inv.fzs js h1;exact⟨σ2,iW,hle.trans jQ,h2⟩
theorem Inv.world (h:Inv C S ρ σ own hv w0 σ0 A a w){σ':Im}{w':World}(hle:σ.le σ')(aB:σ'.ok w')(hb:Below w.heap.size w w')(da:∀k o x,σ'.c k o=some x→σ.c k o=some x∨w.heap.size≤k)
 (cR:∀k x,σ'.m k=some x→σ.m k=some x∨w.heap.size≤k):Inv C S ρ σ' own hv w0 σ0 A a w':=by
 have aK:=h.below.size;refine h.step (fun _=>False) rfl hle aB (fun k o x hx=>(da k o x hx).imp id (fun e=>⟨by omega,.inr e⟩)) (fun k x hx=>(cR k x hx).imp id (fun e=>⟨by omega,.inr e⟩)) (hb.mono aK) (.refl S hv) (fun j _=>⟨rfl,rfl,rfl,fun k hk=>⟨hk,hb.block k (h.owns k j hk).2.1⟩⟩) (fun _ hf=>hf.elim) (fun k j hk=>?_) (fun _=>id) (fun t=>.inl ⟨rfl,rfl,rfl⟩) (fun _ _=>rfl) (fun k hk _=>hb.block k hk) (fun k i hk=>.inl ⟨i,hk⟩) (fun _ hf=>hf.elim);obtain⟨g1,g2,g3,g4⟩:=h.owns k j hk;refine⟨g1,by have:=hb.size;omega,fun o=>?_,?_⟩
 ·cases hc:σ'.c k o with
  |none=>rfl
  |some x=>rcases da k o x hc with e|e
           ·rw[g3 o] at e;cases e
           ·omega
 ·cases hc:σ'.m k with
  |none=>rfl
  |some x=>rcases cR k x hc with e|e
           ·rw[g4] at e;cases e
           ·omega
theorem CtxOK.mono {C:Ctx}{σ σ':Im}(h:CtxOK C σ)(hle:σ.le σ'):CtxOK C σ':=⟨fun g x hx=>(h.glob g x hx).mono hle⟩
theorem By (h:Inv C S ρ σ own hv w0 σ0 A a w)(hC:CtxOK C σ0)(hg:holds gs ρ=true){xs:List Operand}{u:List Ty×List PE}{ts:List Ty}(hu:kD C S gs xs=some u)(hs:Ty.subs u.1 ts=true):oU C σ ts (xs.map a.eval) (PE.evs ρ u.2):=by
 obtain⟨l1,l2,aO⟩:=adX h hC hg _ _ hu;have hl:=Ty.subs_len _ _ hs;refine⟨by rw[gT];omega,by rw[PE.evs_eq,gT];omega,fun i t hi=>?_⟩;obtain⟨s,eI,bM⟩:=Ty.subs_get _ _ hs i t hi;exact(aO i s eI).sub bM
theorem Fy {o:Oper}{f:Nat}{args:Array Operand}{ts:Array TypeId}(be:dx C){s:Sig}(hs:C.sig f=some s)(ho:o.op=.call {callee:=.value (.func f),args:=args,argTypes:=ts}):
 (execOp a.eval o).run C.P w=.ok (.enter f (args.map a.eval)) w:=by
 obtain⟨fn,h1,h2,h3⟩:=be.2 f s hs;obtain⟨bd,iK⟩:=Vx.1 h2;have h4:¬fn.name= "runtime.NumGoroutine" :=by simpa using h3
 simp[execOp,ho,resolve,Act.eval,Deferred.ofValue,invoke,callFunc,h1,iK,h4]
theorem adi {o:Oper}{x:Operand}{f:Nat}{vs:List Value}{args:Array Operand}{ts:Array TypeId}(be:dx C){s:Sig}(hs:C.sig f=some s)(hx:a.eval x=.func (.func f) #[] vs.toArray)(ho:o.op=.call {callee:=.value x,args:=args,argTypes:=ts}):
 (execOp a.eval o).run C.P w=.ok (.enter f (args.map a.eval++vs.toArray)) w:=by
 obtain⟨fn,h1,h2,h3⟩:=be.2 f s hs;obtain⟨bd,iK⟩:=Vx.1 h2;have h4:¬fn.name= "runtime.NumGoroutine" :=by simpa using h3
 simp[execOp,ho,resolve,hx,Deferred.ofValue,invoke,callFunc,h1,iK,h4]
theorem VY (h:Inv C S ρ σ own hv w0 σ0 A a w)(hC:CtxOK C σ0)(ht:¬A dst)(ah:dst<a.tmps.size)(dt:∀g,g∈gs→A g.1)(hg:holds gs ρ=true){f:Nat}{s:Sig}{js:List Nat}{vals:List Value}{ds:List D}{d:D}(kR:s.mode=.dat)(hfn:iv C f s ds d)
 (iL:∀σ1 dp,σ.le σ1→Inv C (S.fzs js) ρ σ1 dp hv w0 σ0 A a w→oU C σ1 s.args vals ds) {K:Act→World→Prop} {Q:Exit→Act→World→Prop}
 (hK:∀a' w',Good C w0 σ0 ((bif s.res.pure then S else S.fzs js).setR dst (jf gs (.dat s.res))) (ρ.setR dst d) (fun u=>A u∨u=dst) a' w'→a'.tmps.size=a.tmps.size→K a' w'):
 Calls C.P f vals.toArray w (fun e kF=>match e with|.returned v=>K (a.put (some dst) v) kF|.panicked chain=>Q (.panic chain) a kF|.outgrown=>LetsOut Q):=by
 obtain⟨σ1,dp,lu,h1⟩:=Inv.fzs js h;have pK:=hfn σ1 w vals.toArray h1.ok (hC.mono h1.le) (by simpa using iL σ1 dp lu h1);refine pK.mono fun e w' hh=>?_;obtain⟨v,σ',rfl,hle,aB,hb,da,cR,fI⟩:=hh;simp only[lW,kR] at fI;refine hK _ _ ?_ (size_put _ _ _);have hh:holds gs (ρ.setR dst d)=true:=by rw[Dz (t:=dst) (d:=d) fun g hm e=>ht (by rw[←e];exact dt g hm)];exact hg
 have put:∀{S2:St} {σ2:Im} {iW:Nat→Option Nat},Inv C S2 ρ σ2 iW hv w0 σ0 A a w'→Rep C.cap σ2 s.res v d→Good C w0 σ0 (S2.setR dst (jf gs (.dat s.res))) (ρ.setR dst d) (fun u=>A u∨u=dst) (a.put (some dst) v) w':=by
  intro S2 σ2 iW h2 hr;cases gs with
  |nil=>exact⟨_,_,_,h2.setReg ht (s:=.dat s.res) hr ah (fun _ _ e=>by cases e)⟩
  |cons g bR=>
   refine⟨_,_,_,h2.setReg ht (s:=.opt (g::bR) (.dat s.res)) ⟨fun _=>hr,fun e=>absurd (hh.symm.trans e) (by decide)⟩ ah (fun gs s e=>?_)⟩;cases e;exact⟨dt,fun _ _ e=>by cases e⟩
 cases hp:s.res.pure with
 |true=>
  simp only[cond_true];exact put (h.world (.refl σ) (h.ok.below hb) hb (fun _ _ _ hx=>.inl hx) (fun _ _ hx=>.inl hx)) (fI.pure hp)
 |false=>
  simp only[cond_false];exact put (h1.world hle aB hb da cR) fI
theorem Cb {o:Oper}{f:Nat}{args:Array Value}{K:Act→World→Prop}{Q:Exit→Act→World→Prop}(hd:o.dst=some dst)(hx:(execOp a.eval o).run C.P w=.ok (.enter f args) w)
 (h:Calls C.P f args w (fun e kF=>match e with|.returned v=>K (a.put (some dst) v) kF|.panicked chain=>Q (.panic chain) a kF|.outgrown=>LetsOut Q)):o.wp C.P a w K Q:=by
 simp only[Oper.wp,hx,Oper.upon,hd];refine h.mono fun e kF hh=>?_;cases e<;>exact hh
theorem agp (h:Inv C S ρ σ own hv w0 σ0 A a w)(hC:CtxOK C σ0)(be:dx C)(hΦ:di C Φ)(ht:¬A dst)(ah:dst<a.tmps.size)(dt:∀g,g∈gs→A g.1)(hg:holds gs ρ=true){f:Nat}{args:Array Operand}{ts:Array TypeId}{r:St×Sh×List PI}
 (hr:pA C S gs dst f args.toList=some r) {o:Oper} (hd:o.dst=some dst) (ho:o.op=.call {callee:=.value (.func f),args:=args,argTypes:=ts}):bZ C w0 σ0 Φ S ρ A a w o (r.1.setR dst (jf gs r.2.1),r.2.2):=by
 simp only[pA,av] at hr;obtain⟨s,⟨s0,hs,pU⟩,hr⟩:=hr;split at hr
 case h_2=>cases hr
 rename_i kR;simp only[av] at hr;obtain⟨u,hu,hr⟩:=hr;cases bS:Ty.subs u.1 s.args<;>simp only[bS,cond_true,cond_false] at hr
 ·cases hr
 cases hr;intro ρ' ak K Q hK;simp only[PI.runs,PI.run,hg,cond_true,av,aA] at ak;obtain⟨ρ1,⟨d,bo,rfl⟩,ak⟩:=ak;cases ak;have hfn:=afT pU kR (hΦ f _ d bo s0 hs).1;refine Cb hd (Fy be hs ho) ?_;have jV:args.map a.eval=(args.toList.map a.eval).toArray:=by apply rO;rw[vM]
 rw[jV];have gK:(fun u=>A u∨o.dst=some u)=(fun u=>A u∨u=dst):=by funext u;rw[hd];simp[eq_comm]
 rw[gK] at hK;exact VY h hC ht ah dt hg (js:=bT S gs args.toList) kR hfn (fun σ1 dp _ h1=>By h1 hC hg hu bS) hK
theorem agf (h:Inv C S ρ σ own hv w0 σ0 A a w)(hC:CtxOK C σ0)(be:dx C)(hΦ:di C Φ)(ht:¬A dst)(ah:dst<a.tmps.size)(dt:∀g,g∈gs→A g.1)(hg:holds gs ρ=true){x:Operand}{args:Array Operand}{ts:Array TypeId}{r:St×Sh×List PI}
 (hr:nQ C S gs dst x args.toList=some r) {o:Oper} (hd:o.dst=some dst) (ho:o.op=.call {callee:=.value x,args:=args,argTypes:=ts}):bZ C w0 σ0 Φ S ρ A a w o (r.1.setR dst (jf gs r.2.1),r.2.2):=by
 unfold nQ at hr;split at hr
 case h_2=>cases hr
 rename_i aa r0 e OO;split at hr
 case h_1=>cases hr
 rename_i NR;simp only[av] at hr;obtain⟨u,hu,hr⟩:=hr;cases bS:Ty.subs u.1 aa<;>simp only[bS,cond_true,cond_false] at hr
 ·cases hr
 cases hr;have hx:=cq h hC hg OO;intro ρ' ak K Q hK;simp only[PI.runs,PI.run,hg,cond_true,av] at ak;obtain⟨ρ1,oh,ak⟩:=ak;cases ak;split at oh
 case h_2=>cases oh
 rename_i f caps bQ;simp only[aA] at oh;obtain⟨d,bo,rfl⟩:=oh;rw[bQ] at hx;generalize fF:a.eval x=xv at hx;generalize bh:Ty.fn aa r0=ty at hx;cases hx with
 |fn f cs vs ds hc h1 h2 aO=>
  cases bh;have hs:=be.1 f cs hc NR;have hfn:=(hΦ f _ d bo _ hs).1 rfl;refine Cb hd (adi be hs fF ho) ?_;have jV:args.map a.eval++vs.toArray=(args.toList.map a.eval++vs).toArray:=by apply rO;simp
  rw[jV];have gK:(fun u=>A u∨o.dst=some u)=(fun u=>A u∨u=dst):=by funext u;rw[hd];simp[eq_comm]
  rw[gK] at hK;refine VY h hC ht ah dt hg (js:=bT S gs args.toList) (s:=⟨cs.args++cs.caps,cs.res,.dat⟩) rfl hfn (fun σ1 dp lu i1=>?_) hK;obtain⟨g1,g2,g3⟩:=By i1 hC hg hu bS;refine⟨by simp only[jG,g1,h1],by simp only[jG,g2,h2],fun i t hi=>?_⟩;rw[lU] at hi;split at hi
  ·rename_i ah;have:=g3 i t hi;rw[aJ,aJ,jF (by omega),jF (by omega)];simpa [aJ] using this
  ·rename_i ff;have:=(aO _ t hi).mono lu;rw[aJ,aJ,kI (by omega),kI (by omega),g1,g2];simpa [aJ] using this
theorem agk (h:Inv C S ρ σ own hv w0 σ0 A a w)(hC:CtxOK C σ0)(be:dx C)(hΦ:di C Φ)(ht:¬A dst)(ah:dst<a.tmps.size){f:Nat}{args:Array Operand}{ts:Array TypeId}{r:St×List PI}
 (hr:Ct C S dst f args.toList=some r) {o:Oper} (hd:o.dst=some dst) (ho:o.op=.call {callee:=.value (.func f),args:=args,argTypes:=ts}):bZ C w0 σ0 Φ S ρ A a w o r:=by
 simp only[Ct,av] at hr;obtain⟨s,hs,hr⟩:=hr;split at hr
 case h_2=>cases hr
 rename_i T e kR;simp only[av] at hr;obtain⟨u,hu,hr⟩:=hr;cases bS:Ty.subs u.1 s.args<;>simp only[bS,cond_true,cond_false] at hr
 ·cases hr
 cases hr;intro ρ' ak K Q hK;have Di:holds ([]:List (Nat×Bool)) ρ=true:=rfl;simp only[PI.runs,PI.run,Di,cond_true,av,aA] at ak;obtain⟨ρ1,⟨d,bo,rfl⟩,ρ2,g2,ρ3,g3,g4⟩:=ak;cases g2;cases g3;cases g4;have hfn:=(hΦ f _ d bo s hs).1 (by rw[kR];rfl);obtain⟨σ1,dp,lu,h1⟩:=Inv.fzs (bT S [] args.toList) h;have jV:args.map a.eval=(args.toList.map a.eval).toArray:=by apply rO;rw[vM]
 refine Cb hd (Fy be hs ho) ?_;rw[jV];have pK:=hfn σ1 w (args.toList.map a.eval).toArray h1.ok (hC.mono h1.le) (by simpa using By h1 hC rfl hu bS);refine pK.mono fun e' w' hh=>?_;obtain⟨v,σ',rfl,hle,aB,hb,da,cR,fI⟩:=hh;simp only[lW,kR] at fI;obtain⟨cells,xs,rfl,cm,jk,m5⟩:=fI;refine hK _ _ ?_ (size_put _ _ _);have gK:(fun u=>A u∨o.dst=some u)=(fun u=>A u∨u=dst):=by funext u;rw[hd];simp[eq_comm]
 rw[gK];have main:∀{S2:St} {σ1 σ2:Im} {iW:Nat→Option Nat},Inv C S2 ρ σ1 iW hv w0 σ0 A a w→σ1.le σ2→σ2.ok w'→(∀k o x,σ2.c k o=some x→σ1.c k o=some x∨w.heap.size≤k)→(∀k x,σ2.m k=some x→σ1.m k=some x∨w.heap.size≤k)→eh C.cap σ2 e cells xs→(∀k,v.ownBlock=some k→(∀o,σ2.c k o=none)∧σ2.m k=none)→
  Good C w0 σ0 (mkObj S2 dst (.row T e)) ((ρ.setO dst (.list xs)).setR dst .none) (fun u=>A u∨u=dst) (a.put (some dst) v) w':=by
  intro S2 σ1 σ2 iW h2 jQ Og akz akC ajJ ajP;have aK:=h1.below.size
  have lz:=h2.newOσ dst (.row T e) (.list xs) v (fun k=>decide (v.ownBlock=some k)) jQ Og akz akC hb (fun k hk=>cm.lt k (by simpa using hk)) (fun k hk=>ajP k (by simpa using hk)) ⟨cells,xs,by simp[Env.setO,aL],by
        rw[aL];refine⟨cm.1,?_⟩;rcases cm.2 with e1|⟨g,cap,cur,e1,e2,e3⟩
        ·exact .inl e1
        ·exact .inr ⟨g,cap,cur,e1,by omega,e3⟩,ajJ,fun k hk=>by rw[aL] at hk;simp[fq,hk]⟩
  have Yd:=lz.setObj ht (j:=dst) (v:=v) (aL _ _ _) ah;have e:(S2.newO dst (.row T e)).ver dst=S2.ver dst+1:=aL _ _ _;rw[e] at Yd;exact⟨_,_,_,Yd⟩
 have eρ:((ρ.setR dst (.list xs)).setO dst ((PE.r dst).ev (ρ.setR dst (.list xs)))).setR dst ((PE.con D.none).ev ((ρ.setR dst (.list xs)).setO dst ((PE.r dst).ev (ρ.setR dst (.list xs)))))=(ρ.setO dst (.list xs)).setR dst .none:=by
  have:∀d1 d2:D,bY (bY ρ.r dst d1) dst d2=bY ρ.r dst d2:=by
   intro d1 d2;funext i;simp only[eV];split<;>rfl
  simp[Env.setR,Env.setO,PE.ev,aL,this]
 show Good C w0 σ0 _ _ _ _ _;rw[eρ];cases hp:e.pure with
 |true=>
  simp only[cond_true];refine main h (.refl σ) (h.ok.below hb) (fun _ _ _ hx=>.inl hx) (fun _ _ hx=>.inl hx) ?_ (fun k hk=>?_)
  ·obtain⟨vs,k1,k2⟩:=jk;exact⟨vs,fun i x hx=>(k1 i x hx).pure hp,k2⟩
  ·obtain⟨f1,f2⟩:=m5 k hk;refine⟨fun o=>?_,?_⟩
   ·cases hc:σ.c k o with
    |none=>rfl
    |some x=>have:=hle.c _ _ _ (lu.c _ _ _ hc);rw[f1 o] at this;cases this
   ·cases hc:σ.m k with
    |none=>rfl
    |some x=>have:=hle.m _ _ (lu.m _ _ hc);rw[f2] at this;cases this
 |false=>
  simp only[cond_false];exact main h1 hle aB da cR jk m5
theorem agm (h:Inv C S ρ σ own hv w0 σ0 A a w)(hC:CtxOK C σ0)(be:dx C)(hΦ:di C Φ)(ht:¬A dst)(ah:dst<a.tmps.size){f:Nat}{args:Array Operand}{ts:Array TypeId}{r:St×List PI}
 (hr:Cu C S dst f args.toList=some r) {o:Oper} (hd:o.dst=some dst) (ho:o.op=.call {callee:=.value (.func f),args:=args,argTypes:=ts}):bZ C w0 σ0 Φ S ρ A a w o r:=by
 simp only[Cu,av] at hr;obtain⟨s,hs,hr⟩:=hr;split at hr
 case h_2=>cases hr
 rename_i l kR;simp only[av] at hr;obtain⟨u,hu,hr⟩:=hr;cases bS:(Ty.subs u.1 s.args&&Nat.blt dst 4096)<;>simp only[bS,cond_true,cond_false] at hr
 ·cases hr
 cases hr;simp only[ao,ix] at bS;obtain⟨bS,qT⟩:=bS;intro ρ' ak K Q hK;have Di:holds ([]:List (Nat×Bool)) ρ=true:=rfl;simp only[PI.runs,PI.run,Di,cond_true,av,aA] at ak;obtain⟨ρ1,⟨d,bo,rfl⟩,ak⟩:=ak;have hfn:=(hΦ f _ d bo s hs).1 (by rw[kR];rfl);obtain⟨σ1,dp,lu,h1⟩:=Inv.fzs (bT S [] args.toList) h;generalize S.fzs (bT S [] args.toList)=S1 at hu h1 hK ⊢;have jV:args.map a.eval=(args.toList.map a.eval).toArray:=by apply rO;rw[vM]
 refine Cb hd (Fy be hs ho) ?_;rw[jV];have pK:=hfn σ1 w (args.toList.map a.eval).toArray h1.ok (hC.mono h1.le) (by simpa using By h1 hC rfl hu bS);refine pK.mono fun e' w' hh=>?_;obtain⟨v,σ',rfl,hle,aB,hb,da,cR,fI⟩:=hh;simp only[lW,kR] at fI;obtain⟨vs,ds,ow,rfl,rfl,l1,l2,dP,sP⟩:=fI;refine hK _ _ ?_ (size_put _ _ _);have gK:(fun u=>A u∨o.dst=some u)=(fun u=>A u∨u=dst):=by funext u;rw[hd];simp[eq_comm]
 rw[gK];obtain⟨r1,r2,r3⟩:=QZ Φ dst l 0 _ ρ' ak;simp only[gF] at r2 r3;have acU:(ρ.setR dst (.agg ds)).r dst=.agg ds:=aL _ _ _;rw[acU] at r3;have aK:=h1.below.size
 let W:Nat→Prop:=fun j=>∃x,iY dst l j=some x
 let own':Nat→Option Nat:=fun k=>match ow k with
  |some i=>some (gu dst i)
  |none=>match dp k with
   |some j=>match iY dst l j with|some _=>none|none=>some j
   |none=>none
 let hv':Nat→Value:=fun j=>match iY dst l j with|some x=>vs.getD x.1 undef|none=>hv j
 have N6:∀j,¬W j→iY dst l j=none:=fun j hj=>by
  cases e:iY dst l j with
  |none=>rfl
  |some x=>exact absurd ⟨x,e⟩ hj
 have fH:∀j,¬W j→ρ'.o j=ρ.o j:=fun j hj=>r2 j fun n T e hn e1=>hj ⟨(n,T,e),by rw[e1];exact acz qT hn⟩
 have wP:∀k j,dp k=some j→ow k=none:=fun k j hk=>by
  cases e:ow k with
  |none=>rfl
  |some i=>have:=sP k i e;have:=h1.owns k j hk;omega
 have qP:Compat S1 hv ((S1.newRows dst l).setR dst (.agg (nz S1 dst l 0))) hv':=⟨fun j=>by
  show S1.ver j≤(match iY dst l j with|some _=>S1.ver j+1|none=>S1.ver j);split
  ·exact Nat.le_succ _
  ·exact bk _,fun j e=>by
  have e:(match iY dst l j with|some _=>S1.ver j+1|none=>S1.ver j)=S1.ver j:=e;show(match iY dst l j with|some x=>vs.getD x.1 undef|none=>hv j)=hv j;cases hj:iY dst l j with
  |none=>rfl
  |some x=>rw[hj] at e;simp only at e;omega⟩
 refine⟨σ',own',hv',?_⟩
 refine h1.step (w':=w') W rfl hle aB (fun k o x hx=>(da k o x hx).imp id fun e=>⟨by omega,.inr e⟩) (fun k x hx=>(cR k x hx).imp id fun e=>⟨by omega,.inr e⟩) (hb.mono aK) qP
  (fun j hj=>⟨?_,fH j hj,?_,fun k hk=>⟨?_,hb.block k (h1.owns k j hk).2.1⟩⟩) (fun j hj=>?_) (fun k i hk=>?_) (fun _=>.inl) (fun t=>?_) (fun t hA=>?_) (fun k hk _=>hb.block k hk) (fun k i hk=>?_) (fun j hj=>?_)
 ·show(match iY dst l j with|some x=>Ob.row x.2.1 x.2.2|none=>S1.o j)=S1.o j;rw[N6 j hj]
 ·show(match iY dst l j with|some x=>vs.getD x.1 undef|none=>hv j)=hv j;rw[N6 j hj]
 ·show own' k=some j;simp only[own',wP k j hk,hk,N6 j hj]
 ·obtain⟨⟨i,T,e⟩,hx⟩:=hj;obtain⟨rfl,hi⟩:=aqk hx;show cn C _ ρ' σ' own' hv' w' w0.heap.size (gu dst i) (match iY dst l (gu dst i) with|some x=>Ob.row x.2.1 x.2.2|none=>S1.o (gu dst i));rw[hx];obtain⟨cells,xs,g1,g2,g3,g4⟩:=dP i _ hi;have e2:hv' (gu dst i)=vs.getD i undef:=by simp only[hv',hx]
  refine⟨cells,xs,?_,?_,g3,fun k hk=>?_⟩
  ·rw[r3 i T e hi];simpa [D.c,D.cells] using g1
  ·rw[e2];refine⟨g2.1,?_⟩;rcases g2.2 with e1|⟨g,cap,cur,e1,e3,e4⟩
   ·exact .inl e1
   ·exact .inr ⟨g,cap,cur,e1,by omega,e4⟩
  ·rw[e2] at hk;simp only[own',g4 k hk]
 ·simp only[own'] at hk;split at hk
  ·rename_i i' cw;have:=sP k i' cw;exact⟨by omega,this.2.1,this.2.2.1,this.2.2.2⟩
  ·split at hk
   ·rename_i j hj;obtain⟨g1,g2,g3,g4⟩:=h1.owns k j hj;refine⟨g1,by have:=hb.size;omega,fun o=>?_,?_⟩
    ·cases hc:σ'.c k o with
     |none=>rfl
     |some x=>rcases da k o x hc with e|e
              ·rw[g3 o] at e;cases e
              ·omega
    ·cases hc:σ'.m k with
     |none=>rfl
     |some x=>rcases cR k x hc with e|e
              ·rw[g4] at e;cases e
              ·omega
   ·cases hk
 ·by_cases hu:t=dst
  ·subst hu;refine .inr ⟨?_,fun gs s e=>?_⟩
   ·rw[xZ];have e3:ρ'.r t=.agg ds:=by rw[r1];exact acU
    simp only[St.setR,aL,ah,and_self,if_true,e3];obtain⟨q1,q2⟩:=acA S1 t l 0;refine⟨vs,ds,rfl,rfl,by omega,by omega,fun i c hc=>?_⟩;rcases q2 i c hc with⟨ty,hl,rfl⟩|⟨T,e,hl,rfl⟩
    ·exact dP i _ hl
    ·rw[gF];have hx:=acz qT hl;refine⟨?_,fun _=>?_⟩
     ·show S1.ver (gu t i)+1≤(match iY t l (gu t i) with|some _=>S1.ver (gu t i)+1|none=>S1.ver (gu t i));rw[hx];exact bk _
     ·simp only[hv',hx]
   ·simp only[St.setR,aL] at e;cases e
  ·refine .inl ⟨bq _ _ hu,?_,?_⟩
   ·rw[xZ];simp[hu]
   ·rw[r1];exact bq _ _ hu
 ·rw[r1];exact bq _ _ (fun e=>ht (e▸hA))
 ·simp only[own'] at hk;split at hk
  ·rename_i i' cw;exact .inr (sP k i' cw).1
  ·split at hk
   ·rename_i j hj;exact .inl ⟨j,hj⟩
   ·cases hk
 ·obtain⟨x,hx⟩:=hj;show(match iY dst l j with|some x=>Ob.row x.2.1 x.2.2|none=>S1.o j)≠.tr;rw[hx];intro e;cases e
theorem agi (h:Inv C S ρ σ own hv w0 σ0 A a w)(hC:CtxOK C σ0)(be:dx C)(hΦ:di C Φ)(ht:¬A dst)(ah:dst<a.tmps.size){f:Nat}{args:Array Operand}{ts:Array TypeId}{r:St×List PI}
 (hr:Cs C S dst f args.toList=some r) {o:Oper} (hd:o.dst=some dst) (ho:o.op=.call {callee:=.value (.func f),args:=args,argTypes:=ts}):bZ C w0 σ0 Φ S ρ A a w o r:=by
 simp only[Cs,av] at hr;obtain⟨s,hs,hr⟩:=hr;split at hr
 case h_2=>cases hr
 rename_i shs obs x xs kR iL;split at hr
 case h_2=>cases hr
 rename_i m j ver lx gM;split at hr
 case h_2=>cases hr
 rename_i T e eo;cases hb:(Nat.beq ver (S.ver j)&&(Nat.beq T m.1&&Ty.beq e m.2.1))<;>simp only[hb,cond_true,cond_false] at hr
 ·cases hr
 simp only[ao] at hb;have dQ:=az hb.1;have hT:=az hb.2.1;have he:=Ty.beq_eq _ _ hb.2.2;simp only[av] at hr;obtain⟨u,hu,hr⟩:=hr;cases bS:Ty.subs u.1 m.2.2<;>simp only[bS,cond_true,cond_false] at hr
 ·cases hr
 cases hr;intro ρ' ak K Q hK;have Di:holds ([]:List (Nat×Bool)) ρ=true:=rfl;simp only[PI.runs,PI.run,Di,cond_true,av,aA] at ak;obtain⟨ρ1,⟨d,bo,rfl⟩,ρ2,g2,ρ3,g3,g4⟩:=ak;cases g2;cases g3;cases g4;have hfn:=(hΦ f _ d bo s hs).2 shs obs kR;unfold gD at hfn;rw[lx] at hfn;simp only at hfn;rw[←hT,←he] at hfn;have cu:=(rH h (gs:=[]) rfl x).1;rw[gM] at cu;have cu:=cu.2 dQ;have bf:=h.objs j;rw[eo] at bf;obtain⟨cells,ys,h1,h2,h3,h4⟩:=bf;have jV:args.map a.eval=(a.eval x::xs.map a.eval).toArray:=by apply rO;rw[vM,iL];rfl
 refine Cb hd (Fy be hs ho) ?_;rw[jV,cu];have aK:=h.below.size
 have pK:=hfn w0.heap.size σ w (hv j) (xs.map a.eval) ys cells (PE.evs ρ u.2) (by simp[PE.evs,PE.ev,h1]) h.ok (hC.mono h.le) aK h2 h3 (fun k hk=>by
  have:=h.owns k j (h4 k hk);exact this.2) (By h hC rfl hu bS)
 refine pK.mono fun e' w' hh=>?_;obtain⟨v',j6,dF,rfl,rfl,C4,wP,akQ,ajI,Xq⟩:=hh;refine hK _ _ ?_ (size_put _ _ _);have gK:(fun u=>A u∨o.dst=some u)=(fun u=>A u∨u=dst):=by funext u;rw[hd];simp[eq_comm]
 rw[gK]
 have OQ:=h.updO j (.row T e) (.list j6) v' (fun k=>decide (v'.ownBlock=some k)) C4 (fun k hk ay=>wP k hk (fun e=>ay (h4 k e))) (fun k hk=>by
  have aW:v'.ownBlock=some k:=by simpa using hk
  exact⟨(Xq k aW).1.imp (h4 k) id,(Xq k aW).2⟩)
  ⟨dF,j6,by simp[Env.setO,aL],by rw[aL];exact akQ,ajI,fun k hk=>by rw[aL] at hk;simp[fq,hk]⟩
 have h9:=OQ.setObj ht (j:=j) (v:=v') (aL _ _ _) ah;have e1:(S.newO j (.row T e)).ver j=S.ver j+1:=aL _ _ _;rw[e1] at h9;have eρ:((ρ.setR dst (.list j6)).setO j ((PE.r dst).ev (ρ.setR dst (.list j6)))).setR dst ((PE.con D.none).ev ((ρ.setR dst (.list j6)).setO j ((PE.r dst).ev (ρ.setR dst (.list j6)))))=(ρ.setO j (.list j6)).setR dst .none:=by
  have:∀d1 d2:D,bY (bY ρ.r dst d1) dst d2=bY ρ.r dst d2:=by
   intro d1 d2;funext i;simp only[eV];split<;>rfl
  simp[Env.setR,Env.setO,PE.ev,aL,this]
 show Good C w0 σ0 _ _ _ _ _;rw[eρ];exact⟨_,_,_,h9⟩
end
def ir:Nat:=1000000013
abbrev nF:=Sh×Option (Ty×PE)
def Ga (C:Ctx)(S:St)(x:Operand):nF:=(fw S [] x,use C S [] x)
def V0 (c:Nat×Nat):nF:=(.ptr c.1 c.2 0,none)
def cH:List Nat→List Nat→Nat→Option Nat
 |i::is,j::js,k=>bif Nat.beq i k then some j else cH is js k
 |_,_,_=>none
def apb:Sh→Sh→List (Nat×Nat)
 |.obj i _,.obj j _=>[(i,j)]
 |.ptr i _ _,.ptr j _ _=>[(i,j)]
 |.fclo _ a,.fclo _ b=>(a.zip b).map fun x=>(x.1.1,x.2.1)
 |_,_=>[]
def Qn:List Sh→List Sh→List (Nat×Nat)
 |a::aa,b::bs=>apb a b++Qn aa bs
 |_,_=>[]
def apa:Ob→Ob→List (Nat×Nat)
 |.box _ a,.box _ b=>Qn a b
 |_,_=>[]
def Zo:List (Nat×Nat)→Nat→Nat
 |[],_=>ir
 |x::l,i=>bif Nat.beq x.1 i then x.2 else Zo l i
def anZ (S:St)(obs:List (Nat×Ob))(p:List (Nat×Nat)):List (Nat×Nat):=p++p.flatMap fun x=>apa (ec obs x.1) (S.o x.2)
def WJ (S:St)(shs:List Sh)(obs:List (Nat×Ob))(acts:List nF):List Nat:=obs.map fun o=>Zo (anZ S obs (Qn shs (acts.map (·.1)))) o.1
section
variable (ver:Nat→Nat) (is js:List Nat)
def Fv:List (Nat×Nat)→Option (List (Nat×Nat))
 |[]=>some []
 |x::l=>bif Nat.beq x.2 0 then(cH is js x.1).bind fun j=>(Fv l).map fun r=>(j,ver j)::r else none
def kA:Sh→Option Sh
 |.dat t=>some (.dat t)
 |.none=>some .none
 |.obj i v=>bif Nat.beq v 0 then(cH is js i).map fun j=>.obj j (ver j) else none
 |.ptr i v off=>bif Nat.beq v 0 then(cH is js i).map fun j=>.ptr j (ver j) off else none
 |.fclo f caps=>(Fv ver is js caps).map (.fclo f)
 |_=>none
def Fw:List Sh→Option (List Sh)
 |[]=>some []
 |s::l=>(kA ver is js s).bind fun a=>(Fw l).map (a::·)
def qn:Ob→Option Ob
 |.row T e=>some (.row T e)
 |.mp a b=>some (.mp a b)
 |.box ag shs=>(Fw ver is js shs).map (.box ag)
 |_=>none
end
def CL (c:Sh):Sh→Bool
 |.none=>true
 |.dat b=>match c with|.dat a=>Ty.sub a b|_=>false
 |x=>Sh.beq c x
def zI:List Sh→List Sh→Bool
 |[],[]=>true
 |a::aa,b::bs=>CL a b&&zI aa bs
 |_,_=>false
def zH:Ob→Ob→Bool
 |.box x a,.box y b=>(x==y)&&zI a b
 |.row T a,.row U b=>Nat.beq T U&&Ty.beq a b
 |.mp a b,.mp c d=>Ty.beq a c&&Ty.beq b d
 |_,_=>false
def qM (S:St)(is js:List Nat):List (Nat×Ob)→List Nat→Bool
 |[],[]=>true
 |o::obs,j::jl=>(match qn S.ver is js o.2 with|some x=>zH (S.o j) x|none=>false)&&qM S is js obs jl
 |_,_=>false
def CJ (S:St)(is js:List Nat)(a:nF)(s:Sh):Option PE:=
 match s with
 |.dat t=>(match a.2 with|some x=>bif Ty.sub x.1 t then some x.2 else none|none=>none)
 |.none=>some (.con .none)
 |s=>(match kA S.ver is js s with|some x=>bif Sh.beq a.1 x then some (.con .none) else none|none=>none)
def uh (S:St)(is js:List Nat):List nF→List Sh→Option (List PE)
 |[],[]=>some []
 |a::aa,s::ss=>(CJ S is js a s).bind fun e=>(uh S is js aa ss).map (e::·)
 |_,_=>none
def pz:List Sh→List Nat
 |[]=>[]
 |.obj i _::l=>i::pz l
 |.ptr i _ _::l=>i::pz l
 |.fclo _ c::l=>c.map (·.1)++pz l
 |_::l=>pz l
def au (l:List Nat)(x:Nat):Bool:=l.any (Nat.beq x)
def vJ (ver:Nat→Nat)(shs:List Sh)(is js:List Nat):Nat→Nat:=fun j=>match cH js is j with|some i=>bif au (pz shs) i then ver j else ver j+1|none=>ver j
def St.handed (S:St)(shs:List Sh)(obs:List (Nat×Ob))(is js:List Nat):St:=
 ⟨S.r,fun j=>match cH js is j with|some i=>(match qn (vJ S.ver shs is js) is js (ec obs i) with|some o=>o|none=>.dead)|none=>S.o j,vJ S.ver shs is js⟩
def zK (S:St):List Operand→List Sh→List Nat
 |x::xs,s::ss=>(bif nl s then bT S [] [x] else[])++zK S xs ss
 |_,_=>[]
def FC:List Nat→Nat→List PI
 |[],_=>[]
 |j::js,k=>.setO j (.tget (.o ir) k)::FC js (k+1)
def MS (S:St)(res:Ty)(f:Nat)(shs:List Sh)(obs:List (Nat×Ob))(acts:List nF)(is js:List Nat):Option (St×Ty×List PI):=
 (uh S is js acts shs).bind fun es=>
    bif xw shs obs&&(gx is&&gx js&&qM S is js obs js&&oq (S.o ir)&& !au js ir) then some (S.handed shs obs is js,res,.mcall ir f (es++js.map .o)::FC js 1) else none
def MT (C:Ctx)(S:St)(res:Ty)(f:Nat)(shs:List Sh)(obs:List (Nat×Ob))(acts:List nF):Option (St×Ty×List PI):=
 MS S res f shs obs acts (obs.map (·.1)) (WJ S shs obs acts)
def qI (C:Ctx)(S:St)(f:Nat)(args:List Operand)(caps:List (Nat×Nat)):Option (St×Ty×List PI):=
 (C.sig f).bind fun s=>
    match s.mode with
    |.ob shs obs=>MT C (S.fzs (zK S args shs)) s.res f shs obs (args.map (Ga C (S.fzs (zK S args shs)))++caps.map V0)
    |_=>none
theorem YA {l:List Nat}{x:Nat}:au l x=true↔x∈l:=by
 unfold au;rw[mQ];exact⟨fun⟨y,hy,h⟩=>by rw[az h];exact hy,fun h=>⟨x,h,gE x⟩⟩
theorem Zj:∀{is js:List Nat} {i j:Nat},cH is js i=some j→∃k:Nat,is[k]?=some i∧js[k]?=some j
 |[],_,i,j,h=>by cases h
 |_::_,[],i,j,h=>by cases h
 |x::is,y::js,i,j,h=>by
  simp only[cH] at h;cases hb:Nat.beq x i<;>simp only[hb,cond_true,cond_false] at h
  ·obtain⟨k,h1,h2⟩:=Zj h;exact⟨k+1,h1,h2⟩
  ·cases h;exact⟨0,by rw[az hb];rfl,rfl⟩
theorem I9:∀{is js:List Nat} {i j k:Nat},is.Nodup→is[k]?=some i→js[k]?=some j→cH is js i=some j
 |[],_,i,j,k,_,h,_=>by simp at h
 |_::_,[],i,j,k,_,_,h=>by simp at h
 |x::is,y::js,i,j,k,hn,h1,h2=>by
  simp only[cH];cases k with
  |zero=>simp at h1 h2;subst h1 h2;rw[gE];rfl
  |succ k=>
   simp at h1 h2;have ay:x≠i:=fun e=>by subst e;exact(mS.1 hn).1 (lV h1)
   rw[ej ay];exact I9 (mS.1 hn).2 h1 h2
theorem Ja {is js:List Nat}(h2:js.Nodup){i j:Nat}(h:cH is js i=some j):cH js is j=some i:=by
 obtain⟨k,g1,g2⟩:=Zj h;exact I9 h2 g2 g1
theorem amg (obs:List (Nat×Ob))(f:Nat→D):∀{is js:List Nat} {i j:Nat},is=obs.map (·.1)→cH is js i=some j→nq obs (js.map f) i=f j:=by
 induction obs with
 |nil=>intro is js i j h1 h2;subst h1;cases h2
 |cons x l ih=>
  intro is js i j h1 h2;subst h1;cases js with
  |nil=>cases h2
  |cons y js=>
   simp only[gU,cH] at h2;simp only[gU,nq];cases hb:Nat.beq x.1 i<;>simp only[hb,cond_true,cond_false] at h2 ⊢
   ·exact ih rfl h2
   ·cases h2;rfl
theorem Zf:∀{obs:List (Nat×Ob)} {js:List Nat} {os:List D} {i j:Nat},os.length=obs.length→cH (obs.map (·.1)) js i=some j→∃k:Nat,js[k]?=some j∧nq obs os i=os.getD k .none
 |[],_,_,i,j,_,h=>by cases h
 |_::_,[],_,i,j,_,h=>by cases h
 |_::_,_::_,[],i,j,hl,h=>by simp at hl
 |x::obs,y::js,o::os,i,j,hl,h=>by
  simp only[gU,cH] at h;simp only[nq];cases hb:Nat.beq x.1 i<;>simp only[hb,cond_true,cond_false] at h ⊢
  ·obtain⟨k,h1,h2⟩:=Zf (obs:=obs) (js:=js) (os:=os) (by simpa using hl) h;exact⟨k+1,h1,by simpa using h2⟩
  ·cases h;exact⟨0,rfl,rfl⟩
theorem Zm:∀{obs:List (Nat×Ob)} {js:List Nat} {i:Nat},js.length=obs.length→cH (obs.map (·.1)) js i=none→ec obs i=.dead
 |[],_,i,_,_=>rfl
 |x::obs,[],i,hl,h=>by simp at hl
 |x::obs,y::js,i,hl,h=>by
  simp only[gU,cH] at h;simp only[ec];cases hb:Nat.beq x.1 i<;>simp only[hb,cond_true,cond_false] at h ⊢
  ·exact Zm (by simpa using hl) h
  ·cases h
theorem WQ {S:St}{is js:List Nat}:∀{obs:List (Nat×Ob)} {jl:List Nat},qM S is js obs jl=true→jl.length=obs.length
 |[],[],_=>rfl
 |[],_::_,h=>by simp[qM] at h
 |_::_,[],h=>by simp[qM] at h
 |o::obs,j::jl,h=>by simp only[qM,ao] at h;simp[WQ h.2]
theorem WO {S:St}{is js:List Nat}:∀{obs:List (Nat×Ob)} {jl:List Nat},qM S is js obs jl=true→∀{i j:Nat},cH (obs.map (·.1)) jl i=some j→∃x,qn S.ver is js (ec obs i)=some x∧zH (S.o j) x=true
 |[],_,_,i,j,h=>by cases h
 |_::_,[],_,i,j,h=>by cases h
 |o::obs,y::jl,hf,i,j,h=>by
  simp only[qM,ao] at hf;simp only[gU,cH] at h;simp only[ec];cases hb:Nat.beq o.1 i<;>simp only[hb,cond_true,cond_false] at h ⊢
  ·exact WO hf.2 h
  ·cases h;have h1:=hf.1;split at h1
   ·rename_i x hx;exact⟨x,hx,h1⟩
   ·cases h1
theorem WR:∀{a b:List Sh},zI a b=true→a.length=b.length∧∀(i:Nat) (y:Sh),b[i]?=some y→∃x,a[i]?=some x∧CL x y=true
 |[],[],_=>⟨rfl,fun i y h=>by simp at h⟩
 |[],_::_,h=>by simp[zI] at h
 |_::_,[],h=>by simp[zI] at h
 |a::aa,b::bs,h=>by
  simp only[zI,ao] at h;obtain⟨g1,g2⟩:=WR h.2;refine⟨by simp[g1],fun i y hy=>?_⟩;cases i with
  |zero=>simp at hy;subst hy;exact⟨a,rfl,h.1⟩
  |succ i=>simp at hy;simpa using g2 i y hy
theorem RZ {ver:Nat→Nat}{is js:List Nat}:∀{a b:List Sh},Fw ver is js a=some b→b.length=a.length∧∀(i:Nat) (x:Sh),a[i]?=some x→∃y,b[i]?=some y∧kA ver is js x=some y
 |[],b,h=>by simp only[Fw,aU] at h;subst h;exact⟨rfl,fun i x h=>by simp at h⟩
 |s::l,b,h=>by
  simp only[Fw,av,aA] at h;obtain⟨y,hy,r,hr,rfl⟩:=h;obtain⟨g1,g2⟩:=RZ hr;refine⟨by simp[g1],fun i x hx=>?_⟩;cases i with
  |zero=>simp at hx;subst hx;exact⟨y,rfl,hy⟩
  |succ i=>simp at hx;simpa using g2 i x hx
theorem KL {ver:Nat→Nat}{is js:List Nat}:∀{a b:List (Nat×Nat)},Fv ver is js a=some b→b.length=a.length∧∀(i x v:Nat),a[i]?=some (x,v)→∃j,b[i]?=some (j,ver j)∧cH is js x=some j∧v=0
 |[],b,h=>by simp only[Fv,aU] at h;subst h;exact⟨rfl,fun i x v h=>by simp at h⟩
 |s::l,b,h=>by
  simp only[Fv] at h;cases hb:Nat.beq s.2 0<;>simp only[hb,cond_true,cond_false] at h
  ·cases h
  simp only[av,aA] at h;obtain⟨y,hy,r,hr,rfl⟩:=h;obtain⟨g1,g2⟩:=KL hr;refine⟨by simp[g1],fun i x v hx=>?_⟩;cases i with
  |zero=>simp at hx;subst hx;exact⟨y,rfl,hy,az hb⟩
  |succ i=>simp at hx;simpa using g2 i x v hx
theorem RY {ver:Nat→Nat}{is js:List Nat}{s x:Sh}(h:kA ver is js s=some x):(∀gs s',s≠.opt gs s')∧∀gs s',x≠.opt gs s':=by
 cases s<;>simp only[kA] at h
 case none=>cases h;exact⟨(fun _ _ e=>by cases e),(fun _ _ e=>by cases e)⟩
 case dat=>cases h;exact⟨(fun _ _ e=>by cases e),(fun _ _ e=>by cases e)⟩
 case obj i v=>
  cases hb:Nat.beq v 0<;>simp only[hb,cond_true,cond_false] at h
  ·cases h
  simp only[aA] at h;obtain⟨j,_,rfl⟩:=h;exact⟨(fun _ _ e=>by cases e),(fun _ _ e=>by cases e)⟩
 case ptr i v off=>
  cases hb:Nat.beq v 0<;>simp only[hb,cond_true,cond_false] at h
  ·cases h
  simp only[aA] at h;obtain⟨j,_,rfl⟩:=h;exact⟨(fun _ _ e=>by cases e),(fun _ _ e=>by cases e)⟩
 case fclo f caps=>
  simp only[aA] at h;obtain⟨j,_,rfl⟩:=h;exact⟨(fun _ _ e=>by cases e),(fun _ _ e=>by cases e)⟩
 all_goals cases h
section
variable {C:Ctx} {S S1:St} {ρ ρ1:Env} {σ σ1:Im} {own dp:Nat→Option Nat} {hv aS:Nat→Value} {w0:World} {σ0:Base} {A:Nat→Prop} {a:Act} {w w1:World} {Φ:aQ} {dst:Nat}
 {is js:List Nat} {shs:List Sh} {obs:List (Nat×Ob)} {ρf:Env}
theorem ac2 (hσ:Im.leR C.cap σ σ1){eK:Nat→Value}(fJ:∀i j,cH is js i=some j→eK i=hv j){s x:Sh}(hr:kA S.ver is js s=some x){v:Value}{d:D}(h:aH C S ρ σ hv x v d):aH C (fN shs obs) ρf σ1 eK s v d:=by
 cases s<;>simp only[kA] at hr
 case none=>trivial
 case dat=>cases hr;exact hσ.rep h
 case obj i ver=>
  cases hb:Nat.beq ver 0<;>simp only[hb,cond_true,cond_false] at hr
  ·cases hr
  simp only[aA] at hr;obtain⟨j,hj,rfl⟩:=hr;exact⟨by rw[az hb];exact nK _,fun _=>by rw[fJ i j hj];exact h.2 rfl⟩
 case ptr i ver off=>
  cases hb:Nat.beq ver 0<;>simp only[hb,cond_true,cond_false] at hr
  ·cases hr
  simp only[aA] at hr;obtain⟨j,hj,rfl⟩:=hr;exact⟨by rw[az hb];exact nK _,fun _=>by rw[fJ i j hj];exact h.2 rfl⟩
 case fclo f caps=>
  simp only[aA] at hr;obtain⟨c,hc,rfl⟩:=hr;obtain⟨g1,g2⟩:=KL hc;obtain⟨vs,h1,h2,h3⟩:=h;refine⟨vs,h1,by omega,fun i x ver hi=>?_⟩;obtain⟨j,e1,e2,e3⟩:=g2 i x ver hi;exact⟨by rw[e3];exact nK _,fun _=>by rw[fJ x j e2];exact(h3 i j _ e1).2 rfl⟩
 all_goals cases hr
theorem aqF (hσ:σ.le σ1){eK:Nat→Value}(fJ:∀i j,cH is js i=some j→eK i=aS j){s x:Sh}(hr:kA S1.ver is js s=some x){v:Value}{d:D}(h:aH C (fN shs obs) ρf σ eK s v d):aH C S1 ρ1 σ1 aS x v d:=by
 cases s<;>simp only[kA] at hr
 case none=>cases hr;trivial
 case dat=>cases hr;exact Rep.mono hσ h
 case obj i ver=>
  cases hb:Nat.beq ver 0<;>simp only[hb,cond_true,cond_false] at hr
  ·cases hr
  simp only[aA] at hr;obtain⟨j,hj,rfl⟩:=hr;exact⟨bk _,fun _=>by rw[←fJ i j hj];exact h.2 (az hb)⟩
 case ptr i ver off=>
  cases hb:Nat.beq ver 0<;>simp only[hb,cond_true,cond_false] at hr
  ·cases hr
  simp only[aA] at hr;obtain⟨j,hj,rfl⟩:=hr;exact⟨bk _,fun _=>by rw[←fJ i j hj];exact h.2 (az hb)⟩
 case fclo f caps=>
  simp only[aA] at hr;obtain⟨c,hc,rfl⟩:=hr;obtain⟨g1,g2⟩:=KL hc;obtain⟨vs,h1,h2,h3⟩:=h;refine⟨vs,h1,by omega,fun i j ver hi=>?_⟩;have ah:i<caps.length:=by have:=(eC.1 hi).1;omega
  obtain⟨j',e1,e2,e3⟩:=g2 i _ _ (bA ah);rw[hi] at e1;cases e1;exact⟨bk _,fun _=>by rw[←fJ _ j e2];exact(h3 i _ _ (bA ah)).2 e3⟩
 all_goals cases hr
theorem aho {c x:Sh}(hf:CL c x=true){v:Value}{d:D}(h:aH C S ρ σ hv c v d):aH C S ρ σ hv x v d:=by
 cases x with
 |none=>trivial
 |dat b=>
  simp only[CL] at hf;split at hf
  ·exact Rep.sub h hf
  ·cases hf
 |_=>simp only[CL] at hf;rw[Sh.beq_eq _ _ hf] at h;exact h
theorem aoj (hσ:Im.leR C.cap σ σ1){eK:Nat→Value}{Ee:Nat→Option Nat}(fJ:∀i j,cH is js i=some j→eK i=hv j)(cm:∀k j i,own k=some j→cH js is j=some i→Ee k=some i)(bp:js.Nodup){i j N:Nat}(cU:cH is js i=some j)(hρ:ρf.o i=ρ.o j){ob x:Ob}
 (hr:qn S.ver is js ob=some x) (hf:zH (S.o j) x=true) (h:cn C S ρ σ own hv w N j (S.o j)):cn C (fN shs obs) ρf σ1 Ee eK w N i ob:=by
 have hG:=Ja bp cU;cases ob<;>simp only[qn] at hr
 case row T e=>
  cases hr;cases ho:S.o j<;>rw[ho] at hf h<;>simp only[zH,ao] at hf<;>try (cases hf;done)
  obtain⟨cells,xs,h1,h2,h3,h4⟩:=h;rw[az hf.1,Ty.beq_eq _ _ hf.2] at*;exact⟨cells,xs,by rw[hρ];exact h1,by rw[fJ i j cU];exact h2,h3.monoR hσ,fun k hk=>cm k j i (h4 k (by rw[←fJ i j cU];exact hk)) hG⟩
 case mp kt et=>
  cases hr;cases ho:S.o j<;>rw[ho] at hf h<;>simp only[zH,ao] at hf<;>try (cases hf;done)
  obtain⟨k,arr,clock,es,h1,h2,h3,h4,h5,h6,h7⟩:=h;rw[Ty.beq_eq _ _ hf.1,Ty.beq_eq _ _ hf.2] at*;exact⟨k,arr,clock,es,by rw[fJ i j cU];exact h1,cm k j i h2 hG,h3,by rw[hρ];exact h4,h5,h6,fun n e p he hp=>⟨hσ.rep (h7 n e p he hp).1,hσ.rep (h7 n e p he hp).2⟩⟩
 case box ag cs=>
  simp only[aA] at hr;obtain⟨cs',dz,rfl⟩:=hr;cases ho:S.o j<;>rw[ho] at hf h<;>simp only[zH,ao] at hf<;>try (cases hf;done)
  obtain⟨k,vs,T,ds,h1,h2,h3,h4,h5,h6,h7⟩:=h;obtain⟨l1,g1⟩:=WR hf.2;obtain⟨l2,g2⟩:=RZ dz;refine⟨k,vs,T,ds,by rw[fJ i j cU];exact h1,cm k j i h2 hG,h3,by omega,by rw[hρ];exact h5,by omega,fun n s hs=>?_⟩;obtain⟨y,hy,DM⟩:=g2 n s hs;obtain⟨z,hz,Dg⟩:=g1 n y hy;exact⟨(RY DM).1,ac2 hσ fJ DM (aho Dg (h7 n z hz).2)⟩
 all_goals cases hr
theorem aok (hσ:σ.le σ1){eK:Nat→Value}{Ee:Nat→Option Nat}(fJ:∀i j,cH is js i=some j→eK i=aS j)(cm:∀k i j,Ee k=some i→cH is js i=some j→dp k=some j){i j N:Nat}(cU:cH is js i=some j)(hρ:ρ1.o j=ρf.o i){ob x:Ob}
 (hr:qn S1.ver is js ob=some x) (h:cn C (fN shs obs) ρf σ Ee eK w N i ob):cn C S1 ρ1 σ1 dp aS w N j x:=by
 cases ob<;>simp only[qn] at hr
 case row T e=>
  cases hr;obtain⟨cells,xs,h1,h2,h3,h4⟩:=h;exact⟨cells,xs,by rw[hρ];exact h1,by rw[←fJ i j cU];exact h2,h3.mono hσ,fun k hk=>cm k i j (h4 k (by rw[fJ i j cU];exact hk)) cU⟩
 case mp kt et=>
  cases hr;obtain⟨k,arr,clock,es,h1,h2,h3,h4,h5,h6,h7⟩:=h;exact⟨k,arr,clock,es,by rw[←fJ i j cU];exact h1,cm k i j h2 cU,h3,by rw[hρ];exact h4,h5,h6,fun n e p he hp=>⟨(h7 n e p he hp).1.mono hσ,(h7 n e p he hp).2.mono hσ⟩⟩
 case box ag cs=>
  simp only[aA] at hr;obtain⟨cs',dz,rfl⟩:=hr;obtain⟨k,vs,T,ds,h1,h2,h3,h4,h5,h6,h7⟩:=h;obtain⟨l2,g2⟩:=RZ dz;refine⟨k,vs,T,ds,by rw[←fJ i j cU];exact h1,cm k i j h2 cU,h3,by omega,by rw[hρ];exact h5,by omega,fun n s hs=>?_⟩;have ah:n<cs.length:=by have:=(eC.1 hs).1;omega
  obtain⟨y,hy,DM⟩:=g2 n _ (bA ah);rw[hs] at hy;cases hy;exact⟨(RY DM).2,aqF hσ fJ DM (h7 n _ (bA ah)).2⟩
 all_goals cases hr
theorem aqE {ver:Nat→Nat}{ob x:Ob}(hr:qn ver is js ob=some x):x≠.tr:=by
 cases ob<;>simp only[qn] at hr
 case row=>cases hr;intro e;cases e
 case mp=>cases hr;intro e;cases e
 case box=>
  simp only[aA] at hr;obtain⟨_,_,rfl⟩:=hr;intro e;cases e
 all_goals cases hr
theorem CtxOK.noM (h:CtxOK C σ):CtxOK C σ.noM:=⟨fun g x hx=>(h.glob g x hx).noM⟩
def BD (C:Ctx)(S:St)(ρ:Env)(σ:Im)(hv:Nat→Value)(x:nF)(v:Value)(d:D):Prop:=aH C S ρ σ hv x.1 v d∧∀y,x.2=some y→Rep C.cap σ y.1 v (y.2.ev ρ)
theorem WN:∀{acts:List nF} {shs:List Sh} {es:List PE},uh S is js acts shs=some es→acts.length=shs.length∧es.length=shs.length∧∀(t:Nat) (s:Sh),shs[t]?=some s→∃x e,acts[t]?=some x∧es[t]?=some e∧CJ S is js x s=some e
 |[],[],es,h=>by simp only[uh,aU] at h;subst h;exact⟨rfl,rfl,fun t s h=>by simp at h⟩
 |[],_::_,es,h=>by simp[uh] at h
 |_::_,[],es,h=>by simp[uh] at h
 |x::acts,s::shs,es,h=>by
  simp only[uh,av,aA] at h;obtain⟨e,he,r,hr,rfl⟩:=h;obtain⟨g1,g2,g3⟩:=WN hr;refine⟨by simp[g1],by simp[g2],fun t s' hs=>?_⟩;cases t with
  |zero=>simp at hs;subst hs;exact⟨x,e,rfl,rfl,he⟩
  |succ t=>simp at hs;simpa using g3 t s' hs
theorem ahm (hσ:Im.leR C.cap σ σ1){eK:Nat→Value}(fJ:∀i j,cH is js i=some j→eK i=hv j){x:nF}{s:Sh}{e:PE}(hf:CJ S is js x s=some e){v:Value}{d:D}(h:BD C S ρ σ hv x v d):aH C (fN shs obs) ρf σ1 eK s v (e.ev ρ):=by
 have gen:∀s,(match kA S.ver is js s with|some y=>bif Sh.beq x.1 y then some (PE.con .none) else none|none=>none)=some e→nl s=false→aH C (fN shs obs) ρf σ1 eK s v (e.ev ρ):=by
  intro s hm hd;split at hm
  ·rename_i y hy;cases hb:Sh.beq x.1 y<;>simp only[hb,cond_true,cond_false] at hm
   ·cases hm
   have h1:=h.1;rw[Sh.beq_eq _ _ hb] at h1;have:=ac2 (shs:=shs) (obs:=obs) (ρf:=ρf) hσ fJ hy h1;cases s with
   |dat t=>cases hd
   |opt gs s'=>exact absurd rfl ((RY hy).1 gs s')
   |eptr j ver size off=>simp[kA] at hy
   |agg l=>simp[kA] at hy
   |_=>exact this
  ·cases hm
 unfold CJ at hf;split at hf
 ·rename_i t;split at hf
  ·rename_i y hy;cases hb:Ty.sub y.1 t<;>simp only[hb,cond_true,cond_false] at hf
   ·cases hf
   cases hf;exact hσ.rep ((h.2 y hy).sub hb)
  ·cases hf
 ·trivial
 ·rename_i ly pQ;refine gen _ hf ?_;cases s<;>first|rfl|exact absurd rfl (ly _)
theorem afW {eK OS:Nat→Value}{σ σ':Im}{ρf ρf':Env}{args:Nat→Value}{ds ds':Nat→D}(h1:∀(t:Nat) (s:Sh),shs[t]?=some s→aH C (fN shs obs) ρf σ eK s (args t) (ds t))(h2:∀(t:Nat) (s:Sh),shs[t]?=some s→nl s=false→aH C (fN shs obs) ρf' σ' OS s (args t) (ds' t))
 (hz:∀s,s∈shs→∃x,kA S.ver is js s=some x) {i:Nat} (hi:i∈pz shs):OS i=eK i:=by
 have key:∀(l:List Sh),(∀s,s∈l→∃t:Nat,shs[t]?=some s)→i∈pz l→OS i=eK i:=by
  intro l
  induction l with
  |nil=>intro _ h;cases h
  |cons s l ih=>
   intro hl hi;obtain⟨t,ht⟩:=hl s (dq ..);have z8:∀s,s∈l→∃t:Nat,shs[t]?=some s:=fun s hs=>hl s (dj _ hs);obtain⟨x,hx⟩:=hz s (lV ht);have a1:=h1 t s ht;have a2:=h2 t s ht;cases s<;>simp only[pz] at hi
   case obj j ver=>
        simp only[kA] at hx;cases hb:Nat.beq ver 0<;>simp only[hb,cond_true,cond_false] at hx
        ·cases hx
        rcases cD.1 hi with e|e
        ·subst e;rw[←(a1.2 (az hb)),←((a2 rfl).2 (az hb))]
        ·exact ih z8 e
   case ptr j ver off=>
        simp only[kA] at hx;cases hb:Nat.beq ver 0<;>simp only[hb,cond_true,cond_false] at hx
        ·cases hx
        rcases cD.1 hi with e|e
        ·subst e;obtain⟨k1,e1,e2⟩:=a1.2 (az hb);obtain⟨k2,e3,e4⟩:=(a2 rfl).2 (az hb);rw[e2] at e4;cases e4;rw[e1,e3]
        ·exact ih z8 e
   case fclo f caps=>
        simp only[kA,aA] at hx;obtain⟨c,hc,_⟩:=hx;obtain⟨_,g2⟩:=KL hc;rcases dy.1 hi with e|e
        ·obtain⟨y,hy,e1⟩:=dM.1 e;subst e1;obtain⟨m,hm⟩:=yi hy;obtain⟨vs,b1,b2,b3⟩:=a1;obtain⟨BA,c1,c2,c3⟩:=a2 rfl;rw[b1] at c1;have ib:vs=BA:=by simpa using c1
         subst ib;obtain⟨_,_,_,Ao⟩:=g2 m y.1 y.2 hm;rw[←(b3 m y.1 y.2 hm).2 Ao,←(c3 m y.1 y.2 hm).2 Ao]
        ·exact ih z8 e
   all_goals exact ih z8 hi
 exact key shs (fun s hs=>yi hs) hi
end
section
variable {C:Ctx} {S:St} {ρ:Env} {σ:Im} {own:Nat→Option Nat} {hv:Nat→Value} {w0:World} {σ0:Base} {A:Nat→Prop} {a:Act} {w:World} {Φ:aQ} {dst:Nat}
 {is js:List Nat} {shs:List Sh} {obs:List (Nat×Ob)}
theorem Below.weak {B:Nat}{w w':World}(h:Below 0 w w')(hk:∀k,k<B→w'.heap[k]?=w.heap[k]?):Below B w w':=⟨h.os,h.tape,h.output,h.size,hk⟩
def oA (js is:List Nat)(own:Nat→Option Nat):Nat→Option Nat:=fun k=>(own k).bind (cH js is)
def Ed (js is:List Nat)(own own':Nat→Option Nat):Nat→Option Nat:=fun k=>
 match own' k with
 |some i=>cH is js i
 |none=>match own k with|some j=>(match cH js is j with|some _=>none|none=>some j)|none=>none
theorem handed (h:Inv C S ρ σ own hv w0 σ0 A a w)(hC:CtxOK C σ0)(akV:xw shs obs=true)(Dl:is=obs.map (·.1))(X3:is.Nodup)(II:js.Nodup)(wM:qM S is js obs js=true){acts:List nF}{es:List PE}(jm:uh S is js acts shs=some es)
 (Io:S.o ir=.dead) (IV:ir∉js) {vals:List Value} (hvl:vals.length=acts.length) (Np:∀(t:Nat) (x:nF),acts[t]?=some x→∃d,BD C S ρ σ hv x (vals.getD t undef) d) {f:Nat} {res:Ty} {d:D}
 (hfn:tM C f shs obs res (es.map (PE.ev ρ)++js.map ρ.o) d):
 Calls C.P f vals.toArray w fun e w'=>∃v dr os,e=.returned v∧d=.tup (dr::os)∧os.length=js.length∧
  ∀ρ':Env,ρ'.r=ρ.r→(∀(k j:Nat),js[k]?=some j→ρ'.o j=os.getD k .none)→(∀j,j∉js→j≠ir→ρ'.o j=ρ.o j)→
   ∃σ1 dp aS,Inv C (S.handed shs obs is js) ρ' σ1 dp aS w0 σ0 A a w'∧Rep C.cap σ1 res v dr:=by
 obtain⟨al1,al2,iL⟩:=WN jm;have fW:=WQ wM;have uK:w0.heap.size≤w.heap.size:=h.below.size;obtain⟨tr,fx,cx,hf,sS⟩:=h.frame
 let eK:Nat→Value:=fun i=>match cH is js i with|some j=>hv j|none=>undef
 have fJ:∀i j,cH is js i=some j→eK i=hv j:=fun i j e=>by simp only[eK,e]
 have XU:Im.leR C.cap σ σ.noM:=⟨Rep.noM,fun _ _ _ e=>e⟩
 have Dx:∀k x,σ.noM.m k=some x→σ.m k=some x∧x≠cZ:=by
  intro k x e;by_cases hd:σ.m k=some cZ
  ·simp[Im.noM,hd] at e
  ·simp only[Im.noM,if_neg hd] at e;exact⟨e,fun e2=>hd (by rw[e,e2])⟩
 have wJ:(es.map (PE.ev ρ)++js.map ρ.o).drop shs.length=js.map ρ.o:=by rw[List.drop_append];simp[al2]
 have ajW:∀t e,es[t]?=some e→(es.map (PE.ev ρ)++js.map ρ.o).getD t .none=e.ev ρ:=fun t e he=>by
  have ah:=(eC.1 he).1;rw[aJ,jF (by simpa using ah),cC,he];rfl
 have ak6:∀s,s∈shs→∃x,kA S.ver is js s=some x:=by
  intro s hs;obtain⟨t,ht⟩:=yi hs;obtain⟨x,e,_,_,he⟩:=iL t s ht;unfold CJ at he;split at he
  ·exact⟨_,rfl⟩
  ·exact⟨_,rfl⟩
  ·split at he
   ·rename_i y hy;exact⟨y,hy⟩
   ·cases he
 have XP:∀t,aH C (fN shs obs) (mq obs (es.map (PE.ev ρ)++js.map ρ.o) ((es.map (PE.ev ρ)++js.map ρ.o).drop shs.length)) σ.noM eK (shs.getD t .none) (vals.toArray.getD t undef) ((es.map (PE.ev ρ)++js.map ρ.o).getD t .none):=by
  intro t;cases hs:shs[t]? with
  |none=>rw[aJ,hs];trivial
  |some s=>
   obtain⟨x,e,hx,he,uz⟩:=iL t s hs;obtain⟨d',ai8⟩:=Np t x hx;rw[aJ (l:=shs),hs,ajW t e he];have e1:vals.toArray.getD t undef=vals.getD t undef:=by simp[dU,aJ]
   rw[e1];exact ahm XU fJ uz ai8
 have akb:∀i,cn C (fN shs obs) (mq obs (es.map (PE.ev ρ)++js.map ρ.o) ((es.map (PE.ev ρ)++js.map ρ.o).drop shs.length)) σ.noM (oA js is own) eK w w0.heap.size i (ec obs i):=by
  intro i;cases cU:cH is js i with
  |none=>subst Dl;rw[Zm fW cU];trivial
  |some j=>
   subst Dl;obtain⟨x,hx,Ir⟩:=WO wM cU;refine aoj XU fJ (fun k j' i' hk hl=>by simp only[oA,hk,j9,hl]) II cU ?_ hx Ir (h.objs j);show nq obs _ i=_;rw[wJ];exact amg obs ρ.o rfl cU
 have pK:=hfn w0.heap.size σ.noM (oA js is own) eK w vals.toArray (fun k=>(∃j,own k=some j∧cH js is j=none)∨σ.m k=some cZ∨(cx k)) akV ⟨h.ok.c,fun k x e=>h.ok.m k x (Dx k x e).1⟩ ((hC.mono h.le).noM)
  (fun k e=>(Dx k _ e).2 rfl) uK (by simp;omega) (fun k i hk=>by
    simp only[oA,av] at hk;obtain⟨j,hj,_⟩:=hk;obtain⟨g1,g2,g3,g4⟩:=h.owns k j hj;exact⟨g1,g2,g3,by by_cases e:σ.m k=some cZ<;>simp[Im.noM,e,g4]⟩) (fun k hk=>by
    rcases hk with⟨j,hj,hn⟩|hk|hk
    ·obtain⟨g1,g2,g3,g4⟩:=h.owns k j hj;exact⟨g2,by simp[oA,hj,hn],g3,by by_cases e:σ.m k=some cZ<;>simp[Im.noM,e,g4]⟩
    ·have Dv:=h.ok.m k _ hk;have hn:own k=none:=by
      cases e:own k with
      |none=>rfl
      |some j=>rw[(h.owns k j e).2.2.2] at hk;cases hk
     refine⟨Dv.lt,by simp[oA,hn],fun o=>?_,by simp[Im.noM,hk]⟩;cases e:σ.c k o with
     |none=>exact e
     |some x=>
      have c1:=h.ok.c k o x e;rcases Dv with⟨m1,_⟩|⟨_,m2⟩
      ·exact absurd rfl m1
      ·simp[World.cell?,m2] at c1
    ·have kO:=σ0.sub _ _ _ _ hf.F k hk;have hn:own k=none:=by
      cases e:own k with
      |none=>rfl
      |some j=>exact absurd kO (hf.own k j e)
     refine⟨σ0.lt _ _ _ _ hf.F k kO,by simp[oA,hn],fun o=>?_,?_⟩
     ·cases e:σ.c k o with
      |none=>exact e
      |some x=>exact absurd hk (hf.c k o x e)
     ·cases e:σ.m k with
      |none=>simp[Im.noM,e]
      |some x=>exact absurd hk (hf.m k x e)) XP akb
 refine pK.mono fun e w' hh=>?_;obtain⟨v,σ',own',hv',dr,os,rfl,hd,Oh,hle,aB,hb,jq,da,cR,IG,Ya,wP,Of,fI⟩:=hh;refine⟨v,dr,os,rfl,hd,by omega,fun ρ' iP l9 wZ=>?_⟩;have IM:∀k,k<w.heap.size→own k=none→w'.heap[k]?=w.heap[k]?:=fun k hk hn=>jq k hk (by simp[oA,hn]);have akP:∀k j,own k=some j→cH js is j=none→w'.heap[k]?=w.heap[k]?:=fun k j hk hn=>jq k (h.owns k j hk).2.1 (by simp[oA,hk,hn])
 have ajy:∀k o x,σ.c k o=some x→own k=none:=fun k o x e=>by
  cases e1:own k with
  |none=>rfl
  |some j=>rw[(h.owns k j e1).2.2.1 o] at e;cases e
 have X1:∀k x,σ.m k=some x→own k=none:=fun k x e=>by
  cases e1:own k with
  |none=>rfl
  |some j=>rw[(h.owns k j e1).2.2.2] at e;cases e
 have IP:σ.ok w':=⟨fun k o x e=>by rw[World.cell?_of_block (IM k (h.lt e) (ajy k o x e))];exact h.ok.c k o x e,fun k x e=>(h.ok.m k x e).keep (IM k (h.ltm e) (X1 k x e))⟩
 have lu:σ.le (σ'.plus σ):=Im.plus_le2 aB IP;have jQ:σ'.le (σ'.plus σ):=Im.plus_le1 σ' σ;have dz:∀k o x,(σ'.plus σ).c k o=some x→σ'.c k o=some x:=fun k o x e=>(Im.plus_c e).elim id (fun e=>hle.c k o x e)
 have Ab:∀k x,(σ'.plus σ).m k=some x→σ'.m k=some x∨(σ.m k=some x∧x=cZ):=fun k x e=>(Im.plus_m e).elim .inl (fun e=>by
  by_cases hd:x=cZ
  ·exact .inr ⟨e,hd⟩
  ·refine .inl (hle.m k x ?_);have:σ.m k≠some cZ:=fun e2=>hd (by rw[e] at e2;cases e2;rfl);simp only[Im.noM,if_neg this,e])
 let aS:Nat→Value:=fun j=>match cH js is j with|some i=>hv' i|none=>hv j
 have alF:∀i j,cH is js i=some j→hv' i=aS j:=fun i j e=>by simp only[aS,Ja II e]
 have ajE:∀i,i∈pz shs→hv' i=eK i:=fun i hi=>afW (S:=S) (is:=is) (js:=js) (args:=fun t=>vals.toArray.getD t undef) (ds:=fun t=>(es.map (PE.ev ρ)++js.map ρ.o).getD t .none) (ds':=fun t=>(es.map (PE.ev ρ)++js.map ρ.o).getD t .none) (fun t s hs=>by
  have:=XP t;rw[aJ (l:=shs),hs] at this;exact this) (fun t s hs hd=>wP t s hs hd) ak6 hi
 have qP:Compat S hv (S.handed shs obs is js) aS:=by
  refine⟨fun j=>?_,fun j e=>?_⟩
  ·show S.ver j≤vJ S.ver shs is js j;unfold vJ;split
   ·cases au (pz shs) _<;>simp
   ·exact bk _
  ·change vJ S.ver shs is js j=S.ver j at e;show aS j=hv j;simp only[aS];unfold vJ at e;split at e
   ·rename_i i hi;cases hb:au (pz shs) i<;>rw[hb] at e
    ·simp at e
    ·try simp only[hi]
     rw[ajE i (YA.1 hb),fJ i j (Ja X3 hi)]
   ·rename_i hi;try simp only[hi]
 have m5:∀k j,Ed js is own own' k=some j→(k<w.heap.size→own k≠none)∧w0.heap.size≤k∧k<w'.heap.size∧(∀o,σ'.c k o=none)∧σ'.m k=none∧σ.m k≠some cZ:=by
  intro k j hk;simp only[Ed] at hk;split at hk
  ·rename_i i hi;obtain⟨g1,g2,g3,g4,g5⟩:=Ya k i hi;have g6:k<w.heap.size→own k≠none:=fun ah e=>g5 ah (by simp[oA,e]);refine⟨g6,g1,g2,g3,g4,fun e=>?_⟩;exact g6 (h.ltm e) (X1 k _ e)
  ·split at hk
   ·rename_i j' ct;split at hk
    ·cases hk
    ·rename_i hn;obtain⟨g1,g2,g3,g4⟩:=h.owns k j' ct;have kN:(∃j,own k=some j∧cH js is j=none)∨σ.m k=some cZ∨(cx k):=.inl ⟨j',ct,hn⟩;refine⟨fun _ e=>(by rw[ct] at e;cases e),g1,vV g2 hb.size,fun o=>?_,?_,fun e=>?_⟩
     ·cases e:σ'.c k o with
      |none=>rfl
      |some x=>exact absurd kN (da k o x e).2
     ·cases e:σ'.m k with
      |none=>rfl
      |some x=>exact absurd kN (cR k x e).2
     ·rw[g4] at e;cases e
   ·cases hk
 refine⟨σ'.plus σ,Ed js is own own',aS,⟨h.defers.mono lu,Im.plus_ok aB IP,h.le.trans lu,h.old,fun k o x e=>?_,fun k x e=>?_,h.below.trans (Below.weak hb fun k hk=>?_),h.bw,fun k j hk=>?_,fun t=>?_,fun j=>?_,h.opts,?_⟩,fI.mono jQ⟩
 ·rcases(da k o x (dz k o x e)).1 with e1|e1
  ·exact h.newc k o x e1
  ·exact .inr e1
 ·rcases Ab k x e with e1|e1
  ·rcases(cR k x e1).1 with e2|e2
   ·exact h.newm k x (Dx k x e2).1
   ·exact .inr e2
  ·exact h.newm k x e1.1
 ·have bE:k<w0.heap.size:=vV hk h.bw;refine IM k (by omega) ?_;cases e:own k with
  |none=>rfl
  |some j=>have:=(h.owns k j e).1;omega
 ·obtain⟨_,g1,g2,g3,g4,g5⟩:=m5 k j hk;refine⟨g1,g2,fun o=>?_,?_⟩
  ·cases e:(σ'.plus σ).c k o with
   |none=>rfl
   |some x=>have:=dz k o x e;rw[g3 o] at this;cases this
  ·cases e:(σ'.plus σ).m k with
   |none=>rfl
   |some x=>
    rcases Ab k x e with e1|e1
    ·rw[g4] at e1;cases e1
    ·exact absurd (by rw[e1.1,e1.2]) g5
 ·show aH C _ ρ' _ aS (S.r t) _ (ρ'.r t);rw[iP]
  exact aH.mono lu qP (fun gs s e=>by
   unfold holds;rw[iP]) (fun gs s e=>(h.opts t gs s e).2) (h.regs t)
 ·show cn C _ ρ' _ _ aS w' _ j (match cH js is j with|some i=>(match qn (vJ S.ver shs is js) is js (ec obs i) with|some o=>o|none=>.dead)|none=>S.o j);split
  ·rename_i i hi;have cU:=Ja X3 hi;split
   ·rename_i x hx;refine aok (S1:=S.handed shs obs is js) jQ alF (fun k i' j' hk hl=>by simp only[Ed,hk,hl]) cU ?_ hx (Of i);subst Dl;obtain⟨k,bl,bE⟩:=Zf (os:=os) Oh cU;show ρ'.o j=nq obs os i;rw[bE];exact l9 k j bl
   ·trivial
  ·rename_i hn
   have N8:j∉js:=fun hm=>by
        obtain⟨k,hk⟩:=yi hm;have ah:k<is.length:=by
         have:=(eC.1 hk).1;rw[Dl,gT];omega
        have:=I9 II hk (bA ah);rw[hn] at this;cases this
   by_cases Iz:j=ir
   ·subst Iz;rw[Io];trivial
   ·refine(h.objs j).mono lu qP (by show aS j=hv j;simp only[aS,hn]) (wZ j N8 Iz) (fun k hk=>⟨?_,akP k j hk hn⟩);have:own' k=none:=by
     cases e:own' k with
     |none=>rfl
     |some i=>exact absurd (by simp[oA,hk,hn]) ((Ya k i e).2.2.2.2 (h.owns k j hk).2.1)
    simp only[Ed,this,hk,hn]
 ·refine⟨tr,fx,cx,⟨σ0.keep _ _ _ _ _ hf.F hb fun k hk=>?_,fun k j hk kO=>?_,fun k o x e hc=>?_,fun k x e hc=>?_,fun k e hB hk=>?_⟩,fun j hj=>?_⟩
  ·refine IM k (σ0.lt _ _ _ _ hf.F k hk) ?_;cases e:own k with
   |none=>rfl
   |some j=>exact absurd hk (hf.own k j e)
  ·have ah:=σ0.lt _ _ _ _ hf.F k kO;have:=(m5 k j hk).1 ah;cases e:own k with
   |none=>exact this e
   |some j'=>exact hf.own k j' e kO
  ·exact(da k o x (dz k o x e)).2 (.inr (.inr hc))
  ·rcases Ab k x e with e1|e1
   ·exact(cR k x e1).2 (.inr (.inr hc))
   ·exact hf.m k x e1.1 hc
  ·rcases Ab k _ e with e1|e1
   ·have ah:=σ0.lt _ _ _ _ hf.F k hk;refine IG k e1 hB ah ?_;have:own k=none:=by
     cases e:own k with
     |none=>rfl
     |some j=>exact absurd hk (hf.own k j e)
    simp[oA,this]
   ·exact hf.d k e1.1 hB hk
  ·change (match cH js is j with|some i=>(match qn (vJ S.ver shs is js) is js (ec obs i) with|some o=>o|none=>.dead)|none=>S.o j)=.tr at hj;split at hj
   ·rename_i i hi;split at hj
    ·rename_i x hx;exact absurd hj (aqE hx)
    ·cases hj
   ·rename_i hn
    have N8:j∉js:=fun hm=>by
     obtain⟨k,hk⟩:=yi hm;have ah:k<is.length:=by
         have:=(eC.1 hk).1;rw[Dl,gT];omega
     have:=I9 II hk (bA ah);rw[hn] at this;cases this
    have Iz:j≠ir:=fun e=>by subst e;rw[Io] at hj;cases hj
    rw[wZ j N8 Iz];exact sS j hj
theorem adp:∀(js:List Nat) (k:Nat) {ρ ρ':Env} {l:List D},PI.runs Φ (FC js k) ρ=some ρ'→ρ.o ir=.tup l→ir∉js→js.Nodup→
 ρ'.r=ρ.r∧(∀(i j:Nat),js[i]?=some j→ρ'.o j=l.getD (k+i) .none)∧∀j,j∉js→ρ'.o j=ρ.o j
 |[],k,ρ,ρ',l,h,hs,hn,hd=>by
  simp only[FC,PI.runs,aU] at h;subst h;exact⟨rfl,fun i j e=>by simp at e,fun _ _=>rfl⟩
 |x::js,k,ρ,ρ',l,h,hs,hn,hd=>by
  simp only[FC,PI.runs,PI.run,j9,PE.ev,hs,D.tget] at h;simp only[cD,not_or] at hn;have gI:=mS.1 hd;obtain⟨g1,g2,g3⟩:=adp js (k+1) h (by simp only[Env.setO];rw[bq _ _ hn.1];exact hs) hn.2 gI.2;refine⟨g1,fun i j e=>?_,fun j hj=>?_⟩
  ·cases i with
   |zero=>simp at e;subst e;rw[g3 _ gI.1];simp[Env.setO,aL]
   |succ i=>simp at e;rw[g2 i j e];congr 1;omega
  ·simp only[cD,not_or] at hj;rw[g3 j hj.2];simp only[Env.setO];exact bq _ _ hj.1
theorem aez (h:Inv C S ρ σ own hv w0 σ0 A a w)(hC:CtxOK C σ0)(x:Operand):∃d,BD C S ρ σ hv (Ga C S x) (a.eval x) d:=by
 cases x with
 |tmp t=>
  refine⟨ρ.r t,?_,fun y hy=>cq (gs:=[]) h hC rfl hy⟩;have:=(nB (gs:=[]) h rfl t).1;simpa [Act.eval,Ga,fw] using this
 |_=>exact⟨.none,trivial,fun y hy=>cq (gs:=[]) h hC rfl hy⟩
theorem Wl (h:Inv C S ρ σ own hv w0 σ0 A a w)(hC:CtxOK C σ0)(hΦ:di C Φ){f:Nat}{args:List Operand}{caps:List (Nat×Nat)}{vs:List Value}(ib:vs.length=caps.length)
 (fU:∀(i j ver:Nat),caps[i]?=some (j,ver)→ver≤S.ver j∧(ver=S.ver j→vs.getD i undef=hv j)) (ajl:∀(i j ver:Nat),caps[i]?=some (j,ver)→ver=S.ver j→∃k,hv j=.pointer (some ⟨k,0,none⟩)) {r:St×Ty×List PI} (hr:qI C S f args caps=some r)
 {ρ1:Env} (ak:PI.runs Φ r.2.2 ρ=some ρ1):
 Calls C.P f (args.map a.eval++vs).toArray w fun e w'=>∃v σ1 dp aS,e=.returned v∧Inv C r.1 ρ1 σ1 dp aS w0 σ0 A a w'∧Rep C.cap σ1 r.2.1 v ((ρ1.o ir).tget 0):=by
 simp only[qI,av] at hr;obtain⟨s,hs,hr⟩:=hr;split at hr
 case h_2=>cases hr
 rename_i shs obs kR;obtain⟨σ2,iW,jQ,h2⟩:=Inv.fzs (zK S args shs) h;have dQ:=(nS (zK S args shs) S).1;generalize S.fzs (zK S args shs)=S2 at hr h2 dQ;unfold MT MS at hr;generalize WJ S2 shs obs (args.map (Ga C S2)++caps.map V0)=js at hr;simp only[av] at hr;obtain⟨es,jm,hr⟩:=hr;cases hb:(xw shs obs&&(gx (obs.map (·.1))&&gx js&&qM S2 (obs.map (·.1)) js obs js&&oq (S2.o ir)&& !au js ir))<;>simp only[hb,cond_true,cond_false] at hr
 ·cases hr
 cases hr;simp only[ao,gS] at hb;obtain⟨b0,⟨⟨⟨b1,b2⟩,b3⟩,b4⟩,b5⟩:=hb;have ly:=ml b1;have pQ:=ml b2;have Io:S2.o ir=.dead:=by
  cases e:S2.o ir<;>rw[e] at b4<;>first|rfl|cases b4
 have IV:ir∉js:=fun hm=>by rw[YA.2 hm] at b5;cases b5
 simp only[PI.runs,PI.run,av,aA] at ak;obtain⟨ρ2,⟨d,hd,rfl⟩,ak⟩:=ak;rw[PE.evs_eq,rU,Ls] at hd;have e1:js.map (PE.ev ρ∘PE.o)=js.map ρ.o:=rfl;rw[e1] at hd;have hfn:=((hΦ f _ d hd s hs).2 shs obs kR).plain b0
 have pK:=handed h2 hC b0 rfl ly pQ b3 jm Io IV (vals:=args.map a.eval++vs) (by simp[ib]) (fun t x hx=>by
  rw[lU] at hx;split at hx
  ·rename_i ah;rw[gT] at ah;rw[cC,bA ah] at hx;cases hx;have:(args.map a.eval++vs).getD t undef=a.eval args[t]:=by
        rw[aJ,jF (by simpa using ah),cC,bA ah];rfl
   rw[this];exact aez h2 hC _
  ·rename_i ff;rw[gT] at ff hx;rw[cC,aA] at hx;obtain⟨c,hc,rfl⟩:=hx;obtain⟨j,ver⟩:=c;have cu:(args.map a.eval++vs).getD t undef=vs.getD (t-args.length) undef:=by
        rw[aJ,kI (by simpa using ff),gT,aJ]
   obtain⟨g1,g2⟩:=fU _ j ver hc;refine⟨.none,⟨by rw[dQ];exact g1,fun e=>?_⟩,fun y hy=>by cases hy⟩;rw[dQ] at e;obtain⟨k,hk⟩:=ajl _ j ver hc e;exact⟨k,hk,by rw[cu,g2 e,hk]⟩) (hfn:=hfn)
 refine pK.mono fun e w' hh=>?_;obtain⟨v,dr,os,rfl,rfl,Oh,ls⟩:=hh;obtain⟨g1,g2,g3⟩:=adp js 1 (l:=dr::os) ak (by simp[Env.setO,aL]) IV pQ
 obtain⟨σ1,dp,aS,hinv,bW⟩:=ls ρ1 g1 (fun k j hk=>by
  have:=g2 k j hk;rw[BP] at this;simpa using this) (fun j hj ay=>by rw[g3 j hj];simp only[Env.setO];exact bq _ _ ay)
 refine⟨v,σ1,dp,aS,rfl,hinv,?_⟩;rw[g3 ir IV];simpa [Env.setO,aL,D.tget] using bW
def p5 (S:St)(dst:Option Nat)(r:St×Ty×List PI):St×List PI:=
 match dst with
 |some d=>(r.1.setR d (.dat r.2.1),r.2.2++[.setR d (.tget (.o ir) 0)])
 |none=>(r.1,r.2.2)
theorem aqU {a b:List PI}{ρ:Env}:PI.runs Φ (a++b) ρ=(PI.runs Φ a ρ).bind (PI.runs Φ b):=by
 induction a generalizing ρ with
 |nil=>simp[PI.runs]
 |cons x a ih=>
  simp only[FX,PI.runs];cases x.run Φ ρ with
  |none=>rfl
  |some ρ1=>simp[ih]
theorem VX {o:Oper}{f:Nat}{vals:List Value}(ht:∀d,o.dst=some d→¬A d∧d<a.tmps.size){r:St×Ty×List PI}(hx:(execOp a.eval o).run C.P w=.ok (.enter f vals.toArray) w)
 (hc:∀ρ1,PI.runs Φ r.2.2 ρ=some ρ1→Calls C.P f vals.toArray w fun e w'=>∃v σ1 dp aS,e=.returned v∧Inv C r.1 ρ1 σ1 dp aS w0 σ0 A a w'∧Rep C.cap σ1 r.2.1 v ((ρ1.o ir).tget 0)):bZ C w0 σ0 Φ S ρ A a w o (p5 S o.dst r):=by
 intro ρ' ak K Q hK;simp only[Oper.wp,hx,Oper.upon];cases hd:o.dst with
 |none=>
  rw[hd] at ak hK;refine(hc ρ' ak).mono fun e w' hh=>?_;obtain⟨v,σ1,dp,aS,rfl,hinv,bW⟩:=hh;refine hK _ _ ⟨σ1,dp,aS,?_⟩ rfl;have:(fun u=>A u∨(none:Option Nat)=some u)=A:=by funext u;simp
  rw[this];exact hinv
 |some d=>
  rw[hd] at ak hK;obtain⟨t1,t2⟩:=ht d hd;simp only[p5,aqU,av] at ak;obtain⟨ρ1,h1,h2⟩:=ak;simp[PI.runs,PI.run,PE.ev] at h2;subst h2;refine(hc ρ1 h1).mono fun e w' hh=>?_;obtain⟨v,σ1,dp,aS,rfl,hinv,bW⟩:=hh;refine hK _ _ ⟨σ1,dp,aS,?_⟩ (size_put _ _ _);have:(fun u=>A u∨some d=some u)=(fun u=>A u∨u=d):=by funext u;simp[eq_comm]
  rw[this];exact hinv.setReg t1 (s:=.dat r.2.1) bW t2 (fun _ _ e=>by cases e)
theorem Wm (h:Inv C S ρ σ own hv w0 σ0 A a w)(hC:CtxOK C σ0)(be:dx C)(hΦ:di C Φ){f:Nat}{args:Array Operand}{ts:Array TypeId}{r:St×Ty×List PI}{o:Oper}(ht:∀d,o.dst=some d→¬A d∧d<a.tmps.size)
 (hr:qI C S f args.toList []=some r) (ho:o.op=.call {callee:=.value (.func f),args:=args,argTypes:=ts}):bZ C w0 σ0 Φ S ρ A a w o (p5 S o.dst r):=by
 have hs:∃s,C.sig f=some s:=by
  simp only[qI,av] at hr;obtain⟨s,hs,_⟩:=hr;exact⟨s,hs⟩
 obtain⟨s,hs⟩:=hs;have hx:=Fy (a:=a) (w:=w) be hs ho;have jV:args.map a.eval=(args.toList.map a.eval++[]).toArray:=by apply rO;simp
 rw[jV] at hx;exact VX ht hx fun ρ1 ak=>Wl h hC hΦ (vs:=[]) rfl (fun i j ver e=>by simp at e) (fun i j ver e=>by simp at e) hr ak
def yx (S:St):List (Nat×Nat)→Bool
 |[]=>true
 |c::l=>Nat.beq c.2 (S.ver c.1)&&(match S.o c.1 with|.box ..=>true|_=>false)&&yx S l
theorem V2 (h:Inv C S ρ σ own hv w0 σ0 A a w):∀{l:List (Nat×Nat)},yx S l=true→∀(i j ver:Nat),l[i]?=some (j,ver)→ver=S.ver j∧∃k,hv j=.pointer (some ⟨k,0,none⟩)
 |[],_,i,j,ver,e=>by simp at e
 |c::l,hl,i,j,ver,e=>by
  simp only[yx,ao] at hl;cases i with
  |zero=>
   simp at e;subst e;refine⟨az hl.1.1,?_⟩;have h1:=hl.1.2;have h2:=h.objs j;split at h1
   ·rename_i ag shs eo;simp only at eo;rw[eo] at h2;obtain⟨k,cs,T,ds,g1,_⟩:=h2;exact⟨k,g1⟩
   ·cases h1
  |succ i=>simp at e;exact V2 h hl.2 i j ver e
def zA (C:Ctx)(S:St)(t:Nat)(args:List Operand):Option (St×Ty×List PI):=
 match kB S [] t with
 |.fclo f caps=>bif yx S caps then qI C S f args caps else none
 |_=>none
theorem Wk (h:Inv C S ρ σ own hv w0 σ0 A a w)(hC:CtxOK C σ0)(be:dx C)(hΦ:di C Φ){t:Nat}{args:Array Operand}{ts:Array TypeId}{r:St×Ty×List PI}{o:Oper}(ht:∀d,o.dst=some d→¬A d∧d<a.tmps.size)
 (hr:zA C S t args.toList=some r) (ho:o.op=.call {callee:=.value (.tmp t),args:=args,argTypes:=ts}):bZ C w0 σ0 Φ S ρ A a w o (p5 S o.dst r):=by
 unfold zA at hr;split at hr
 case h_2=>cases hr
 rename_i f caps gM;cases hb:yx S caps<;>simp only[hb,cond_true,cond_false] at hr
 ·cases hr
 have fY:=(nB (gs:=[]) h rfl t).1;rw[gM] at fY;obtain⟨vs,h1,h2,h3⟩:=fY;have hs:∃s,C.sig f=some s:=by
  simp only[qI,av] at hr;obtain⟨s,hs,_⟩:=hr;exact⟨s,hs⟩
 obtain⟨s,hs⟩:=hs;have hx:=adi (a:=a) (w:=w) (vs:=vs) (x:=.tmp t) be hs (by simpa [Act.eval] using h1) ho;have jV:args.map a.eval++vs.toArray=(args.toList.map a.eval++vs).toArray:=by apply rO;simp
 rw[jV] at hx;exact VX ht hx fun ρ1 ak=>Wl h hC hΦ h2 h3 (fun i j ver e _=>(V2 h hb i j ver e).2) hr ak
def Cd (S:St):List Operand→Option (List (Nat×Nat))
 |[]=>some []
 |x::xs=>
  match x with
  |.tmp t=>
   match kB S [] t with
   |.ptr j ver off=>bif Nat.beq ver (S.ver j)&&Nat.beq off 0 then(Cd S xs).map fun r=>(j,ver)::r else none
   |_=>none
  |_=>none
def Cy (C:Ctx)(S:St)(dst:Nat)(fn:Fn)(first caps:Array Operand):Option (St×List PI):=
 match fn,first.toList with
 |.func f,[]=>
  match C.sig f with
  |some s=>bif pW s.mode then(Cd S caps.toList).map fun c=>(S.setR dst (.fclo f c),[.setR dst (.con .none)]) else none
  |none=>none
 |_,_=>none
theorem V3 (h:Inv C S ρ σ own hv w0 σ0 A a w):∀{l:List Operand} {c:List (Nat×Nat)},Cd S l=some c→c.length=l.length∧∀(i j ver:Nat),c[i]?=some (j,ver)→ver≤S.ver j∧(ver=S.ver j→(l.map a.eval).getD i undef=hv j)
 |[],c,e=>by simp only[Cd,aU] at e;subst e;exact⟨rfl,fun i j ver e=>by simp at e⟩
 |x::xs,c,e=>by
  simp only[Cd] at e;split at e
  case h_2=>cases e
  rename_i t;split at e
  case h_2=>cases e
  rename_i j ver off gM;cases hb:(Nat.beq ver (S.ver j)&&Nat.beq off 0)<;>simp only[hb,cond_true,cond_false] at e
  ·cases e
  simp only[ao] at hb;simp only[aA] at e;obtain⟨r,hr,rfl⟩:=e;obtain⟨g1,g2⟩:=V3 h hr;have fY:=(nB (gs:=[]) h rfl t).1;rw[gM] at fY;refine⟨by simp[g1],fun i j' mL e=>?_⟩;cases i with
  |zero=>
   simp at e;obtain⟨rfl,rfl⟩:=e;refine⟨fY.1,fun e=>?_⟩;obtain⟨k,k1,k2⟩:=fY.2 e;have e0:off=0:=az hb.2;subst e0;rw[k1,←k2];simp[Act.eval]
  |succ i=>simp at e;simpa using g2 i j' mL e
theorem agx (h:Inv C S ρ σ own hv w0 σ0 A a w)(ht:¬A dst)(ah:dst<a.tmps.size){fn:Fn}{first caps:Array Operand}{r:St×List PI}{o:Oper}(hr:Cy C S dst fn first caps=some r)(hd:o.dst=some dst)(ho:o.op=.makeFunc fn first caps):bZ C w0 σ0 Φ S ρ A a w o r:=by
 unfold Cy at hr;split at hr
 case h_2=>cases hr
 rename_i f Df;split at hr
 case h_2=>cases hr
 rename_i s hs;cases hb:pW s.mode<;>simp only[hb,cond_true,cond_false] at hr
 ·cases hr
 simp only[aA] at hr;obtain⟨c,hc,rfl⟩:=hr;obtain⟨g1,g2⟩:=V3 h hc;have sK:first=#[]:=by rw[←tK];simpa using Df
 refine bZ.value hd fun ρ' ak=>⟨.func (.func f) #[] (caps.toList.map a.eval).toArray,w,?_,?_⟩
 ·subst sK;have e9:caps.map a.eval=(caps.toList.map a.eval).toArray:=by apply rO;rw[vM]
  simp[execOp,ho,Instr.makeFunc,e9]
 ·have hρ:ρ'=ρ.setR dst .none:=by simp[PI.runs,PI.run,PE.ev] at ak;exact ak.symm
  subst hρ;exact⟨_,_,_,h.setReg ht (s:=.fclo f c) ⟨_,rfl,by simp[g1],g2⟩ ah (fun _ _ e=>by cases e)⟩
end
end Cx
