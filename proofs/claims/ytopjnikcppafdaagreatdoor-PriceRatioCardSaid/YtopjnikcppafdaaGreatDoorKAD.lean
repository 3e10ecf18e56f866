/-
  Shared texts of this claim.
-/
import Derived.Test.YtopjnikcppafdaaGreatDoorKAC
set_option linter.unusedSimpArgs false
set_option linter.unusedVariables false
noncomputable section
namespace Cx
open Go Go.RowKit
open Classical in
def Im.noM (σ:Im):Im:=⟨σ.c,fun k=>if σ.m k=some cI then none else σ.m k⟩
theorem Rep.noM {cap:Nat→Option CSig}{σ:Im}{t:Ty}{v:Value}{d:D}(h:Rep cap σ t v d):Rep cap σ.noM t v d:=by
 induction h with
 |int k n h1 h2=>exact .int k n h1 h2
 |bool b=>exact .bool b
 |str s h=>exact .str s h
 |agg ts vs ds h1 h2 _ ho ih=>exact .agg ts vs ds h1 h2 ih ho
 |tup ts vs ds h1 h2 _ ih=>exact .tup ts vs ds h1 h2 ih
 |nil e=>exact .nil e
 |emp e a=>exact .emp e a
 |nils e=>exact .nils e
 |nsl0 e=>exact .nsl0 e
 |nsl e k o n c xs _ hx ih=>exact .nsl e k o n c xs ih hx
 |slice e k o n c xs vs hn hc hm _ hv hz ih=>
  refine .slice e k o n c xs vs hn hc hm ih hv fun e=>?_;have:=hz e;have ay:σ.m k≠some cI:=fun e'=>by rw[this] at e';exact wN (tO e')
  simp only[Im.noM,if_neg ay,this]
 |mapnil kt et=>exact .mapnil kt et
 |map kt et r ic es hm hl hx hk _ kI Gf=>
  refine .map kt et r ic es ?_ hl hx kI Gf;have ay:σ.m r≠some cI:=fun e=>by rw[hm] at e;cases e;exact Gy hl hk rfl
  simp only[Im.noM,if_neg ay,hm]
 |ref t k o v d _ hv ih=>exact .ref t k o v d ih hv
 |fn f cs vs ds hc h1 h2 _ ih=>exact .fn f cs vs ds hc h1 h2 ih
 |fnnil aa r=>exact .fnnil aa r
def Im.plus (σ τ:Im):Im:=⟨fun k o=>(σ.c k o).or (τ.c k o),fun k=>(σ.m k).or (τ.m k)⟩
theorem Im.plus_le1 (σ τ:Im):σ.le (σ.plus τ):=⟨fun k o v h=>by simp[Im.plus,h],fun k v h=>by simp[Im.plus,h]⟩
theorem pz.det {w:World}{k:Nat}{x y:List (Value×Value)}(h:pz w k x)(g:pz w k y):x=y:=by
 rcases h with⟨_,a,c,h1,h2⟩|⟨h1,h2⟩|⟨h1,_,_,_,h2⟩<;>rcases g with⟨_,a',c',g1,g2⟩|⟨g1,g2⟩|⟨g1,_,_,_,g2⟩
 ·rw[h1] at g1;cases g1;rw[←h2,←g2]
 ·rw[h1] at g2;cases g2
 ·rw[h1] at g2;cases g2
 ·rw[h2] at g1;cases g1
 ·rw[h1,g1]
 ·rw[h2] at g2;cases g2
 ·rw[h2] at g1;cases g1
 ·rw[h2] at g2;cases g2
 ·rw[h1,g1]
theorem Im.plus_le2 {σ τ:Im}{w:World}(h:σ.ok w)(g:τ.ok w):τ.le (σ.plus τ):=by
 refine⟨fun k o v e=>?_,fun k v e=>?_⟩
 ·show(σ.c k o).or (τ.c k o)=some v;cases hc:σ.c k o with
  |none=>simpa using e
  |some u=>have:=(h.c k o u hc).symm.trans (g.c k o v e);simpa using this
 ·show(σ.m k).or (τ.m k)=some v;cases hc:σ.m k with
  |none=>simpa using e
  |some u=>simpa using(h.m k u hc).det (g.m k v e)
theorem Im.plus_ok {σ τ:Im}{w:World}(h:σ.ok w)(g:τ.ok w):(σ.plus τ).ok w:=by
 refine⟨fun k o v e=>?_,fun k v e=>?_,fun k o v e=>?_⟩
 ·change (σ.c k o).or (τ.c k o)=some v at e;cases hc:σ.c k o with
  |none=>rw[hc] at e;exact g.c k o v (by simpa using e)
  |some u=>rw[hc] at e;simp at e;subst e;exact h.c k o u hc
 ·change (σ.m k).or (τ.m k)=some v at e;cases hc:σ.m k with
  |none=>rw[hc] at e;exact g.m k v (by simpa using e)
  |some u=>rw[hc] at e;simp at e;subst e;exact h.m k u hc
 ·change (σ.c k o).or (τ.c k o)=some _ at e;cases hc:σ.c k o with
  |none=>rw[hc] at e;exact g.f k o v (by simpa using e)
  |some u=>rw[hc] at e;simp at e;subst e;exact h.f k o v hc
theorem Im.plus_c {σ τ:Im}{k o:Nat}{v:Value}(h:(σ.plus τ).c k o=some v):σ.c k o=some v∨τ.c k o=some v:=by
 change (σ.c k o).or (τ.c k o)=some v at h;cases hc:σ.c k o with
 |none=>rw[hc] at h;exact .inr (by simpa using h)
 |some u=>rw[hc] at h;exact .inl (by simpa using h)
theorem Im.plus_m {σ τ:Im}{k:Nat}{v:List (Value×Value)}(h:(σ.plus τ).m k=some v):σ.m k=some v∨τ.m k=some v:=by
 change (σ.m k).or (τ.m k)=some v at h;cases hc:σ.m k with
 |none=>rw[hc] at h;exact .inr (by simpa using h)
 |some u=>rw[hc] at h;exact .inl (by simpa using h)
def Ty.pureT:Ty→Bool
 |.int _|.bool|.str|.nils _=>true
 |_=>false
def Ty.pure:Ty→Bool
 |.tup ts=>ts.all Ty.pureT
 |.agg ts=>ts.all Ty.pureT
 |t=>Ty.pureT t
theorem Rep.pureT {cap:Nat→Option CSig}{σ τ:Im}{t:Ty}{v:Value}{d:D}(h:Rep cap σ t v d)(hp:t.pureT=true):Rep cap τ t v d:=by
 cases h<;>simp[Ty.pureT] at hp<;>constructor<;>assumption
theorem Rep.pure {cap:Nat→Option CSig}{σ τ:Im}{t:Ty}{v:Value}{d:D}(h:Rep cap σ t v d)(hp:t.pure=true):Rep cap τ t v d:=by
 cases h with
 |agg ts vs ds h1 h2 h ho=>exact .agg ts vs ds h1 h2 (fun i t hi=>(h i t hi).pureT (da.1 hp t (ko hi))) ho
 |tup ts vs ds h1 h2 h=>exact .tup ts vs ds h1 h2 (fun i t hi=>(h i t hi).pureT (da.1 hp t (ko hi)))
 |int k n h1 h2=>exact .int k n h1 h2
 |bool b=>exact .bool b
 |str s h=>exact .str s h
 |nils e=>exact .nils e
 |_=>simp[Ty.pure,Ty.pureT] at hp
def alj (C:Ctx)(σ':Im)(B:Nat)(w':World)(ow:Nat→Option Nat)(i:Nat):RC→Value→D→Prop
 |.dat t,v,d=>t.one=true∧Rep C.cap σ' t v d
 |.row T e,v,d=>∃cells xs,d=.list xs∧w'.ownsRow B T e.size v xs.length cells∧dy C.cap σ' e cells xs∧∀k,v.ownBlock=some k→ow k=some i
def nu (C:Ctx)(s:Sig)(σ':Im)(w w':World)(v:Value)(d:D):Prop:=
 match s.mode with
 |.dat=>Rep C.cap σ' s.res v d
 |.it _=>True
 |.ob ..=>True
 |.rows l=>∃(vs:List Value) (ds:List D) (ow:Nat→Option Nat),v=.agg vs.toArray∧d=.agg ds∧vs.length=l.length∧ds.length=l.length∧(∀(i:Nat) (c:RC),l[i]?=some c→alj C σ' w.heap.size w' ow i c (vs.getD i undef) (ds.getD i .none))∧
   ∀k i,ow k=some i→w.heap.size≤k∧k<w'.heap.size∧(∀o,σ'.c k o=none)∧σ'.m k=none
 |.row T e=>∃cells xs,d=.list xs∧w'.ownsRow w.heap.size T e.size v xs.length cells∧dy C.cap σ' e cells xs∧∀k,v.ownBlock=some k→(∀o,σ'.c k o=none)∧σ'.m k=none
def qd (C:Ctx)(σ:Im)(ts:List Ty)(args:List Value)(ds:List D):Prop:=
 args.length=ts.length∧ds.length=ts.length∧∀(i:Nat) (t:Ty),ts[i]?=some t→Rep C.cap σ t (args.getD i undef) (ds.getD i .none)
def ij (C:Ctx)(f:Nat)(s:Sig)(ds:List D)(d:D):Prop:=
 ∀(σ:Im) (w:World) (args:Array Value),σ.ok w→CtxOK C σ→qd C σ s.args args.toList ds→
  Calls C.P f args w fun e w'=>∃v σ',e=.returned v∧σ.le σ'∧σ'.ok w'∧Below w.heap.size w w'∧
   (∀k o x,σ'.c k o=some x→σ.c k o=some x∨w.heap.size≤k)∧(∀k x,σ'.m k=some x→σ.m k=some x∨w.heap.size≤k)∧nu C s σ' w w' v d
def kc:List (Nat×Ob)→Nat→Ob
 |[],_=>.dead
 |x::l,j=>bif Nat.beq x.1 j then x.2 else kc l j
def wq:List (Nat×Ob)→List D→Nat→D
 |x::l,d::ds,j=>bif Nat.beq x.1 j then d else wq l ds j
 |_,_,_=>.none
def kg (shs:List Sh)(obs:List (Nat×Ob)):St:=⟨fun t=>shs.getD t .none,fun j=>kc obs j,fun _=>0⟩
def sY (obs:List (Nat×Ob))(ds os:List D):Env:=⟨fun t=>ds.getD t .none,fun j=>wq obs os j⟩
def y4:Sh→Bool
 |.dat _=>true
 |_=>false
def v7:Mode→Bool
 |.ob ..=>true
 |_=>false
def Nh:Sh→Bool
 |.none|.dat _|.obj ..|.ptr ..|.fclo ..=>true
 |_=>false
def Ng:Ob→Bool
 |.row ..|.mp ..=>true
 |.box _ shs=>shs.all Nh
 |_=>false
def zk (shs:List Sh)(obs:List (Nat×Ob)):Bool:=shs.all Nh&&obs.all fun x=>Ng x.2
def MC:List Sh→List (Nat×Ob)→Option (TypeId×Ty×List Ty)
 |.obj 0 0::l,[(0,.row T e),(1,.tr)]=>(ab7 l).map fun ts=>(T,e,ts)
 |_,_=>none
def xp (C:Ctx)(f:Nat)(T:TypeId)(e:Ty)(ts:List Ty)(ds:List D)(d:D):Prop:=
 ∀(N:Nat) (σ:Im) (w:World) (v:Value) (args:List Value) (xs:List D) (cells:List Value) (ds':List D),ds=.list xs::ds'→σ.ok w→CtxOK C σ→N≤w.heap.size→w.ownsRow N T e.size v xs.length cells→dy C.cap σ e cells xs→
  (∀k,v.ownBlock=some k→k<w.heap.size∧(∀o,σ.c k o=none)∧σ.m k=none)→qd C σ ts args ds'→
  Calls C.P f (v::args).toArray w fun x w'=>∃v' fw dp,x=.returned v'∧d=.list fw∧Below N w w'∧(∀k,k<w.heap.size→v.ownBlock≠some k→w'.heap[k]?=w.heap[k]?)∧
   w'.ownsRow N T e.size v' fw.length dp∧dy C.cap σ e dp fw∧∀k,v'.ownBlock=some k→(v.ownBlock=some k∨w.heap.size≤k)∧k<w'.heap.size
def tH (C:Ctx)(f:Nat)(shs:List Sh)(obs:List (Nat×Ob))(res:Ty)(ds:List D)(d:D):Prop:=
 ∀(N:Nat) (σ:Im) (own:Nat→Option Nat) (hv:Nat→Value) (w:World) (args:Array Value) (cx:Nat→Prop),zk shs obs=true→σ.ok w→CtxOK C σ→(∀k,σ.m k≠some cI)→N≤w.heap.size→args.size=shs.length→
  (∀k j,own k=some j→N≤k∧k<w.heap.size∧(∀o,σ.c k o=none)∧σ.m k=none)→
  (∀k,cx k→k<w.heap.size∧own k=none∧(∀o,σ.c k o=none)∧σ.m k=none)→
  (∀t,aJ C (kg shs obs) (sY obs ds (ds.drop shs.length)) σ hv (shs.getD t .none) (args.getD t undef) (ds.getD t .none))→
  (∀j,cA C (kg shs obs) (sY obs ds (ds.drop shs.length)) σ own hv w N j (kc obs j))→
  Calls C.P f args w fun e w'=>∃v σ' own' hv' dr os,e=.returned v∧d=.tup (dr::os)∧os.length=obs.length∧σ.le σ'∧σ'.ok w'∧Below 0 w w'∧
   (∀k,k<w.heap.size→own k=none→w'.heap[k]?=w.heap[k]?)∧
   (∀k o x,σ'.c k o=some x→(σ.c k o=some x∨N≤k)∧¬cx k)∧(∀k x,σ'.m k=some x→(σ.m k=some x∨N≤k)∧¬cx k)∧(∀k,σ'.m k=some cI→N≤k→k<w.heap.size→own k≠none)∧
   (∀k j,own' k=some j→N≤k∧k<w'.heap.size∧(∀o,σ'.c k o=none)∧σ'.m k=none∧(k<w.heap.size→own k≠none))∧
   (∀(t:Nat) (sh:Sh),shs[t]?=some sh→y4 sh=false→aJ C (kg shs obs) (sY obs ds os) σ' hv' sh (args.getD t undef) (ds.getD t .none))∧
   (∀j,cA C (kg shs obs) (sY obs ds os) σ' own' hv' w' N j (kc obs j))∧Rep C.cap σ' res v dr
theorem aJ.ctx {C C':Ctx}(eR:C'.cap=C.cap){S:St}{ρ:Env}{σ:Im}{hv:Nat→Value}{s:Sh}(hp:Nh s=true){v:Value}{d:D}(h:aJ C S ρ σ hv s v d):aJ C' S ρ σ hv s v d:=by
 cases s with
 |dat t=>show Rep C'.cap σ t v d;rw[eR];exact h
 |opt gs s=>cases hp
 |eptr j ver a b=>cases hp
 |yv=>cases hp
 |agg l=>cases hp
 |_=>exact h
theorem cA.ctx {C C':Ctx}(eR:C'.cap=C.cap){S:St}{ρ:Env}{σ:Im}{own:Nat→Option Nat}{hv:Nat→Value}{w:World}{N j:Nat}{ob:Ob}(hp:Ng ob=true∨ob=.dead)(h:cA C S ρ σ own hv w N j ob):cA C' S ρ σ own hv w N j ob:=by
 rcases hp with hp|rfl
 ·cases ob with
  |row T e=>obtain⟨cells,xs,h1,h2,h3,h4⟩:=h;exact⟨cells,xs,h1,h2,by rw[eR];exact h3,h4⟩
  |mp kt et=>obtain⟨k,arr,clock,es,h1,h2,h3,h4,h5,h6,h7⟩:=h;exact⟨k,arr,clock,es,h1,h2,h3,h4,h5,h6,by rw[eR];exact h7⟩
  |box ag shs=>
   obtain⟨k,cs,T,ds,h1,h2,h3,h4,h5,h6,h7⟩:=h;exact⟨k,cs,T,ds,h1,h2,h3,h4,h5,h6,fun i s hs=>⟨(h7 i s hs).1,(h7 i s hs).2.ctx eR (da.1 hp s (ko hs))⟩⟩
  |_=>cases hp
 ·trivial
theorem afB {obs:List (Nat×Ob)}(h:(obs.all fun x=>Ng x.2)=true)(j:Nat):Ng (kc obs j)=true∨kc obs j=.dead:=by
 induction obs with
 |nil=>exact .inr rfl
 |cons x l ih=>
  simp only[tJ,aw] at h;simp only[kc];cases hb:Nat.beq x.1 j
  ·exact ih h.2
  ·exact .inl h.1
theorem tH.ctx {C C':Ctx}{f:Nat}{shs:List Sh}{obs:List (Nat×Ob)}{res:Ty}{ds:List D}{d:D}(h:tH C f shs obs res ds d)(hP:C'.P=C.P)(eR:C'.cap=C.cap)(sA:C'.glob=C.glob):tH C' f shs obs res ds d:=by
 intro N σ own hv w args cx hp ax hC bx hN aP bC gP h1 h2;have aV:=hp;simp only[zk,aw] at aV;have vK:∀t s,shs[t]?=some s→Nh s=true:=fun t s hs=>da.1 aV.1 s (ko hs);have hC':CtxOK C σ:=⟨fun g x hx=>by have:=hC.glob g x (by rw[sA];exact hx);rwa [eR] at this,fun g x hx=>hC.mg g x (by rw[sA];exact hx)⟩
 have:=h N σ own hv w args cx hp ax hC' bx hN aP bC gP (fun t=>by
  cases hs:shs[t]? with
  |none=>rw[aI,hs];trivial
  |some s=>have:=h1 t;rw[aI,hs] at this ⊢;exact this.ctx eR.symm (vK t s hs)) (fun j=>(h2 j).ctx eR.symm (afB aV.2 j))
 rw[hP];refine this.mono fun e w' hh=>?_;obtain⟨v,σ',own',hv',dr,os,g1,g2,g3,g4,g5,g6,g7,g8,g9,g10,g11,g12,g13,g14⟩:=hh;exact⟨v,σ',own',hv',dr,os,g1,g2,g3,g4,g5,g6,g7,g8,g9,g10,g11,fun t sh hs hd=>(g12 t sh hs hd).ctx eR (vK t sh hs),fun j=>(g13 j).ctx eR (afB aV.2 j),by rw[eR];exact g14⟩
theorem dy.cap {c c':Nat→Option CSig}(hc:c'=c){σ:Im}{e:Ty}{cells:List Value}{xs:List D}(h:dy c σ e cells xs):dy c' σ e cells xs:=hc▸h
theorem xp.ctx {C C':Ctx}{f:Nat}{T:TypeId}{e:Ty}{ts:List Ty}{ds:List D}{d:D}(h:xp C f T e ts ds d)(hP:C'.P=C.P)(eR:C'.cap=C.cap)(sA:C'.glob=C.glob):xp C' f T e ts ds d:=by
 intro N σ w v args xs cells ds' h1 h2 h3 h4 h5 h6 h7 h8;rw[hP];refine(h N σ w v args xs cells ds' h1 h2 ⟨fun g x hx=>by have:=h3.glob g x (by rw[sA];exact hx);rwa [eR] at this,fun g x hx=>h3.mg g x (by rw[sA];exact hx)⟩ h4 h5 (h6.cap eR.symm) h7 ⟨h8.1,h8.2.1,fun i t hi=>by have:=h8.2.2 i t hi;rwa [eR] at this⟩).mono fun x w' hh=>?_;obtain⟨v',fw,dp,g1,g2,g3,g4,g5,g6,g7⟩:=hh;exact⟨v',fw,dp,g1,g2,g3,g4,g5,g6.cap eR,g7⟩
def eJ (C:Ctx)(f:Nat)(shs:List Sh)(obs:List (Nat×Ob))(res:Ty)(ds:List D)(d:D):Prop:=
 match MC shs obs with
 |some m=>xp C f m.1 m.2.1 m.2.2 ds d
 |none=>tH C f shs obs res ds d
theorem eJ.ctx {C C':Ctx}{f:Nat}{shs:List Sh}{obs:List (Nat×Ob)}{res:Ty}{ds:List D}{d:D}(h:eJ C f shs obs res ds d)(hP:C'.P=C.P)(eR:C'.cap=C.cap)(sA:C'.glob=C.glob):eJ C' f shs obs res ds d:=by
 unfold eJ at h ⊢;split at h
 ·exact xp.ctx h hP eR sA
 ·exact tH.ctx h hP eR sA
theorem af2 {shs:List Sh}{obs:List (Nat×Ob)}(h:∀x,x∈obs→x.2≠.tr):MC shs obs=none:=by
 unfold MC;split
 ·exact absurd rfl (h (1,.tr) (by simp))
 ·rfl
theorem eJ.of {C:Ctx}{f:Nat}{shs:List Sh}{obs:List (Nat×Ob)}{res:Ty}{ds:List D}{d:D}(ht:∀x,x∈obs→x.2≠.tr)(h:tH C f shs obs res ds d):eJ C f shs obs res ds d:=by
 unfold eJ;rw[af2 ht];exact h
theorem eJ.plain {C:Ctx}{f:Nat}{shs:List Sh}{obs:List (Nat×Ob)}{res:Ty}{ds:List D}{d:D}(hp:zk shs obs=true)(h:eJ C f shs obs res ds d):tH C f shs obs res ds d:=by
 unfold eJ at h;rw[af2 fun x hx e=>?_] at h
 ·exact h
 ·simp only[zk,aw] at hp;have:=da.1 hp.2 x hx;rw[e] at this;cases this
def dt (C:Ctx)(Φ:aW):Prop:=∀f ds d,Φ f ds=some d→∀s,C.sig f=some s→(v7 s.mode=false→ij C f s ds d)∧∀shs obs,s.mode=.ob shs obs→eJ C f shs obs s.res ds d
def og:List Ty→Ty→Option (List Ty)
 |[.fn ys .bool],.tup []=>some ys
 |_,_=>none
def dL (C:Ctx):Prop:=(∀f cs,C.cap f=some cs→og cs.args cs.res=none→C.sig f=some ⟨cs.args++cs.caps,cs.res,.dat⟩)∧∀f s,C.sig f=some s→∃fn,C.P.funcs[f]?=some fn∧fn.body.isSome=true∧(fn.name== "runtime.NumGoroutine")=false
def Jc (S:St):List AgC→List Nat
 |[]=>[]
 |.obj j ver::l=>bif Nat.beq ver (S.ver j)&&pA (S.o j) then j::Jc S l else Jc S l
 |_::l=>Jc S l
def ef (S:St)(gs:List (Nat×Bool)):List Operand→List Nat
 |[]=>[]
 |x::xs=>
  match gD S gs x with
  |.obj j ver=>bif Nat.beq ver (S.ver j)&&pA (S.o j) then j::ef S gs xs else ef S gs xs
  |.agg l=>Jc S l++ef S gs xs
  |_=>ef S gs xs
def ur (gs:List (Nat×Bool))(s:Sh):Sh:=
 match gs with
 |[]=>s
 |_=>.opt gs s
def St.fzs (S:St)(js:List Nat):St:=js.foldl St.fz S
def ma:List RC→List Ty
 |[]=>[]
 |.dat t::l=>t::ma l
 |.row _ e::l=>.slice e.rol::ma l
def Rk (fr:List Nat)(dst:Nat)(s:Sig):Option Sig:=
 match s.mode with
 |.rows l=>bif !(fr.any (Nat.beq (2000000+dst)))&&Ty.beq s.res (.agg (ma l)) then some {s with mode:=.dat} else some s
 |_=>some s
theorem NW:∀{l:List RC} {i:Nat} {t:Ty},(ma l)[i]?=some t→(l[i]?=some (.dat t))∨∃T e,l[i]?=some (.row T e)∧t=.slice e.rol
 |[],i,t,h=>by simp[ma] at h
 |.dat u::l,0,t,h=>by simp[ma] at h;subst h;exact .inl rfl
 |.row T e::l,0,t,h=>by simp[ma] at h;exact .inr ⟨T,e,rfl,h.symm⟩
 |.dat u::l,i+1,t,h=>by simpa using NW (l:=l) (i:=i) (by simpa [ma] using h)
 |.row T e::l,i+1,t,h=>by simpa using NW (l:=l) (i:=i) (by simpa [ma] using h)
theorem VZ:∀(l:List RC),(ma l).length=l.length
 |[]=>rfl
 |.dat _::l=>by simp[ma,VZ l]
 |.row ..::l=>by simp[ma,VZ l]
theorem ij.asDat {C:Ctx}{f:Nat}{s:Sig}{ds:List D}{d:D}{l:List RC}(hm:s.mode=.rows l)(hr:s.res=.agg (ma l))(h:ij C f s ds d):ij C f {s with mode:=.dat} ds d:=by
 intro σ w args h1 h2 h3;refine(h σ w args h1 h2 h3).mono fun e w' hh=>?_;obtain⟨v,σ',rfl,hle,ax,hb,eD,dv,j9⟩:=hh;simp only[nu,hm] at j9;obtain⟨vs,ds,ow,rfl,rfl,l1,l2,Ti,L5⟩:=j9
 have hex:∀i,∃cs:List Value,∀T e,l[i]?=some (.row T e)→∃xs,ds.getD i .none=.list xs∧w'.ownsRow w.heap.size T e.size (vs.getD i undef) xs.length cs∧dy C.cap σ' e cs xs∧∀k,(vs.getD i undef).ownBlock=some k→ow k=some i:=fun i=>by
  cases hl:l[i]? with
  |none=>exact⟨[],fun _ _ h=>by cases h⟩
  |some c=>
   cases c with
   |dat t=>exact⟨[],fun _ _ h=>by cases h⟩
   |row T e=>
    obtain⟨cs,xs,g1,g2,g3,g4⟩:=Ti i _ hl;exact⟨cs,fun T' e' h=>by cases h;exact⟨xs,g1,g2,g3,g4⟩⟩
 let cs:Nat→List Value:=fun i=>Classical.choose (hex i)
 have cK:∀i T e,l[i]?=some (.row T e)→∃xs,ds.getD i .none=.list xs∧w'.ownsRow w.heap.size T e.size (vs.getD i undef) xs.length (cs i)∧dy C.cap σ' e (cs i) xs∧∀k,(vs.getD i undef).ownBlock=some k→ow k=some i:=fun i=>aaJ (hex i)
 let q6:Nat→Nat→Bool:=fun i k=>decide ((vs.getD i undef).ownBlock=some k)&&(match l[i]? with|some (.row ..)=>true|_=>false)
 let τ:Im:={c:=fun k o=>match ow k with|some i=>(bif q6 i k then(cs i)[o]? else none)|none=>σ'.c k o,m:=fun k=>match ow k with|some i=>(bif q6 i k then some mc else none)|none=>σ'.m k}
 have jq:σ'.le τ:=by
  refine⟨fun k o x hx=>?_,fun k x hx=>?_⟩
  ·cases hk:ow k with
   |none=>simp only[τ,hk];exact hx
   |some i=>have:=(L5 k i hk).2.2.1 o;rw[this] at hx;cases hx
  ·cases hk:ow k with
   |none=>simp only[τ,hk];exact hx
   |some i=>have:=(L5 k i hk).2.2.2;rw[this] at hx;cases hx
 have de:∀i k,q6 i k=true→∃T e,l[i]?=some (.row T e)∧(vs.getD i undef).ownBlock=some k:=fun i k hk=>by
  simp only[q6,aw,decide_eq_true_eq] at hk;obtain⟨bD,cB⟩:=hk;split at cB
  ·rename_i T e hl;exact⟨T,e,hl,bD⟩
  ·cases cB
 refine⟨_,τ,rfl,hle.trans jq,⟨fun k o x hx=>?_,fun k x hx=>?_,fun k o x hx=>?_⟩,hb,fun k o x hx=>?_,fun k x hx=>?_,?_⟩
 ·simp only[τ] at hx;split at hx
  ·rename_i i hi;cases hr:q6 i k with
   |false=>rw[hr] at hx;cases hx
   |true=>
    rw[hr,cond_true] at hx;obtain⟨T,e,hl,iQ⟩:=de i k hr;obtain⟨xs,g1,g2,g3,g4⟩:=cK i T e hl;have:=g2.cells iQ o x hx;rw[tX] at this;simpa using this
  ·exact ax.c k o x hx
 ·simp only[τ] at hx;split at hx
  ·rename_i i hi;cases hr:q6 i k with
   |false=>rw[hr] at hx;cases hx
   |true=>
    rw[hr,cond_true] at hx;cases hx;obtain⟨T,e,hl,iQ⟩:=de i k hr;obtain⟨xs,g1,g2,g3,g4⟩:=cK i T e hl;obtain⟨Rh,T',fz,e'⟩:=ah4 g2 iQ;exact .inr (.inr ⟨rfl,Rh,T',fz,e'⟩)
  ·exact ax.m k x hx
 ·simp only[τ] at hx;split at hx
  ·rename_i i hi;cases hr:q6 i k with
   |false=>rw[hr] at hx;cases hx
   |true=>
    obtain⟨T,e,hl,iQ⟩:=de i k hr;obtain⟨xs,g1,g2,g3,g4⟩:=cK i T e hl;exact .inr (ah5 g2 iQ o)
  ·exact ax.f k o x hx
 ·simp only[τ] at hx;split at hx
  ·rename_i i hi;exact .inr (L5 k i hi).1
  ·exact eD k o x hx
 ·simp only[τ] at hx;split at hx
  ·rename_i i hi;exact .inr (L5 k i hi).1
  ·exact dv k x hx
 ·simp only[nu,hr];have hlen:=VZ l;refine .agg (ma l) vs ds (by omega) (by omega) (fun i t hi=>?_) (fun i t hi=>?_)
  ·rcases NW hi with hl|⟨T,e,hl,rfl⟩
   ·exact(Ti i _ hl).2.mono jq
   ·obtain⟨xs,g1,g2,⟨us,g3,g4⟩,g5⟩:=cK i T e hl;rw[g1];rcases g2.2 with⟨e1,e2⟩|⟨g,cap,cur,e1,e2,e3,e4,e5,e6,e7⟩
    ·rw[e1];have:xs=[]:=Pz e2;subst this;exact .nil _
    ·rw[e1];have iQ:(vs.getD i undef).ownBlock=some g:=by rw[e1];rfl
     refine .slice e.rol g 0 xs.length cap xs us rfl e4 e5 (fun i x hx=>((g3 i x hx).mono jq).unf_rol) (fun j m u hj hu=>?_) (fun _=>by
      have hR:q6 i g=true:=by simp only[q6,iQ,hl];simp
      simp only[τ,g5 g iQ,hR,cond_true])
     rw[Ty.rol_size];have hR:q6 i g=true:=by simp only[q6,iQ,hl];simp
     simp only[τ,g5 g iQ,hR,cond_true,je];exact g4 j m u hj hu
  ·rcases NW hi with hl|⟨T,e,hl,rfl⟩
   ·exact(Ti i _ hl).1
   ·rfl
theorem ana {C:Ctx}{fr:List Nat}{dst f:Nat}{s s':Sig}{ds:List D}{d:D}(hs:Rk fr dst s=some s')(hm:s'.mode=.dat)(h:v7 s.mode=false→ij C f s ds d):ij C f s' ds d:=by
 unfold Rk at hs;split at hs
 ·rename_i l hl;cases hb:(!(fr.any (Nat.beq (2000000+dst)))&&Ty.beq s.res (.agg (ma l)))<;>simp only[hb,cond_true,cond_false] at hs
  ·cases hs;rw[hl] at hm;cases hm
  ·cases hs;simp only[aw] at hb;exact ij.asDat hl (Ty.beq_eq _ _ hb.2) (h (by rw[hl];rfl))
 ·cases hs;exact h (by rw[hm];rfl)
def BI (C:Ctx)(S:St)(gs:List (Nat×Bool))(dst:Nat)(f:Nat)(args:List Operand):Option (St×Sh×List PI):=
 ((C.sig f).bind (Rk C.fr dst)).bind fun s=>
   match s.mode with
   |.dat=>
    (rN C (S.fzs (ef S gs args)) gs args).bind fun u=>
      bif Ty.subs u.1 s.args then some (bif s.res.pure then S else S.fzs (ef S gs args),.dat s.res,[.call gs dst f u.2]) else Option.none
   |_=>Option.none
def ER (C:Ctx)(S:St)(dst:Nat)(f:Nat)(args:List Operand):kT:=
 (C.sig f).bind fun s=>
    match s.mode with
    |.row T e=>
     (rN C (S.fzs (ef S [] args)) [] args).bind fun u=>
       bif Ty.subs u.1 s.args then some (mkObj (bif e.pure then S else S.fzs (ef S [] args)) dst (.row T e),[.call [] dst f u.2,.setO dst (.r dst),.setR dst (.con .none)]) else Option.none
    |_=>Option.none
def Rr (C:Ctx)(S:St)(dst:Nat)(f:Nat)(args:List Operand):kT:=none
def EP (C:Ctx)(S:St)(dst:Nat)(f:Nat)(args:List Operand):kT:=
 (C.sig f).bind fun s=>
    match s.mode,args with
    |.ob shs obs,x::xs=>
     match MC shs obs,gD S [] x with
     |some m,.obj j ver=>
      match S.o j with
      |.row T e=>
       bif Nat.beq ver (S.ver j)&&(Nat.beq T m.1&&Ty.beq e m.2.1) then
            (rN C S [] xs).bind fun u=>
             bif Ty.subs u.1 m.2.2 then some ((S.newO j (.row T e)).setR dst (.obj j (S.ver j+1)),[.call [] dst f (.o j::u.2),.setO j (.r dst),.setR dst (.con .none)]) else Option.none
       else Option.none
      |_=>Option.none
     |_,_=>Option.none
    |_,_=>Option.none
def yd (C:Ctx)(S:St)(gs:List (Nat×Bool))(dst:Nat)(x:Operand)(args:List Operand):Option (St×Sh×List PI):=
 match use C S gs x with
 |some (.fn aa r,e)=>
  match og aa r with
  |some _=>Option.none
  |Option.none=>
  (rN C (S.fzs (ef S gs args)) gs args).bind fun u=>
    bif Ty.subs u.1 aa then some (bif r.pure then S else S.fzs (ef S gs args),.dat r,[.callc gs dst e u.2]) else Option.none
 |_=>Option.none
theorem yj:∀(js:List Nat) (S:St),(S.fzs js).ver=S.ver∧(S.fzs js).r=S.r
 |[],S=>⟨rfl,rfl⟩
 |j::js,S=>by
  obtain⟨h1,h2⟩:=yj js (S.fz j);obtain⟨k1,k2⟩:=RO S j;exact⟨h1.trans k1,h2.trans k2⟩
section
variable {C:Ctx} {S:St} {ρ:Env} {σ:Im} {own:Nat→Option Nat} {hv:Nat→Value} {w0:World} {σ0:Base} {A:Nat→Prop} {a:Act} {w:World} {gs:List (Nat×Bool)} {Φ:aW} {dst:Nat}
theorem Inv.fzs:∀(js:List Nat) {S:St} {σ:Im} {own:Nat→Option Nat},Inv C S ρ σ own hv w0 σ0 A a w→∃σ' own',σ.le σ'∧Inv C (S.fzs js) ρ σ' own' hv w0 σ0 A a w
 |[],S,σ,own,h=>⟨σ,own,.refl σ,h⟩
 |j::js,S,σ,own,h=>by
  obtain⟨σ1,eh,hle,h1⟩:=h.fz j;obtain⟨σ2,jx,jq,h2⟩:=Inv.fzs js h1;exact⟨σ2,jx,hle.trans jq,h2⟩
theorem Inv.world (h:Inv C S ρ σ own hv w0 σ0 A a w){σ':Im}{w':World}(hle:σ.le σ')(ax:σ'.ok w')(hb:Below w.heap.size w w')(eD:∀k o x,σ'.c k o=some x→σ.c k o=some x∨w.heap.size≤k)
 (dv:∀k x,σ'.m k=some x→σ.m k=some x∨w.heap.size≤k):Inv C S ρ σ' own hv w0 σ0 A a w':=by
 have aP:=h.below.size;refine h.step (fun _=>False) rfl hle ax (fun k o x hx=>(eD k o x hx).imp id (fun e=>⟨by omega,.inr e⟩)) (fun k x hx=>(dv k x hx).imp id (fun e=>⟨by omega,.inr e⟩)) (hb.mono aP) (.refl S hv) (fun j _=>⟨rfl,rfl,rfl,fun k hk=>⟨hk,hb.block k (h.owns k j hk).2.1⟩⟩) (fun _ hf=>hf.elim) (fun k j hk=>?_) (fun _=>id) (fun t=>.inl ⟨rfl,rfl,rfl⟩) (fun _ _=>rfl) (fun k hk _=>hb.block k hk) (fun k i hk=>.inl ⟨i,hk⟩) (fun _ hf=>hf.elim);obtain⟨g1,g2,g3,g4⟩:=h.owns k j hk;refine⟨g1,by have:=hb.size;omega,fun o=>?_,?_⟩
 ·cases hc:σ'.c k o with
  |none=>rfl
  |some x=>rcases eD k o x hc with e|e
           ·rw[g3 o] at e;cases e
           ·omega
 ·cases hc:σ'.m k with
  |none=>rfl
  |some x=>rcases dv k x hc with e|e
           ·rw[g4] at e;cases e
           ·omega
theorem CtxOK.mono {C:Ctx}{σ σ':Im}(h:CtxOK C σ)(hle:σ.le σ'):CtxOK C σ':=⟨fun g x hx=>(h.glob g x hx).mono hle,fun g x hx=>hle.m _ _ (h.mg g x hx)⟩
theorem IE (h:Inv C S ρ σ own hv w0 σ0 A a w)(hC:CtxOK C σ0)(hg:holds gs ρ=true){xs:List Operand}{u:List Ty×List PE}{ts:List Ty}(hu:rN C S gs xs=some u)(hs:Ty.subs u.1 ts=true):qd C σ ts (xs.map a.eval) (PE.evs ρ u.2):=by
 obtain⟨l1,l2,aO⟩:=akq h hC hg _ _ hu;have hl:=Ty.subs_len _ _ hs;refine⟨by rw[dM];omega,by rw[PE.evs_eq,dM];omega,fun i t hi=>?_⟩;obtain⟨s,dZ,df⟩:=Ty.subs_get _ _ hs i t hi;exact(aO i s dZ).sub df
theorem OC {o:Oper}{f:Nat}{args:Array Operand}{ts:Array TypeId}(aZ:dL C){s:Sig}(hs:C.sig f=some s)(ho:o.op=.call {callee:=.value (.func f),args:=args,argTypes:=ts}):
 (execOp a.eval o).run C.P w=.ok (.enter f (args.map a.eval)) w:=by
 obtain⟨fn,h1,h2,h3⟩:=aZ.2 f s hs;obtain⟨bd,iP⟩:=abe.1 h2;have h4:¬fn.name= "runtime.NumGoroutine" :=by simpa using h3
 simp[execOp,ho,resolve,Act.eval,Deferred.ofValue,invoke,callFunc,h1,iP,h4]
theorem ax9 {o:Oper}{x:Operand}{f:Nat}{vs:List Value}{args:Array Operand}{ts:Array TypeId}(aZ:dL C){s:Sig}(hs:C.sig f=some s)(hx:a.eval x=.func (.func f) #[] vs.toArray)(ho:o.op=.call {callee:=.value x,args:=args,argTypes:=ts}):
 (execOp a.eval o).run C.P w=.ok (.enter f (args.map a.eval++vs.toArray)) w:=by
 obtain⟨fn,h1,h2,h3⟩:=aZ.2 f s hs;obtain⟨bd,iP⟩:=abe.1 h2;have h4:¬fn.name= "runtime.NumGoroutine" :=by simpa using h3
 simp[execOp,ho,resolve,hx,Deferred.ofValue,invoke,callFunc,h1,iP,h4]
theorem abM (h:Inv C S ρ σ own hv w0 σ0 A a w)(hC:CtxOK C σ0)(ht:¬A dst)(af:dst<a.tmps.size)(eC:∀g,g∈gs→A g.1)(hg:holds gs ρ=true){f:Nat}{s:Sig}{js:List Nat}{vals:List Value}{ds:List D}{d:D}(nX:s.mode=.dat)(hfn:ij C f s ds d)
 (jm:∀σ1 eh,σ.le σ1→Inv C (S.fzs js) ρ σ1 eh hv w0 σ0 A a w→qd C σ1 s.args vals ds) {K:Act→World→Prop} {Q:Exit→Act→World→Prop}
 (hK:∀a' w',Good C w0 σ0 ((bif s.res.pure then S else S.fzs js).setR dst (ur gs (.dat s.res))) (ρ.setR dst d) (fun u=>A u∨u=dst) a' w'→a'.tmps.size=a.tmps.size→K a' w'):
 Calls C.P f vals.toArray w (fun e lL=>match e with|.returned v=>K (a.put (some dst) v) lL|.panicked chain=>Q (.panic chain) a lL|.outgrown=>LetsOut Q):=by
 obtain⟨σ1,eh,mG,h1⟩:=Inv.fzs js h;have dq:=hfn σ1 w vals.toArray h1.ok (hC.mono h1.le) (by simpa using jm σ1 eh mG h1);refine dq.mono fun e w' hh=>?_;obtain⟨v,σ',rfl,hle,ax,hb,eD,dv,j9⟩:=hh;simp only[nu,nX] at j9;refine hK _ _ ?_ (size_put _ _ _);have hh:holds gs (ρ.setR dst d)=true:=by rw[FU (t:=dst) (d:=d) fun g hm e=>ht (by rw[←e];exact eC g hm)];exact hg
 have put:∀{S2:St} {σ2:Im} {jx:Nat→Option Nat},Inv C S2 ρ σ2 jx hv w0 σ0 A a w'→Rep C.cap σ2 s.res v d→Good C w0 σ0 (S2.setR dst (ur gs (.dat s.res))) (ρ.setR dst d) (fun u=>A u∨u=dst) (a.put (some dst) v) w':=by
  intro S2 σ2 jx h2 hr;cases gs with
  |nil=>exact⟨_,_,_,h2.setReg ht (s:=.dat s.res) hr af (fun _ _ e=>by cases e)⟩
  |cons g bP=>
   refine⟨_,_,_,h2.setReg ht (s:=.opt (g::bP) (.dat s.res)) ⟨fun _=>hr,fun e=>absurd (hh.symm.trans e) (by decide)⟩ af (fun gs s e=>?_)⟩;cases e;exact⟨eC,fun _ _ e=>by cases e⟩
 cases hp:s.res.pure with
 |true=>
  simp only[cond_true];exact put (h.world (.refl σ) (h.ok.below hb) hb (fun _ _ _ hx=>.inl hx) (fun _ _ hx=>.inl hx)) (j9.pure hp)
 |false=>
  simp only[cond_false];exact put (h1.world hle ax hb eD dv) j9
theorem Jm {o:Oper}{f:Nat}{args:Array Value}{K:Act→World→Prop}{Q:Exit→Act→World→Prop}(hd:o.dst=some dst)(hx:(execOp a.eval o).run C.P w=.ok (.enter f args) w)
 (h:Calls C.P f args w (fun e lL=>match e with|.returned v=>K (a.put (some dst) v) lL|.panicked chain=>Q (.panic chain) a lL|.outgrown=>LetsOut Q)):o.wp C.P a w K Q:=by
 simp only[Oper.wp,hx,Oper.upon,hd];refine h.mono fun e lL hh=>?_;cases e<;>exact hh
theorem anS (h:Inv C S ρ σ own hv w0 σ0 A a w)(hC:CtxOK C σ0)(aZ:dL C)(hΦ:dt C Φ)(ht:¬A dst)(af:dst<a.tmps.size)(eC:∀g,g∈gs→A g.1)(hg:holds gs ρ=true){f:Nat}{args:Array Operand}{ts:Array TypeId}{r:St×Sh×List PI}
 (hr:BI C S gs dst f args.toList=some r) {o:Oper} (hd:o.dst=some dst) (ho:o.op=.call {callee:=.value (.func f),args:=args,argTypes:=ts}):bZ C w0 σ0 Φ S ρ A a w o (r.1.setR dst (ur gs r.2.1),r.2.2):=by
 simp only[BI,aA] at hr;obtain⟨s,⟨s0,hs,L9⟩,hr⟩:=hr;split at hr
 case h_2=>cases hr
 rename_i nX;simp only[aA] at hr;obtain⟨u,hu,hr⟩:=hr;cases cM:Ty.subs u.1 s.args<;>simp only[cM,cond_true,cond_false] at hr
 ·cases hr
 cases hr;intro ρ' ao K Q hK;simp only[PI.runs,PI.run,hg,cond_true,aA,aC] at ao;obtain⟨ρ1,⟨d,bB,rfl⟩,ao⟩:=ao;cases ao;have hfn:=ana L9 nX (hΦ f _ d bB s0 hs).1;refine Jm hd (OC aZ hs ho) ?_;have mL:args.map a.eval=(args.toList.map a.eval).toArray:=by apply DJ;rw[Ac]
 rw[mL];have lf:(fun u=>A u∨o.dst=some u)=(fun u=>A u∨u=dst):=by funext u;rw[hd];simp[eq_comm]
 rw[lf] at hK;exact abM h hC ht af eC hg (js:=ef S gs args.toList) nX hfn (fun σ1 eh _ h1=>IE h1 hC hg hu cM) hK
theorem anJ (h:Inv C S ρ σ own hv w0 σ0 A a w)(hC:CtxOK C σ0)(aZ:dL C)(hΦ:dt C Φ)(ht:¬A dst)(af:dst<a.tmps.size)(eC:∀g,g∈gs→A g.1)(hg:holds gs ρ=true){x:Operand}{args:Array Operand}{ts:Array TypeId}{r:St×Sh×List PI}
 (hr:yd C S gs dst x args.toList=some r) {o:Oper} (hd:o.dst=some dst) (ho:o.op=.call {callee:=.value x,args:=args,argTypes:=ts}):bZ C w0 σ0 Φ S ρ A a w o (r.1.setR dst (ur gs r.2.1),r.2.2):=by
 unfold yd at hr;split at hr
 case h_2=>cases hr
 rename_i aa r0 e hu0;split at hr
 case h_1=>cases hr
 rename_i Su;simp only[aA] at hr;obtain⟨u,hu,hr⟩:=hr;cases cM:Ty.subs u.1 aa<;>simp only[cM,cond_true,cond_false] at hr
 ·cases hr
 cases hr;have hx:=cw h hC hg hu0;intro ρ' ao K Q hK;simp only[PI.runs,PI.run,hg,cond_true,aA] at ao;obtain⟨ρ1,sN,ao⟩:=ao;cases ao;split at sN
 case h_2=>cases sN
 rename_i f caps bN;simp only[aC] at sN;obtain⟨d,bB,rfl⟩:=sN;rw[bN] at hx;generalize gf:a.eval x=xv at hx;generalize br:Ty.fn aa r0=ty at hx;cases hx with
 |fn f cs vs ds hc h1 h2 aO=>
  cases br;have hs:=aZ.1 f cs hc Su;have hfn:=(hΦ f _ d bB _ hs).1 rfl;refine Jm hd (ax9 aZ hs gf ho) ?_;have mL:args.map a.eval++vs.toArray=(args.toList.map a.eval++vs).toArray:=by apply DJ;simp
  rw[mL];have lf:(fun u=>A u∨o.dst=some u)=(fun u=>A u∨u=dst):=by funext u;rw[hd];simp[eq_comm]
  rw[lf] at hK;refine abM h hC ht af eC hg (js:=ef S gs args.toList) (s:=⟨cs.args++cs.caps,cs.res,.dat⟩) rfl hfn (fun σ1 eh mG i1=>?_) hK;obtain⟨g1,g2,g3⟩:=IE i1 hC hg hu cM;refine⟨by simp only[mm,g1,h1],by simp only[mm,g2,h2],fun i t hi=>?_⟩;rw[ml] at hi;split at hi
  ·rename_i af;have:=g3 i t hi;rw[aI,aI,oJ (by omega),oJ (by omega)];simpa [aI] using this
  ·rename_i fN;have:=(aO _ t hi).mono mG;rw[aI,aI,oK (by omega),oK (by omega),g1,g2];simpa [aI] using this
theorem anO (h:Inv C S ρ σ own hv w0 σ0 A a w)(hC:CtxOK C σ0)(aZ:dL C)(hΦ:dt C Φ)(ht:¬A dst)(af:dst<a.tmps.size){f:Nat}{args:Array Operand}{ts:Array TypeId}{r:St×List PI}
 (hr:ER C S dst f args.toList=some r) {o:Oper} (hd:o.dst=some dst) (ho:o.op=.call {callee:=.value (.func f),args:=args,argTypes:=ts}):bZ C w0 σ0 Φ S ρ A a w o r:=by
 simp only[ER,aA] at hr;obtain⟨s,hs,hr⟩:=hr;split at hr
 case h_2=>cases hr
 rename_i T e nX;simp only[aA] at hr;obtain⟨u,hu,hr⟩:=hr;cases cM:Ty.subs u.1 s.args<;>simp only[cM,cond_true,cond_false] at hr
 ·cases hr
 cases hr;intro ρ' ao K Q hK;have Ss:holds ([]:List (Nat×Bool)) ρ=true:=rfl;simp only[PI.runs,PI.run,Ss,cond_true,aA,aC] at ao;obtain⟨ρ1,⟨d,bB,rfl⟩,ρ2,g2,ρ3,g3,g4⟩:=ao;cases g2;cases g3;cases g4;have hfn:=(hΦ f _ d bB s hs).1 (by rw[nX];rfl);obtain⟨σ1,eh,mG,h1⟩:=Inv.fzs (ef S [] args.toList) h;have mL:args.map a.eval=(args.toList.map a.eval).toArray:=by apply DJ;rw[Ac]
 refine Jm hd (OC aZ hs ho) ?_;rw[mL];have dq:=hfn σ1 w (args.toList.map a.eval).toArray h1.ok (hC.mono h1.le) (by simpa using IE h1 hC rfl hu cM);refine dq.mono fun e' w' hh=>?_;obtain⟨v,σ',rfl,hle,ax,hb,eD,dv,j9⟩:=hh;simp only[nu,nX] at j9;obtain⟨cells,xs,rfl,bC,du,nU⟩:=j9;refine hK _ _ ?_ (size_put _ _ _);have lf:(fun u=>A u∨o.dst=some u)=(fun u=>A u∨u=dst):=by funext u;rw[hd];simp[eq_comm]
 rw[lf];have main:∀{S2:St} {σ1 σ2:Im} {jx:Nat→Option Nat},Inv C S2 ρ σ1 jx hv w0 σ0 A a w→σ1.le σ2→σ2.ok w'→(∀k o x,σ2.c k o=some x→σ1.c k o=some x∨w.heap.size≤k)→(∀k x,σ2.m k=some x→σ1.m k=some x∨w.heap.size≤k)→dy C.cap σ2 e cells xs→(∀k,v.ownBlock=some k→(∀o,σ2.c k o=none)∧σ2.m k=none)→
  Good C w0 σ0 (mkObj S2 dst (.row T e)) ((ρ.setO dst (.list xs)).setR dst .none) (fun u=>A u∨u=dst) (a.put (some dst) v) w':=by
  intro S2 σ1 σ2 jx h2 jq ase ar2 ar6 aq5 arc;have aP:=h1.below.size
  have lU:=h2.newOσ dst (.row T e) (.list xs) v (fun k=>decide (v.ownBlock=some k)) jq ase ar2 ar6 hb (fun k hk=>bC.lt k (by simpa using hk)) (fun k hk=>arc k (by simpa using hk)) ⟨cells,xs,by simp[Env.setO,aS],by
        rw[aS];refine⟨bC.1,?_⟩;rcases bC.2 with e1|⟨g,cap,cur,e1,e2,e3⟩
        ·exact .inl e1
        ·exact .inr ⟨g,cap,cur,e1,by omega,e3⟩,aq5,fun k hk=>by rw[aS] at hk;simp[fH,hk]⟩
  have aer:=lU.setObj ht (j:=dst) (v:=v) (aS _ _ _) af;have e:(S2.newO dst (.row T e)).ver dst=S2.ver dst+1:=aS _ _ _;rw[e] at aer;exact⟨_,_,_,aer⟩
 have eρ:((ρ.setR dst (.list xs)).setO dst ((PE.r dst).ev (ρ.setR dst (.list xs)))).setR dst ((PE.con D.none).ev ((ρ.setR dst (.list xs)).setO dst ((PE.r dst).ev (ρ.setR dst (.list xs)))))=(ρ.setO dst (.list xs)).setR dst .none:=by
  have:∀d1 d2:D,cd (cd ρ.r dst d1) dst d2=cd ρ.r dst d2:=by
   intro d1 d2;funext i;simp only[fJ];split<;>rfl
  simp[Env.setR,Env.setO,PE.ev,aS,this]
 show Good C w0 σ0 _ _ _ _ _;rw[eρ];cases hp:e.pure with
 |true=>
  simp only[cond_true];refine main h (.refl σ) (h.ok.below hb) (fun _ _ _ hx=>.inl hx) (fun _ _ hx=>.inl hx) ?_ (fun k hk=>?_)
  ·obtain⟨vs,k1,k2⟩:=du;exact⟨vs,fun i x hx=>(k1 i x hx).pure hp,k2⟩
  ·obtain⟨f1,f2⟩:=nU k hk;refine⟨fun o=>?_,?_⟩
   ·cases hc:σ.c k o with
    |none=>rfl
    |some x=>have:=hle.c _ _ _ (mG.c _ _ _ hc);rw[f1 o] at this;cases this
   ·cases hc:σ.m k with
    |none=>rfl
    |some x=>have:=hle.m _ _ (mG.m _ _ hc);rw[f2] at this;cases this
 |false=>
  simp only[cond_false];exact main h1 hle ax eD dv du nU
theorem anQ (h:Inv C S ρ σ own hv w0 σ0 A a w)(hC:CtxOK C σ0)(aZ:dL C)(hΦ:dt C Φ)(ht:¬A dst)(af:dst<a.tmps.size){f:Nat}{args:Array Operand}{ts:Array TypeId}{r:St×List PI}
 (hr:Rr C S dst f args.toList=some r) {o:Oper} (hd:o.dst=some dst) (ho:o.op=.call {callee:=.value (.func f),args:=args,argTypes:=ts}):bZ C w0 σ0 Φ S ρ A a w o r:=by cases hr
theorem anL (h:Inv C S ρ σ own hv w0 σ0 A a w)(hC:CtxOK C σ0)(aZ:dL C)(hΦ:dt C Φ)(ht:¬A dst)(af:dst<a.tmps.size){f:Nat}{args:Array Operand}{ts:Array TypeId}{r:St×List PI}
 (hr:EP C S dst f args.toList=some r) {o:Oper} (hd:o.dst=some dst) (ho:o.op=.call {callee:=.value (.func f),args:=args,argTypes:=ts}):bZ C w0 σ0 Φ S ρ A a w o r:=by
 simp only[EP,aA] at hr;obtain⟨s,hs,hr⟩:=hr;split at hr
 case h_2=>cases hr
 rename_i shs obs x xs nX jm;split at hr
 case h_2=>cases hr
 rename_i m j ver sG oa;split at hr
 case h_2=>cases hr
 rename_i T e eo;cases hb:(Nat.beq ver (S.ver j)&&(Nat.beq T m.1&&Ty.beq e m.2.1))<;>simp only[hb,cond_true,cond_false] at hr
 ·cases hr
 simp only[aw] at hb;have ed:=aD hb.1;have hT:=aD hb.2.1;have he:=Ty.beq_eq _ _ hb.2.2;simp only[aA] at hr;obtain⟨u,hu,hr⟩:=hr;cases cM:Ty.subs u.1 m.2.2<;>simp only[cM,cond_true,cond_false] at hr
 ·cases hr
 cases hr;intro ρ' ao K Q hK;have Ss:holds ([]:List (Nat×Bool)) ρ=true:=rfl;simp only[PI.runs,PI.run,Ss,cond_true,aA,aC] at ao;obtain⟨ρ1,⟨d,bB,rfl⟩,ρ2,g2,ρ3,g3,g4⟩:=ao;cases g2;cases g3;cases g4;have hfn:=(hΦ f _ d bB s hs).2 shs obs nX;unfold eJ at hfn;rw[sG] at hfn;simp only at hfn;rw[←hT,←he] at hfn;have cT:=(uZ h (gs:=[]) rfl x).1;rw[oa] at cT;have cT:=cT.2 ed;have bt:=h.objs j;rw[eo] at bt;obtain⟨cells,ys,h1,h2,h3,h4⟩:=bt;have mL:args.map a.eval=(a.eval x::xs.map a.eval).toArray:=by apply DJ;rw[Ac,jm];rfl
 refine Jm hd (OC aZ hs ho) ?_;rw[mL,cT];have aP:=h.below.size
 have dq:=hfn w0.heap.size σ w (hv j) (xs.map a.eval) ys cells (PE.evs ρ u.2) (by simp[PE.evs,PE.ev,h1]) h.ok (hC.mono h.le) aP h2 h3 (fun k hk=>by
  have:=h.owns k j (h4 k hk);exact this.2) (IE h hC rfl hu cM)
 refine dq.mono fun e' w' hh=>?_;obtain⟨v',fw,dp,rfl,rfl,Fp,uE,asn,aq4,hblk⟩:=hh;refine hK _ _ ?_ (size_put _ _ _);have lf:(fun u=>A u∨o.dst=some u)=(fun u=>A u∨u=dst):=by funext u;rw[hd];simp[eq_comm]
 rw[lf]
 have Tx:=h.updO j (.row T e) (.list fw) v' (fun k=>decide (v'.ownBlock=some k)) Fp (fun k hk ay=>uE k hk (fun e=>ay (h4 k e))) (fun k hk=>by
  have bp:v'.ownBlock=some k:=by simpa using hk
  exact⟨(hblk k bp).1.imp (h4 k) id,(hblk k bp).2⟩)
  ⟨dp,fw,by simp[Env.setO,aS],by rw[aS];exact asn,aq4,fun k hk=>by rw[aS] at hk;simp[fH,hk]⟩
 have h9:=Tx.setObj ht (j:=j) (v:=v') (aS _ _ _) af;have e1:(S.newO j (.row T e)).ver j=S.ver j+1:=aS _ _ _;rw[e1] at h9;have eρ:((ρ.setR dst (.list fw)).setO j ((PE.r dst).ev (ρ.setR dst (.list fw)))).setR dst ((PE.con D.none).ev ((ρ.setR dst (.list fw)).setO j ((PE.r dst).ev (ρ.setR dst (.list fw)))))=(ρ.setO j (.list fw)).setR dst .none:=by
  have:∀d1 d2:D,cd (cd ρ.r dst d1) dst d2=cd ρ.r dst d2:=by
   intro d1 d2;funext i;simp only[fJ];split<;>rfl
  simp[Env.setR,Env.setO,PE.ev,aS,this]
 show Good C w0 σ0 _ _ _ _ _;rw[eρ];exact⟨_,_,_,h9⟩
end
def ja:Nat:=1000000013
abbrev oH:=Sh×Option (Ty×PE)
def Jb (C:Ctx)(S:St)(x:Operand):oH:=(gD S [] x,use C S [] x)
def abO (c:Nat×Nat):oH:=(.ptr c.1 c.2 0,none)
def cN:List Nat→List Nat→Nat→Option Nat
 |i::is,j::js,k=>bif Nat.beq i k then some j else cN is js k
 |_,_,_=>none
def awq:Sh→Sh→List (Nat×Nat)
 |.obj i _,.obj j _=>[(i,j)]
 |.ptr i _ _,.ptr j _ _=>[(i,j)]
 |.fclo _ a,.fclo _ b=>(a.zip b).map fun x=>(x.1.1,x.2.1)
 |_,_=>[]
def Vm:List Sh→List Sh→List (Nat×Nat)
 |a::aa,b::bs=>awq a b++Vm aa bs
 |_,_=>[]
def awp:Ob→Ob→List (Nat×Nat)
 |.box _ a,.box _ b=>Vm a b
 |_,_=>[]
def afC:List (Nat×Nat)→Nat→Nat
 |[],_=>ja
 |x::l,i=>bif Nat.beq x.1 i then x.2 else afC l i
def avA (S:St)(obs:List (Nat×Ob))(p:List (Nat×Nat)):List (Nat×Nat):=p++p.flatMap fun x=>awp (kc obs x.1) (S.o x.2)
def acH (S:St)(shs:List Sh)(obs:List (Nat×Ob))(acts:List oH):List Nat:=obs.map fun o=>afC (avA S obs (Vm shs (acts.map (·.1)))) o.1
section
variable (ver:Nat→Nat) (is js:List Nat)
def If:List (Nat×Nat)→Option (List (Nat×Nat))
 |[]=>some []
 |x::l=>bif Nat.beq x.2 0 then(cN is js x.1).bind fun j=>(If l).map fun r=>(j,ver j)::r else none
def kQ:Sh→Option Sh
 |.dat t=>some (.dat t)
 |.none=>some .none
 |.obj i v=>bif Nat.beq v 0 then(cN is js i).map fun j=>.obj j (ver j) else none
 |.ptr i v off=>bif Nat.beq v 0 then(cN is js i).map fun j=>.ptr j (ver j) off else none
 |.fclo f caps=>(If ver is js caps).map (.fclo f)
 |_=>none
def Ig:List Sh→Option (List Sh)
 |[]=>some []
 |s::l=>(kQ ver is js s).bind fun a=>(Ig l).map (a::·)
def rF:Ob→Option Ob
 |.row T e=>some (.row T e)
 |.mp a b=>some (.mp a b)
 |.box ag shs=>(Ig ver is js shs).map (.box ag)
 |_=>none
end
def E6 (c:Sh):Sh→Bool
 |.none=>true
 |.dat b=>match c with|.dat a=>Ty.sub a b|_=>false
 |x=>Sh.beq c x
def BQ:List Sh→List Sh→Bool
 |[],[]=>true
 |a::aa,b::bs=>E6 a b&&BQ aa bs
 |_,_=>false
def BP:Ob→Ob→Bool
 |.box x a,.box y b=>(x==y)&&BQ a b
 |.row T a,.row U b=>Nat.beq T U&&Ty.beq a b
 |.mp a b,.mp c d=>Ty.beq a c&&Ty.beq b d
 |_,_=>false
def sn (S:St)(is js:List Nat):List (Nat×Ob)→List Nat→Bool
 |[],[]=>true
 |o::obs,j::jl=>(match rF S.ver is js o.2 with|some x=>BP (S.o j) x|none=>false)&&sn S is js obs jl
 |_,_=>false
def E5 (S:St)(is js:List Nat)(a:oH)(s:Sh):Option PE:=
 match s with
 |.dat t=>(match a.2 with|some x=>bif Ty.sub x.1 t then some x.2 else none|none=>none)
 |.none=>some (.con .none)
 |s=>(match kQ S.ver is js s with|some x=>bif Sh.beq a.1 x then some (.con .none) else none|none=>none)
def vw (S:St)(is js:List Nat):List oH→List Sh→Option (List PE)
 |[],[]=>some []
 |a::aa,s::ss=>(E5 S is js a s).bind fun e=>(vw S is js aa ss).map (e::·)
 |_,_=>none
def qB:List Sh→List Nat
 |[]=>[]
 |.obj i _::l=>i::qB l
 |.ptr i _ _::l=>i::qB l
 |.fclo _ c::l=>c.map (·.1)++qB l
 |_::l=>qB l
def aE (l:List Nat)(x:Nat):Bool:=l.any (Nat.beq x)
def xb (ver:Nat→Nat)(shs:List Sh)(is js:List Nat):Nat→Nat:=fun j=>match cN js is j with|some i=>bif aE (qB shs) i then ver j else ver j+1|none=>ver j
def St.handed (S:St)(shs:List Sh)(obs:List (Nat×Ob))(is js:List Nat):St:=
 ⟨S.r,fun j=>match cN js is j with|some i=>(match rF (xb S.ver shs is js) is js (kc obs i) with|some o=>o|none=>.dead)|none=>S.o j,xb S.ver shs is js⟩
def BS (S:St):List Operand→List Sh→List Nat
 |x::xs,s::ss=>(bif y4 s then ef S [] [x] else[])++BS S xs ss
 |_,_=>[]
def Io:List Nat→Nat→List PI
 |[],_=>[]
 |j::js,k=>.setO j (.tget (.o ja) k)::Io js (k+1)
def Rp (S:St)(res:Ty)(f:Nat)(shs:List Sh)(obs:List (Nat×Ob))(acts:List oH)(is js:List Nat):Option (St×Ty×List PI):=
 (vw S is js acts shs).bind fun es=>
    bif zk shs obs&&(kf is&&kf js&&sn S is js obs js&&py (S.o ja)&& !aE js ja) then some (S.handed shs obs is js,res,.mcall ja f (es++js.map .o)::Io js 1) else none
def Rq (C:Ctx)(S:St)(res:Ty)(f:Nat)(shs:List Sh)(obs:List (Nat×Ob))(acts:List oH):Option (St×Ty×List PI):=
 Rp S res f shs obs acts (obs.map (·.1)) (acH S shs obs acts)
def vp (C:Ctx)(S:St)(f:Nat)(args:List Operand)(caps:List (Nat×Nat)):Option (St×Ty×List PI):=
 (C.sig f).bind fun s=>
    match s.mode with
    |.ob shs obs=>Rq C (S.fzs (BS S args shs)) s.res f shs obs (args.map (Jb C (S.fzs (BS S args shs)))++caps.map abO)
    |_=>none
theorem aeV {l:List Nat}{x:Nat}:aE l x=true↔x∈l:=by
 unfold aE;rw[xu];exact⟨fun⟨y,hy,h⟩=>by rw[aD h];exact hy,fun h=>⟨x,h,lP x⟩⟩
theorem afy:∀{is js:List Nat} {i j:Nat},cN is js i=some j→∃k:Nat,is[k]?=some i∧js[k]?=some j
 |[],_,i,j,h=>by cases h
 |_::_,[],i,j,h=>by cases h
 |x::is,y::js,i,j,h=>by
  simp only[cN] at h;cases hb:Nat.beq x i<;>simp only[hb,cond_true,cond_false] at h
  ·obtain⟨k,h1,h2⟩:=afy h;exact⟨k+1,h1,h2⟩
  ·cases h;exact⟨0,by rw[aD hb];rfl,rfl⟩
theorem Mt:∀{is js:List Nat} {i j k:Nat},is.Nodup→is[k]?=some i→js[k]?=some j→cN is js i=some j
 |[],_,i,j,k,_,h,_=>by simp at h
 |_::_,[],i,j,k,_,_,h=>by simp at h
 |x::is,y::js,i,j,k,hn,h1,h2=>by
  simp only[cN];cases k with
  |zero=>simp at h1 h2;subst h1 h2;rw[lP];rfl
  |succ k=>
   simp at h1 h2;have ay:x≠i:=fun e=>by subst e;exact(qk.1 hn).1 (ko h1)
   rw[ga ay];exact Mt (qk.1 hn).2 h1 h2
theorem Mu {is js:List Nat}(h2:js.Nodup){i j:Nat}(h:cN is js i=some j):cN js is j=some i:=by
 obtain⟨k,g1,g2⟩:=afy h;exact Mt h2 g2 g1
theorem atW (obs:List (Nat×Ob))(f:Nat→D):∀{is js:List Nat} {i j:Nat},is=obs.map (·.1)→cN is js i=some j→wq obs (js.map f) i=f j:=by
 induction obs with
 |nil=>intro is js i j h1 h2;subst h1;cases h2
 |cons x l ih=>
  intro is js i j h1 h2;subst h1;cases js with
  |nil=>cases h2
  |cons y js=>
   simp only[jc,cN] at h2;simp only[jc,wq];cases hb:Nat.beq x.1 i<;>simp only[hb,cond_true,cond_false] at h2 ⊢
   ·exact ih rfl h2
   ·cases h2;rfl
theorem afs:∀{obs:List (Nat×Ob)} {js:List Nat} {os:List D} {i j:Nat},os.length=obs.length→cN (obs.map (·.1)) js i=some j→∃k:Nat,js[k]?=some j∧wq obs os i=os.getD k .none
 |[],_,_,i,j,_,h=>by cases h
 |_::_,[],_,i,j,_,h=>by cases h
 |_::_,_::_,[],i,j,hl,h=>by simp at hl
 |x::obs,y::js,o::os,i,j,hl,h=>by
  simp only[jc,cN] at h;simp only[wq];cases hb:Nat.beq x.1 i<;>simp only[hb,cond_true,cond_false] at h ⊢
  ·obtain⟨k,h1,h2⟩:=afs (obs:=obs) (js:=js) (os:=os) (by simpa using hl) h;exact⟨k+1,h1,by simpa using h2⟩
  ·cases h;exact⟨0,rfl,rfl⟩
theorem afA:∀{obs:List (Nat×Ob)} {js:List Nat} {i:Nat},js.length=obs.length→cN (obs.map (·.1)) js i=none→kc obs i=.dead
 |[],_,i,_,_=>rfl
 |x::obs,[],i,hl,h=>by simp at hl
 |x::obs,y::js,i,hl,h=>by
  simp only[jc,cN] at h;simp only[kc];cases hb:Nat.beq x.1 i<;>simp only[hb,cond_true,cond_false] at h ⊢
  ·exact afA (by simpa using hl) h
  ·cases h
theorem acM {S:St}{is js:List Nat}:∀{obs:List (Nat×Ob)} {jl:List Nat},sn S is js obs jl=true→jl.length=obs.length
 |[],[],_=>rfl
 |[],_::_,h=>by simp[sn] at h
 |_::_,[],h=>by simp[sn] at h
 |o::obs,j::jl,h=>by simp only[sn,aw] at h;simp[acM h.2]
theorem acL {S:St}{is js:List Nat}:∀{obs:List (Nat×Ob)} {jl:List Nat},sn S is js obs jl=true→∀{i j:Nat},cN (obs.map (·.1)) jl i=some j→∃x,rF S.ver is js (kc obs i)=some x∧BP (S.o j) x=true
 |[],_,_,i,j,h=>by cases h
 |_::_,[],_,i,j,h=>by cases h
 |o::obs,y::jl,hf,i,j,h=>by
  simp only[sn,aw] at hf;simp only[jc,cN] at h;simp only[kc];cases hb:Nat.beq o.1 i<;>simp only[hb,cond_true,cond_false] at h ⊢
  ·exact acL hf.2 h
  ·cases h;have h1:=hf.1;split at h1
   ·rename_i x hx;exact⟨x,hx,h1⟩
   ·cases h1
theorem acN:∀{a b:List Sh},BQ a b=true→a.length=b.length∧∀(i:Nat) (y:Sh),b[i]?=some y→∃x,a[i]?=some x∧E6 x y=true
 |[],[],_=>⟨rfl,fun i y h=>by simp at h⟩
 |[],_::_,h=>by simp[BQ] at h
 |_::_,[],h=>by simp[BQ] at h
 |a::aa,b::bs,h=>by
  simp only[BQ,aw] at h;obtain⟨g1,g2⟩:=acN h.2;refine⟨by simp[g1],fun i y hy=>?_⟩;cases i with
  |zero=>simp at hy;subst hy;exact⟨a,rfl,h.1⟩
  |succ i=>simp at hy;simpa using g2 i y hy
theorem W3 {ver:Nat→Nat}{is js:List Nat}:∀{a b:List Sh},Ig ver is js a=some b→b.length=a.length∧∀(i:Nat) (x:Sh),a[i]?=some x→∃y,b[i]?=some y∧kQ ver is js x=some y
 |[],b,h=>by simp only[Ig,bj] at h;subst h;exact⟨rfl,fun i x h=>by simp at h⟩
 |s::l,b,h=>by
  simp only[Ig,aA,aC] at h;obtain⟨y,hy,r,hr,rfl⟩:=h;obtain⟨g1,g2⟩:=W3 hr;refine⟨by simp[g1],fun i x hx=>?_⟩;cases i with
  |zero=>simp at hx;subst hx;exact⟨y,rfl,hy⟩
  |succ i=>simp at hx;simpa using g2 i x hx
theorem Ow {ver:Nat→Nat}{is js:List Nat}:∀{a b:List (Nat×Nat)},If ver is js a=some b→b.length=a.length∧∀(i x v:Nat),a[i]?=some (x,v)→∃j,b[i]?=some (j,ver j)∧cN is js x=some j∧v=0
 |[],b,h=>by simp only[If,bj] at h;subst h;exact⟨rfl,fun i x v h=>by simp at h⟩
 |s::l,b,h=>by
  simp only[If] at h;cases hb:Nat.beq s.2 0<;>simp only[hb,cond_true,cond_false] at h
  ·cases h
  simp only[aA,aC] at h;obtain⟨y,hy,r,hr,rfl⟩:=h;obtain⟨g1,g2⟩:=Ow hr;refine⟨by simp[g1],fun i x v hx=>?_⟩;cases i with
  |zero=>simp at hx;subst hx;exact⟨y,rfl,hy,aD hb⟩
  |succ i=>simp at hx;simpa using g2 i x v hx
theorem W0 {ver:Nat→Nat}{is js:List Nat}{s x:Sh}(h:kQ ver is js s=some x):(∀gs s',s≠.opt gs s')∧∀gs s',x≠.opt gs s':=by
 cases s<;>simp only[kQ] at h
 case none=>cases h;exact⟨(fun _ _ e=>by cases e),(fun _ _ e=>by cases e)⟩
 case dat=>cases h;exact⟨(fun _ _ e=>by cases e),(fun _ _ e=>by cases e)⟩
 case obj i v=>
  cases hb:Nat.beq v 0<;>simp only[hb,cond_true,cond_false] at h
  ·cases h
  simp only[aC] at h;obtain⟨j,_,rfl⟩:=h;exact⟨(fun _ _ e=>by cases e),(fun _ _ e=>by cases e)⟩
 case ptr i v off=>
  cases hb:Nat.beq v 0<;>simp only[hb,cond_true,cond_false] at h
  ·cases h
  simp only[aC] at h;obtain⟨j,_,rfl⟩:=h;exact⟨(fun _ _ e=>by cases e),(fun _ _ e=>by cases e)⟩
 case fclo f caps=>
  simp only[aC] at h;obtain⟨j,_,rfl⟩:=h;exact⟨(fun _ _ e=>by cases e),(fun _ _ e=>by cases e)⟩
 all_goals cases h
section
variable {C:Ctx} {S S1:St} {ρ ρ1:Env} {σ σ1:Im} {own eh:Nat→Option Nat} {hv aL:Nat→Value} {w0:World} {σ0:Base} {A:Nat→Prop} {a:Act} {w w1:World} {Φ:aW} {dst:Nat}
 {is js:List Nat} {shs:List Sh} {obs:List (Nat×Ob)} {ρf:Env}
theorem ajB (hσ:Im.leR C.cap σ σ1){eU:Nat→Value}(fP:∀i j,cN is js i=some j→eU i=hv j){s x:Sh}(hr:kQ S.ver is js s=some x){v:Value}{d:D}(h:aJ C S ρ σ hv x v d):aJ C (kg shs obs) ρf σ1 eU s v d:=by
 cases s<;>simp only[kQ] at hr
 case none=>trivial
 case dat=>cases hr;exact hσ.rep h
 case obj i ver=>
  cases hb:Nat.beq ver 0<;>simp only[hb,cond_true,cond_false] at hr
  ·cases hr
  simp only[aC] at hr;obtain⟨j,hj,rfl⟩:=hr;exact⟨by rw[aD hb];exact kU _,fun _=>by rw[fP i j hj];exact h.2 rfl⟩
 case ptr i ver off=>
  cases hb:Nat.beq ver 0<;>simp only[hb,cond_true,cond_false] at hr
  ·cases hr
  simp only[aC] at hr;obtain⟨j,hj,rfl⟩:=hr;exact⟨by rw[aD hb];exact kU _,fun _=>by rw[fP i j hj];exact h.2 rfl⟩
 case fclo f caps=>
  simp only[aC] at hr;obtain⟨c,hc,rfl⟩:=hr;obtain⟨g1,g2⟩:=Ow hc;obtain⟨vs,h1,h2,h3⟩:=h;refine⟨vs,h1,by omega,fun i x ver hi=>?_⟩;obtain⟨j,e1,e2,e3⟩:=g2 i x ver hi;exact⟨by rw[e3];exact kU _,fun _=>by rw[fP x j e2];exact(h3 i j _ e1).2 rfl⟩
 all_goals cases hr
theorem axS (hσ:σ.le σ1){eU:Nat→Value}(fP:∀i j,cN is js i=some j→eU i=aL j){s x:Sh}(hr:kQ S1.ver is js s=some x){v:Value}{d:D}(h:aJ C (kg shs obs) ρf σ eU s v d):aJ C S1 ρ1 σ1 aL x v d:=by
 cases s<;>simp only[kQ] at hr
 case none=>cases hr;trivial
 case dat=>cases hr;exact Rep.mono hσ h
 case obj i ver=>
  cases hb:Nat.beq ver 0<;>simp only[hb,cond_true,cond_false] at hr
  ·cases hr
  simp only[aC] at hr;obtain⟨j,hj,rfl⟩:=hr;exact⟨bn _,fun _=>by rw[←fP i j hj];exact h.2 (aD hb)⟩
 case ptr i ver off=>
  cases hb:Nat.beq ver 0<;>simp only[hb,cond_true,cond_false] at hr
  ·cases hr
  simp only[aC] at hr;obtain⟨j,hj,rfl⟩:=hr;exact⟨bn _,fun _=>by rw[←fP i j hj];exact h.2 (aD hb)⟩
 case fclo f caps=>
  simp only[aC] at hr;obtain⟨c,hc,rfl⟩:=hr;obtain⟨g1,g2⟩:=Ow hc;obtain⟨vs,h1,h2,h3⟩:=h;refine⟨vs,h1,by omega,fun i j ver hi=>?_⟩;have af:i<caps.length:=by have:=(fe.1 hi).1;omega
  obtain⟨j',e1,e2,e3⟩:=g2 i _ _ (aX af);rw[hi] at e1;cases e1;exact⟨bn _,fun _=>by rw[←fP _ j e2];exact(h3 i _ _ (aX af)).2 e3⟩
 all_goals cases hr
theorem aoK {c x:Sh}(hf:E6 c x=true){v:Value}{d:D}(h:aJ C S ρ σ hv c v d):aJ C S ρ σ hv x v d:=by
 cases x with
 |none=>trivial
 |dat b=>
  simp only[E6] at hf;split at hf
  ·exact Rep.sub h hf
  ·cases hf
 |_=>simp only[E6] at hf;rw[Sh.beq_eq _ _ hf] at h;exact h
theorem avM (hσ:Im.leR C.cap σ σ1){eU:Nat→Value}{GH:Nat→Option Nat}(fP:∀i j,cN is js i=some j→eU i=hv j)(bC:∀k j i,own k=some j→cN js is j=some i→GH k=some i)(bx:js.Nodup){i j N:Nat}(dH:cN is js i=some j)(hρ:ρf.o i=ρ.o j){ob x:Ob}
 (hr:rF S.ver is js ob=some x) (hf:BP (S.o j) x=true) (h:cA C S ρ σ own hv w N j (S.o j)):cA C (kg shs obs) ρf σ1 GH eU w N i ob:=by
 have j5:=Mu bx dH;cases ob<;>simp only[rF] at hr
 case row T e=>
  cases hr;cases ho:S.o j<;>rw[ho] at hf h<;>simp only[BP,aw] at hf<;>try (cases hf;done)
  obtain⟨cells,xs,h1,h2,h3,h4⟩:=h;rw[aD hf.1,Ty.beq_eq _ _ hf.2] at*;exact⟨cells,xs,by rw[hρ];exact h1,by rw[fP i j dH];exact h2,h3.monoR hσ,fun k hk=>bC k j i (h4 k (by rw[←fP i j dH];exact hk)) j5⟩
 case mp kt et=>
  cases hr;cases ho:S.o j<;>rw[ho] at hf h<;>simp only[BP,aw] at hf<;>try (cases hf;done)
  obtain⟨k,arr,clock,es,h1,h2,h3,h4,h5,h6,h7⟩:=h;rw[Ty.beq_eq _ _ hf.1,Ty.beq_eq _ _ hf.2] at*;exact⟨k,arr,clock,es,by rw[fP i j dH];exact h1,bC k j i h2 j5,h3,by rw[hρ];exact h4,h5,h6,fun n e p he hp=>⟨hσ.rep (h7 n e p he hp).1,hσ.rep (h7 n e p he hp).2⟩⟩
 case box ag cs=>
  simp only[aC] at hr;obtain⟨Rh,cK,rfl⟩:=hr;cases ho:S.o j<;>rw[ho] at hf h<;>simp only[BP,aw] at hf<;>try (cases hf;done)
  obtain⟨k,vs,T,ds,h1,h2,h3,h4,h5,h6,h7⟩:=h;obtain⟨l1,g1⟩:=acN hf.2;obtain⟨l2,g2⟩:=W3 cK;refine⟨k,vs,T,ds,by rw[fP i j dH];exact h1,bC k j i h2 j5,h3,by omega,by rw[hρ];exact h5,by omega,fun n s hs=>?_⟩;obtain⟨y,hy,F4⟩:=g2 n s hs;obtain⟨z,hz,Ca⟩:=g1 n y hy;exact⟨(W0 F4).1,ajB hσ fP F4 (aoK Ca (h7 n z hz).2)⟩
 all_goals cases hr
theorem avN (hσ:σ.le σ1){eU:Nat→Value}{GH:Nat→Option Nat}(fP:∀i j,cN is js i=some j→eU i=aL j)(bC:∀k i j,GH k=some i→cN is js i=some j→eh k=some j){i j N:Nat}(dH:cN is js i=some j)(hρ:ρ1.o j=ρf.o i){ob x:Ob}
 (hr:rF S1.ver is js ob=some x) (h:cA C (kg shs obs) ρf σ GH eU w N i ob):cA C S1 ρ1 σ1 eh aL w N j x:=by
 cases ob<;>simp only[rF] at hr
 case row T e=>
  cases hr;obtain⟨cells,xs,h1,h2,h3,h4⟩:=h;exact⟨cells,xs,by rw[hρ];exact h1,by rw[←fP i j dH];exact h2,h3.mono hσ,fun k hk=>bC k i j (h4 k (by rw[fP i j dH];exact hk)) dH⟩
 case mp kt et=>
  cases hr;obtain⟨k,arr,clock,es,h1,h2,h3,h4,h5,h6,h7⟩:=h;exact⟨k,arr,clock,es,by rw[←fP i j dH];exact h1,bC k i j h2 dH,h3,by rw[hρ];exact h4,h5,h6,fun n e p he hp=>⟨(h7 n e p he hp).1.mono hσ,(h7 n e p he hp).2.mono hσ⟩⟩
 case box ag cs=>
  simp only[aC] at hr;obtain⟨Rh,cK,rfl⟩:=hr;obtain⟨k,vs,T,ds,h1,h2,h3,h4,h5,h6,h7⟩:=h;obtain⟨l2,g2⟩:=W3 cK;refine⟨k,vs,T,ds,by rw[←fP i j dH];exact h1,bC k i j h2 dH,h3,by omega,by rw[hρ];exact h5,by omega,fun n s hs=>?_⟩;have af:n<cs.length:=by have:=(fe.1 hs).1;omega
  obtain⟨y,hy,F4⟩:=g2 n _ (aX af);rw[hs] at hy;cases hy;exact⟨(W0 F4).2,axS hσ fP F4 (h7 n _ (aX af)).2⟩
 all_goals cases hr
theorem axR {ver:Nat→Nat}{ob x:Ob}(hr:rF ver is js ob=some x):x≠.tr:=by
 cases ob<;>simp only[rF] at hr
 case row=>cases hr;intro e;cases e
 case mp=>cases hr;intro e;cases e
 case box=>
  simp only[aC] at hr;obtain⟨_,_,rfl⟩:=hr;intro e;cases e
 all_goals cases hr
theorem CtxOK.noM (h:CtxOK C σ):CtxOK C σ.noM:=⟨fun g x hx=>(h.glob g x hx).noM,fun g x hx=>by
 have:=h.mg g x hx;have ay:σ.m g≠some cI:=fun e'=>by rw[this] at e';exact wN (tO e')
 simp only[Im.noM,if_neg ay,this]⟩
def IL (C:Ctx)(S:St)(ρ:Env)(σ:Im)(hv:Nat→Value)(x:oH)(v:Value)(d:D):Prop:=aJ C S ρ σ hv x.1 v d∧∀y,x.2=some y→Rep C.cap σ y.1 v (y.2.ev ρ)
theorem acK:∀{acts:List oH} {shs:List Sh} {es:List PE},vw S is js acts shs=some es→acts.length=shs.length∧es.length=shs.length∧∀(t:Nat) (s:Sh),shs[t]?=some s→∃x e,acts[t]?=some x∧es[t]?=some e∧E5 S is js x s=some e
 |[],[],es,h=>by simp only[vw,bj] at h;subst h;exact⟨rfl,rfl,fun t s h=>by simp at h⟩
 |[],_::_,es,h=>by simp[vw] at h
 |_::_,[],es,h=>by simp[vw] at h
 |x::acts,s::shs,es,h=>by
  simp only[vw,aA,aC] at h;obtain⟨e,he,r,hr,rfl⟩:=h;obtain⟨g1,g2,g3⟩:=acK hr;refine⟨by simp[g1],by simp[g2],fun t s' hs=>?_⟩;cases t with
  |zero=>simp at hs;subst hs;exact⟨x,e,rfl,rfl,he⟩
  |succ t=>simp at hs;simpa using g3 t s' hs
theorem aoI (hσ:Im.leR C.cap σ σ1){eU:Nat→Value}(fP:∀i j,cN is js i=some j→eU i=hv j){x:oH}{s:Sh}{e:PE}(hf:E5 S is js x s=some e){v:Value}{d:D}(h:IL C S ρ σ hv x v d):aJ C (kg shs obs) ρf σ1 eU s v (e.ev ρ):=by
 have gen:∀s,(match kQ S.ver is js s with|some y=>bif Sh.beq x.1 y then some (PE.con .none) else none|none=>none)=some e→y4 s=false→aJ C (kg shs obs) ρf σ1 eU s v (e.ev ρ):=by
  intro s hm hd;split at hm
  ·rename_i y hy;cases hb:Sh.beq x.1 y<;>simp only[hb,cond_true,cond_false] at hm
   ·cases hm
   have h1:=h.1;rw[Sh.beq_eq _ _ hb] at h1;have:=ajB (shs:=shs) (obs:=obs) (ρf:=ρf) hσ fP hy h1;cases s with
   |dat t=>cases hd
   |opt gs s'=>exact absurd rfl ((W0 hy).1 gs s')
   |eptr j ver size off=>simp[kQ] at hy
   |agg l=>simp[kQ] at hy
   |_=>exact this
  ·cases hm
 unfold E5 at hf;split at hf
 ·rename_i t;split at hf
  ·rename_i y hy;cases hb:Ty.sub y.1 t<;>simp only[hb,cond_true,cond_false] at hf
   ·cases hf
   cases hf;exact hσ.rep ((h.2 y hy).sub hb)
  ·cases hf
 ·trivial
 ·rename_i kC qV;refine gen _ hf ?_;cases s<;>first|rfl|exact absurd rfl (kC _)
theorem ans {eU TA:Nat→Value}{σ σ':Im}{ρf ρf':Env}{args:Nat→Value}{ds ds':Nat→D}(h1:∀(t:Nat) (s:Sh),shs[t]?=some s→aJ C (kg shs obs) ρf σ eU s (args t) (ds t))(h2:∀(t:Nat) (s:Sh),shs[t]?=some s→y4 s=false→aJ C (kg shs obs) ρf' σ' TA s (args t) (ds' t))
 (hz:∀s,s∈shs→∃x,kQ S.ver is js s=some x) {i:Nat} (hi:i∈qB shs):TA i=eU i:=by
 have key:∀(l:List Sh),(∀s,s∈l→∃t:Nat,shs[t]?=some s)→i∈qB l→TA i=eU i:=by
  intro l
  induction l with
  |nil=>intro _ h;cases h
  |cons s l ih=>
   intro hl hi;obtain⟨t,ht⟩:=hl s (fK ..);have sE:∀s,s∈l→∃t:Nat,shs[t]?=some s:=fun s hs=>hl s (fy _ hs);obtain⟨x,hx⟩:=hz s (ko ht);have a1:=h1 t s ht;have a2:=h2 t s ht;cases s<;>simp only[qB] at hi
   case obj j ver=>
        simp only[kQ] at hx;cases hb:Nat.beq ver 0<;>simp only[hb,cond_true,cond_false] at hx
        ·cases hx
        rcases cC.1 hi with e|e
        ·subst e;rw[←(a1.2 (aD hb)),←((a2 rfl).2 (aD hb))]
        ·exact ih sE e
   case ptr j ver off=>
        simp only[kQ] at hx;cases hb:Nat.beq ver 0<;>simp only[hb,cond_true,cond_false] at hx
        ·cases hx
        rcases cC.1 hi with e|e
        ·subst e;obtain⟨k1,e1,e2⟩:=a1.2 (aD hb);obtain⟨k2,e3,e4⟩:=(a2 rfl).2 (aD hb);rw[e2] at e4;cases e4;rw[e1,e3]
        ·exact ih sE e
   case fclo f caps=>
        simp only[kQ,aC] at hx;obtain⟨c,hc,_⟩:=hx;obtain⟨_,g2⟩:=Ow hc;rcases dN.1 hi with e|e
        ·obtain⟨y,hy,e1⟩:=cu.1 e;subst e1;obtain⟨m,hm⟩:=Ao hy;obtain⟨vs,b1,b2,b3⟩:=a1;obtain⟨zX,c1,c2,c3⟩:=a2 rfl;rw[b1] at c1;have iU:vs=zX:=by simpa using c1
         subst iU;obtain⟨_,_,_,Cw⟩:=g2 m y.1 y.2 hm;rw[←(b3 m y.1 y.2 hm).2 Cw,←(c3 m y.1 y.2 hm).2 Cw]
        ·exact ih sE e
   all_goals exact ih sE hi
 exact key shs (fun s hs=>Ao hs) hi
end
section
variable {C:Ctx} {S:St} {ρ:Env} {σ:Im} {own:Nat→Option Nat} {hv:Nat→Value} {w0:World} {σ0:Base} {A:Nat→Prop} {a:Act} {w:World} {Φ:aW} {dst:Nat}
 {is js:List Nat} {shs:List Sh} {obs:List (Nat×Ob)}
theorem Below.weak {B:Nat}{w w':World}(h:Below 0 w w')(hk:∀k,k<B→w'.heap[k]?=w.heap[k]?):Below B w w':=⟨h.os,h.tape,h.output,h.size,hk⟩
def pI (js is:List Nat)(own:Nat→Option Nat):Nat→Option Nat:=fun k=>(own k).bind (cN js is)
def GG (js is:List Nat)(own own':Nat→Option Nat):Nat→Option Nat:=fun k=>
 match own' k with
 |some i=>cN is js i
 |none=>match own k with|some j=>(match cN js is j with|some _=>none|none=>some j)|none=>none
theorem handed (h:Inv C S ρ σ own hv w0 σ0 A a w)(hC:CtxOK C σ0)(FY:zk shs obs=true)(FE:is=obs.map (·.1))(aec:is.Nodup)(LZ:js.Nodup)(LK:sn S is js obs js=true){acts:List oH}{es:List PE}(lg:vw S is js acts shs=some es)
 (LF:S.o ja=.dead) (Ma:ja∉js) {vals:List Value} (hvl:vals.length=acts.length) (aqw:∀(t:Nat) (x:oH),acts[t]?=some x→∃d,IL C S ρ σ hv x (vals.getD t undef) d) {f:Nat} {res:Ty} {d:D}
 (hfn:tH C f shs obs res (es.map (PE.ev ρ)++js.map ρ.o) d):
 Calls C.P f vals.toArray w fun e w'=>∃v dr os,e=.returned v∧d=.tup (dr::os)∧os.length=js.length∧
  ∀ρ':Env,ρ'.r=ρ.r→(∀(k j:Nat),js[k]?=some j→ρ'.o j=os.getD k .none)→(∀j,j∉js→j≠ja→ρ'.o j=ρ.o j)→
   ∃σ1 eh aL,Inv C (S.handed shs obs is js) ρ' σ1 eh aL w0 σ0 A a w'∧Rep C.cap σ1 res v dr:=by
 obtain⟨al1,al2,jm⟩:=acK lg;have gS:=acM LK;have vN:w0.heap.size≤w.heap.size:=h.below.size;obtain⟨tr,fx,cx,hf,yV⟩:=h.frame
 let eU:Nat→Value:=fun i=>match cN is js i with|some j=>hv j|none=>undef
 have fP:∀i j,cN is js i=some j→eU i=hv j:=fun i j e=>by simp only[eU,e]
 have ad1:Im.leR C.cap σ σ.noM:=⟨Rep.noM,fun _ _ _ e=>e⟩
 have FQ:∀k x,σ.noM.m k=some x→σ.m k=some x∧x≠cI:=by
  intro k x e;by_cases hd:σ.m k=some cI
  ·simp[Im.noM,hd] at e
  ·simp only[Im.noM,if_neg hd] at e;exact⟨e,fun e2=>hd (by rw[e,e2])⟩
 have jG:(es.map (PE.ev ρ)++js.map ρ.o).drop shs.length=js.map ρ.o:=by rw[List.drop_append];simp[al2]
 have arj:∀t e,es[t]?=some e→(es.map (PE.ev ρ)++js.map ρ.o).getD t .none=e.ev ρ:=fun t e he=>by
  have af:=(fe.1 he).1;rw[aI,oJ (by simpa using af),ct,he];rfl
 have asz:∀s,s∈shs→∃x,kQ S.ver is js s=some x:=by
  intro s hs;obtain⟨t,ht⟩:=Ao hs;obtain⟨x,e,_,_,he⟩:=jm t s ht;unfold E5 at he;split at he
  ·exact⟨_,rfl⟩
  ·exact⟨_,rfl⟩
  ·split at he
   ·rename_i y hy;exact⟨y,hy⟩
   ·cases he
 have adU:∀t,aJ C (kg shs obs) (sY obs (es.map (PE.ev ρ)++js.map ρ.o) ((es.map (PE.ev ρ)++js.map ρ.o).drop shs.length)) σ.noM eU (shs.getD t .none) (vals.toArray.getD t undef) ((es.map (PE.ev ρ)++js.map ρ.o).getD t .none):=by
  intro t;cases hs:shs[t]? with
  |none=>rw[aI,hs];trivial
  |some s=>
   obtain⟨x,e,hx,he,LJ⟩:=jm t s hs;obtain⟨d',aqx⟩:=aqw t x hx;rw[aI (l:=shs),hs,arj t e he];have e1:vals.toArray.getD t undef=vals.getD t undef:=by simp[gG,aI]
   rw[e1];exact aoI ad1 fP LJ aqx
 have arB:∀i,cA C (kg shs obs) (sY obs (es.map (PE.ev ρ)++js.map ρ.o) ((es.map (PE.ev ρ)++js.map ρ.o).drop shs.length)) σ.noM (pI js is own) eU w w0.heap.size i (kc obs i):=by
  intro i;cases dH:cN is js i with
  |none=>subst FE;rw[afA gS dH];trivial
  |some j=>
   subst FE;obtain⟨x,hx,LL⟩:=acL LK dH;refine avM ad1 fP (fun k j' i' hk hl=>by simp only[pI,hk,tN,hl]) LZ dH ?_ hx LL (h.objs j);show wq obs _ i=_;rw[jG];exact atW obs ρ.o rfl dH
 have dq:=hfn w0.heap.size σ.noM (pI js is own) eU w vals.toArray (fun k=>(∃j,own k=some j∧cN js is j=none)∨σ.m k=some cI∨(cx k)) FY ⟨h.ok.c,fun k x e=>h.ok.m k x (FQ k x e).1,h.ok.f⟩ ((hC.mono h.le).noM)
  (fun k e=>(FQ k _ e).2 rfl) vN (by simp;omega) (fun k i hk=>by
    simp only[pI,aA] at hk;obtain⟨j,hj,_⟩:=hk;obtain⟨g1,g2,g3,g4⟩:=h.owns k j hj;exact⟨g1,g2,g3,by by_cases e:σ.m k=some cI<;>simp[Im.noM,e,g4]⟩) (fun k hk=>by
    rcases hk with⟨j,hj,hn⟩|hk|hk
    ·obtain⟨g1,g2,g3,g4⟩:=h.owns k j hj;exact⟨g2,by simp[pI,hj,hn],g3,by by_cases e:σ.m k=some cI<;>simp[Im.noM,e,g4]⟩
    ·have FN:=h.ok.m k _ hk;have hn:own k=none:=by
      cases e:own k with
      |none=>rfl
      |some j=>rw[(h.owns k j e).2.2.2] at hk;cases hk
     refine⟨FN.lt,by simp[pI,hn],fun o=>?_,by simp[Im.noM,hk]⟩;cases e:σ.c k o with
     |none=>exact e
     |some x=>
      have c1:=h.ok.c k o x e;rcases FN with⟨m1,_⟩|⟨_,m2⟩|⟨m3,_⟩
      ·exact absurd rfl m1
      ·simp[World.cell?,m2] at c1
      ·exact absurd m3.symm wN
    ·have mD:=σ0.sub _ _ _ _ hf.F k hk;have hn:own k=none:=by
      cases e:own k with
      |none=>rfl
      |some j=>exact absurd mD (hf.own k j e)
     refine⟨σ0.lt _ _ _ _ hf.F k mD,by simp[pI,hn],fun o=>?_,?_⟩
     ·cases e:σ.c k o with
      |none=>exact e
      |some x=>exact absurd hk (hf.c k o x e)
     ·cases e:σ.m k with
      |none=>simp[Im.noM,e]
      |some x=>exact absurd hk (hf.m k x e)) adU arB
 refine dq.mono fun e w' hh=>?_;obtain⟨v,σ',own',hv',dr,os,rfl,hd,S5,hle,ax,hb,jt,eD,dv,vI,aen,uE,SZ,j9⟩:=hh;refine⟨v,dr,os,rfl,hd,by omega,fun ρ' lV pq yN=>?_⟩;have FT:∀k,k<w.heap.size→own k=none→w'.heap[k]?=w.heap[k]?:=fun k hk hn=>jt k hk (by simp[pI,hn]);have asl:∀k j,own k=some j→cN js is j=none→w'.heap[k]?=w.heap[k]?:=fun k j hk hn=>jt k (h.owns k j hk).2.1 (by simp[pI,hk,hn])
 have adC:∀k o x,σ.c k o=some x→own k=none:=fun k o x e=>by
  cases e1:own k with
  |none=>rfl
  |some j=>rw[(h.owns k j e1).2.2.1 o] at e;cases e
 have aea:∀k x,σ.m k=some x→own k=none:=fun k x e=>by
  cases e1:own k with
  |none=>rfl
  |some j=>rw[(h.owns k j e1).2.2.2] at e;cases e
 have aeg:σ.ok w':=⟨fun k o x e=>by rw[World.cell?_of_block (FT k (h.lt e) (adC k o x e))];exact h.ok.c k o x e,fun k x e=>(h.ok.m k x e).keep (FT k (h.ltm e) (aea k x e)),h.ok.fz fun k o x e=>FT k (h.lt e) (adC k o x e)⟩
 have mG:σ.le (σ'.plus σ):=Im.plus_le2 ax aeg;have jq:σ'.le (σ'.plus σ):=Im.plus_le1 σ' σ;have cK:∀k o x,(σ'.plus σ).c k o=some x→σ'.c k o=some x:=fun k o x e=>(Im.plus_c e).elim id (fun e=>hle.c k o x e)
 have Cg:∀k x,(σ'.plus σ).m k=some x→σ'.m k=some x∨(σ.m k=some x∧x=cI):=fun k x e=>(Im.plus_m e).elim .inl (fun e=>by
  by_cases hd:x=cI
  ·exact .inr ⟨e,hd⟩
  ·refine .inl (hle.m k x ?_);have:σ.m k≠some cI:=fun e2=>hd (by rw[e] at e2;cases e2;rfl);simp only[Im.noM,if_neg this,e])
 let aL:Nat→Value:=fun j=>match cN js is j with|some i=>hv' i|none=>hv j
 have atc:∀i j,cN is js i=some j→hv' i=aL j:=fun i j e=>by simp only[aL,Mu LZ e]
 have aqY:∀i,i∈qB shs→hv' i=eU i:=fun i hi=>ans (S:=S) (is:=is) (js:=js) (args:=fun t=>vals.toArray.getD t undef) (ds:=fun t=>(es.map (PE.ev ρ)++js.map ρ.o).getD t .none) (ds':=fun t=>(es.map (PE.ev ρ)++js.map ρ.o).getD t .none) (fun t s hs=>by
  have:=adU t;rw[aI (l:=shs),hs] at this;exact this) (fun t s hs hd=>uE t s hs hd) asz hi
 have adB:Compat S hv (S.handed shs obs is js) aL:=by
  refine⟨fun j=>?_,fun j e=>?_⟩
  ·show S.ver j≤xb S.ver shs is js j;unfold xb;split
   ·cases aE (qB shs) _<;>simp
   ·exact bn _
  ·change xb S.ver shs is js j=S.ver j at e;show aL j=hv j;simp only[aL];unfold xb at e;split at e
   ·rename_i i hi;cases hb:aE (qB shs) i<;>rw[hb] at e
    ·simp at e
    ·try simp only[hi]
     rw[aqY i (aeV.1 hb),fP i j (Mu aec hi)]
   ·rename_i hi;try simp only[hi]
 have nU:∀k j,GG js is own own' k=some j→(k<w.heap.size→own k≠none)∧w0.heap.size≤k∧k<w'.heap.size∧(∀o,σ'.c k o=none)∧σ'.m k=none∧σ.m k≠some cI:=by
  intro k j hk;simp only[GG] at hk;split at hk
  ·rename_i i hi;obtain⟨g1,g2,g3,g4,g5⟩:=aen k i hi;have g6:k<w.heap.size→own k≠none:=fun af e=>g5 af (by simp[pI,e]);refine⟨g6,g1,g2,g3,g4,fun e=>?_⟩;exact g6 (h.ltm e) (aea k _ e)
  ·split at hk
   ·rename_i j' bK;split at hk
    ·cases hk
    ·rename_i hn;obtain⟨g1,g2,g3,g4⟩:=h.owns k j' bK;have gP:(∃j,own k=some j∧cN js is j=none)∨σ.m k=some cI∨(cx k):=.inl ⟨j',bK,hn⟩;refine⟨fun _ e=>(by rw[bK] at e;cases e),g1,lR g2 hb.size,fun o=>?_,?_,fun e=>?_⟩
     ·cases e:σ'.c k o with
      |none=>rfl
      |some x=>exact absurd gP (eD k o x e).2
     ·cases e:σ'.m k with
      |none=>rfl
      |some x=>exact absurd gP (dv k x e).2
     ·rw[g4] at e;cases e
   ·cases hk
 refine⟨σ'.plus σ,GG js is own own',aL,⟨h.defers.mono mG,Im.plus_ok ax aeg,h.le.trans mG,h.old,fun k o x e=>?_,fun k x e=>?_,h.below.trans (Below.weak hb fun k hk=>?_),h.bw,fun k j hk=>?_,fun t=>?_,fun j=>?_,h.opts,?_⟩,j9.mono jq⟩
 ·rcases(eD k o x (cK k o x e)).1 with e1|e1
  ·exact h.newc k o x e1
  ·exact .inr e1
 ·rcases Cg k x e with e1|e1
  ·rcases(dv k x e1).1 with e2|e2
   ·exact h.newm k x (FQ k x e2).1
   ·exact .inr e2
  ·exact h.newm k x e1.1
 ·have cB:k<w0.heap.size:=lR hk h.bw;refine FT k (by omega) ?_;cases e:own k with
  |none=>rfl
  |some j=>have:=(h.owns k j e).1;omega
 ·obtain⟨_,g1,g2,g3,g4,g5⟩:=nU k j hk;refine⟨g1,g2,fun o=>?_,?_⟩
  ·cases e:(σ'.plus σ).c k o with
   |none=>rfl
   |some x=>have:=cK k o x e;rw[g3 o] at this;cases this
  ·cases e:(σ'.plus σ).m k with
   |none=>rfl
   |some x=>
    rcases Cg k x e with e1|e1
    ·rw[g4] at e1;cases e1
    ·exact absurd (by rw[e1.1,e1.2]) g5
 ·show aJ C _ ρ' _ aL (S.r t) _ (ρ'.r t);rw[lV]
  exact aJ.mono mG adB (fun gs s e=>by
   unfold holds;rw[lV]) (fun gs s e=>(h.opts t gs s e).2) (h.regs t)
 ·show cA C _ ρ' _ _ aL w' _ j (match cN js is j with|some i=>(match rF (xb S.ver shs is js) is js (kc obs i) with|some o=>o|none=>.dead)|none=>S.o j);split
  ·rename_i i hi;have dH:=Mu aec hi;split
   ·rename_i x hx;refine avN (S1:=S.handed shs obs is js) jq atc (fun k i' j' hk hl=>by simp only[GG,hk,hl]) dH ?_ hx (SZ i);subst FE;obtain⟨k,bD,cB⟩:=afs (os:=os) S5 dH;show ρ'.o j=wq obs os i;rw[cB];exact pq k j bD
   ·trivial
  ·rename_i hn
   have SP:j∉js:=fun hm=>by
        obtain⟨k,hk⟩:=Ao hm;have af:k<is.length:=by
         have:=(fe.1 hk).1;rw[FE,dM];omega
        have:=Mt LZ hk (aX af);rw[hn] at this;cases this
   by_cases LS:j=ja
   ·subst LS;rw[LF];trivial
   ·refine(h.objs j).mono mG adB (by show aL j=hv j;simp only[aL,hn]) (yN j SP LS) (fun k hk=>⟨?_,asl k j hk hn⟩);have:own' k=none:=by
     cases e:own' k with
     |none=>rfl
     |some i=>exact absurd (by simp[pI,hk,hn]) ((aen k i e).2.2.2.2 (h.owns k j hk).2.1)
    simp only[GG,this,hk,hn]
 ·refine⟨tr,fx,cx,⟨σ0.keep _ _ _ _ _ hf.F hb fun k hk=>?_,fun k j hk mD=>?_,fun k o x e hc=>?_,fun k x e hc=>?_,fun k e hB hk=>?_⟩,fun j hj=>?_⟩
  ·refine FT k (σ0.lt _ _ _ _ hf.F k hk) ?_;cases e:own k with
   |none=>rfl
   |some j=>exact absurd hk (hf.own k j e)
  ·have af:=σ0.lt _ _ _ _ hf.F k mD;have:=(nU k j hk).1 af;cases e:own k with
   |none=>exact this e
   |some j'=>exact hf.own k j' e mD
  ·exact(eD k o x (cK k o x e)).2 (.inr (.inr hc))
  ·rcases Cg k x e with e1|e1
   ·exact(dv k x e1).2 (.inr (.inr hc))
   ·exact hf.m k x e1.1 hc
  ·rcases Cg k _ e with e1|e1
   ·have af:=σ0.lt _ _ _ _ hf.F k hk;refine vI k e1 hB af ?_;have:own k=none:=by
     cases e:own k with
     |none=>rfl
     |some j=>exact absurd hk (hf.own k j e)
    simp[pI,this]
   ·exact hf.d k e1.1 hB hk
  ·change (match cN js is j with|some i=>(match rF (xb S.ver shs is js) is js (kc obs i) with|some o=>o|none=>.dead)|none=>S.o j)=.tr at hj;split at hj
   ·rename_i i hi;split at hj
    ·rename_i x hx;exact absurd hj (axR hx)
    ·cases hj
   ·rename_i hn
    have SP:j∉js:=fun hm=>by
     obtain⟨k,hk⟩:=Ao hm;have af:k<is.length:=by
         have:=(fe.1 hk).1;rw[FE,dM];omega
     have:=Mt LZ hk (aX af);rw[hn] at this;cases this
    have LS:j≠ja:=fun e=>by subst e;rw[LF] at hj;cases hj
    rw[yN j SP LS];exact yV j hj
theorem ajP:∀(js:List Nat) (k:Nat) {ρ ρ':Env} {l:List D},PI.runs Φ (Io js k) ρ=some ρ'→ρ.o ja=.tup l→ja∉js→js.Nodup→
 ρ'.r=ρ.r∧(∀(i j:Nat),js[i]?=some j→ρ'.o j=l.getD (k+i) .none)∧∀j,j∉js→ρ'.o j=ρ.o j
 |[],k,ρ,ρ',l,h,hs,hn,hd=>by
  simp only[Io,PI.runs,bj] at h;subst h;exact⟨rfl,fun i j e=>by simp at e,fun _ _=>rfl⟩
 |x::js,k,ρ,ρ',l,h,hs,hn,hd=>by
  simp only[Io,PI.runs,PI.run,tN,PE.ev,hs,D.tget] at h;simp only[cC,not_or] at hn;have gQ:=qk.1 hd;obtain⟨g1,g2,g3⟩:=ajP js (k+1) h (by simp only[Env.setO];rw[bM _ _ hn.1];exact hs) hn.2 gQ.2;refine⟨g1,fun i j e=>?_,fun j hj=>?_⟩
  ·cases i with
   |zero=>simp at e;subst e;rw[g3 _ gQ.1];simp[Env.setO,aS]
   |succ i=>simp at e;rw[g2 i j e];congr 1;omega
  ·simp only[cC,not_or] at hj;rw[g3 j hj.2];simp only[Env.setO];exact bM _ _ hj.1
theorem alw (h:Inv C S ρ σ own hv w0 σ0 A a w)(hC:CtxOK C σ0)(x:Operand):∃d,IL C S ρ σ hv (Jb C S x) (a.eval x) d:=by
 cases x with
 |tmp t=>
  refine⟨ρ.r t,?_,fun y hy=>cw (gs:=[]) h hC rfl hy⟩;have:=(rJ (gs:=[]) h rfl t).1;simpa [Act.eval,Jb,gD] using this
 |_=>exact⟨.none,trivial,fun y hy=>cw (gs:=[]) h hC rfl hy⟩
theorem anM (h:Inv C S ρ σ own hv w0 σ0 A a w)(hC:CtxOK C σ0)(hΦ:dt C Φ){f:Nat}{args:List Operand}{caps:List (Nat×Nat)}{vs:List Value}(iU:vs.length=caps.length)
 (eR:∀(i j ver:Nat),caps[i]?=some (j,ver)→ver≤S.ver j∧(ver=S.ver j→vs.getD i undef=hv j)) (qO:∀(i j ver:Nat),caps[i]?=some (j,ver)→ver=S.ver j→∃k,hv j=.pointer (some ⟨k,0,none⟩)) {r:St×Ty×List PI} (hr:vp C S f args caps=some r)
 {ρ1:Env} (ao:PI.runs Φ r.2.2 ρ=some ρ1):
 Calls C.P f (args.map a.eval++vs).toArray w fun e w'=>∃v σ1 eh aL,e=.returned v∧Inv C r.1 ρ1 σ1 eh aL w0 σ0 A a w'∧Rep C.cap σ1 r.2.1 v ((ρ1.o ja).tget 0):=by
 simp only[vp,aA] at hr;obtain⟨s,hs,hr⟩:=hr;split at hr
 case h_2=>cases hr
 rename_i shs obs nX;obtain⟨σ2,jx,jq,h2⟩:=Inv.fzs (BS S args shs) h;have ed:=(yj (BS S args shs) S).1;generalize S.fzs (BS S args shs)=S2 at hr h2 ed;unfold Rq Rp at hr;generalize acH S2 shs obs (args.map (Jb C S2)++caps.map abO)=js at hr;simp only[aA] at hr;obtain⟨es,lg,hr⟩:=hr;cases hb:(zk shs obs&&(kf (obs.map (·.1))&&kf js&&sn S2 (obs.map (·.1)) js obs js&&py (S2.o ja)&& !aE js ja))<;>simp only[hb,cond_true,cond_false] at hr
 ·cases hr
 cases hr;simp only[aw,mi] at hb;obtain⟨b0,⟨⟨⟨b1,b2⟩,b3⟩,b4⟩,b5⟩:=hb;have kC:=rf b1;have qV:=rf b2;have LF:S2.o ja=.dead:=by
  cases e:S2.o ja<;>rw[e] at b4<;>first|rfl|cases b4
 have Ma:ja∉js:=fun hm=>by rw[aeV.2 hm] at b5;cases b5
 simp only[PI.runs,PI.run,aA,aC] at ao;obtain⟨ρ2,⟨d,hd,rfl⟩,ao⟩:=ao;rw[PE.evs_eq,np,nq] at hd;have e1:js.map (PE.ev ρ∘PE.o)=js.map ρ.o:=rfl;rw[e1] at hd;have hfn:=((hΦ f _ d hd s hs).2 shs obs nX).plain b0
 have dq:=handed h2 hC b0 rfl kC qV b3 lg LF Ma (vals:=args.map a.eval++vs) (by simp[iU]) (fun t x hx=>by
  rw[ml] at hx;split at hx
  ·rename_i af;rw[dM] at af;rw[ct,aX af] at hx;cases hx;have:(args.map a.eval++vs).getD t undef=a.eval args[t]:=by
        rw[aI,oJ (by simpa using af),ct,aX af];rfl
   rw[this];exact alw h2 hC _
  ·rename_i fN;rw[dM] at fN hx;rw[ct,aC] at hx;obtain⟨c,hc,rfl⟩:=hx;obtain⟨j,ver⟩:=c;have cT:(args.map a.eval++vs).getD t undef=vs.getD (t-args.length) undef:=by
        rw[aI,oK (by simpa using fN),dM,aI]
   obtain⟨g1,g2⟩:=eR _ j ver hc;refine⟨.none,⟨by rw[ed];exact g1,fun e=>?_⟩,fun y hy=>by cases hy⟩;rw[ed] at e;obtain⟨k,hk⟩:=qO _ j ver hc e;exact⟨k,hk,by rw[cT,g2 e,hk]⟩) (hfn:=hfn)
 refine dq.mono fun e w' hh=>?_;obtain⟨v,dr,os,rfl,rfl,S5,j4⟩:=hh;obtain⟨g1,g2,g3⟩:=ajP js 1 (l:=dr::os) ao (by simp[Env.setO,aS]) Ma qV
 obtain⟨σ1,eh,aL,hinv,bO⟩:=j4 ρ1 g1 (fun k j hk=>by
  have:=g2 k j hk;rw[Nat.add_comm] at this;simpa using this) (fun j hj ay=>by rw[g3 j hj];simp only[Env.setO];exact bM _ _ ay)
 refine⟨v,σ1,eh,aL,rfl,hinv,?_⟩;rw[g3 ja Ma];simpa [Env.setO,aS,D.tget] using bO
def ri (S:St)(dst:Option Nat)(r:St×Ty×List PI):St×List PI:=
 match dst with
 |some d=>(r.1.setR d (.dat r.2.1),r.2.2++[.setR d (.tget (.o ja) 0)])
 |none=>(r.1,r.2.2)
theorem ayb {a b:List PI}{ρ:Env}:PI.runs Φ (a++b) ρ=(PI.runs Φ a ρ).bind (PI.runs Φ b):=by
 induction a generalizing ρ with
 |nil=>simp[PI.runs]
 |cons x a ih=>
  simp only[IW,PI.runs];cases x.run Φ ρ with
  |none=>rfl
  |some ρ1=>simp[ih]
theorem aml {o:Oper}{f:Nat}{vals:List Value}(ht:∀d,o.dst=some d→¬A d∧d<a.tmps.size){r:St×Ty×List PI}(hx:(execOp a.eval o).run C.P w=.ok (.enter f vals.toArray) w)
 (hc:∀ρ1,PI.runs Φ r.2.2 ρ=some ρ1→Calls C.P f vals.toArray w fun e w'=>∃v σ1 eh aL,e=.returned v∧Inv C r.1 ρ1 σ1 eh aL w0 σ0 A a w'∧Rep C.cap σ1 r.2.1 v ((ρ1.o ja).tget 0)):bZ C w0 σ0 Φ S ρ A a w o (ri S o.dst r):=by
 intro ρ' ao K Q hK;simp only[Oper.wp,hx,Oper.upon];cases hd:o.dst with
 |none=>
  rw[hd] at ao hK;refine(hc ρ' ao).mono fun e w' hh=>?_;obtain⟨v,σ1,eh,aL,rfl,hinv,bO⟩:=hh;refine hK _ _ ⟨σ1,eh,aL,?_⟩ rfl;have:(fun u=>A u∨(none:Option Nat)=some u)=A:=by funext u;simp
  rw[this];exact hinv
 |some d=>
  rw[hd] at ao hK;obtain⟨t1,t2⟩:=ht d hd;simp only[ri,ayb,aA] at ao;obtain⟨ρ1,h1,h2⟩:=ao;simp[PI.runs,PI.run,PE.ev] at h2;subst h2;refine(hc ρ1 h1).mono fun e w' hh=>?_;obtain⟨v,σ1,eh,aL,rfl,hinv,bO⟩:=hh;refine hK _ _ ⟨σ1,eh,aL,?_⟩ (size_put _ _ _);have:(fun u=>A u∨some d=some u)=(fun u=>A u∨u=d):=by funext u;simp[eq_comm]
  rw[this];exact hinv.setReg t1 (s:=.dat r.2.1) bO t2 (fun _ _ e=>by cases e)
theorem aco (h:Inv C S ρ σ own hv w0 σ0 A a w)(hC:CtxOK C σ0)(aZ:dL C)(hΦ:dt C Φ){f:Nat}{args:Array Operand}{ts:Array TypeId}{r:St×Ty×List PI}{o:Oper}(ht:∀d,o.dst=some d→¬A d∧d<a.tmps.size)
 (hr:vp C S f args.toList []=some r) (ho:o.op=.call {callee:=.value (.func f),args:=args,argTypes:=ts}):bZ C w0 σ0 Φ S ρ A a w o (ri S o.dst r):=by
 have hs:∃s,C.sig f=some s:=by
  simp only[vp,aA] at hr;obtain⟨s,hs,_⟩:=hr;exact⟨s,hs⟩
 obtain⟨s,hs⟩:=hs;have hx:=OC (a:=a) (w:=w) aZ hs ho;have mL:args.map a.eval=(args.toList.map a.eval++[]).toArray:=by apply DJ;simp
 rw[mL] at hx;exact aml ht hx fun ρ1 ao=>anM h hC hΦ (vs:=[]) rfl (fun i j ver e=>by simp at e) (fun i j ver e=>by simp at e) hr ao
def K5 (C:Ctx)(S:St)(t:Nat)(args:List Operand):Option (St×Ty×List PI):=none
theorem acm (h:Inv C S ρ σ own hv w0 σ0 A a w)(hC:CtxOK C σ0)(aZ:dL C)(hΦ:dt C Φ){t:Nat}{args:Array Operand}{ts:Array TypeId}{r:St×Ty×List PI}{o:Oper}(ht:∀d,o.dst=some d→¬A d∧d<a.tmps.size)
 (hr:K5 C S t args.toList=some r) (ho:o.op=.call {callee:=.value (.tmp t),args:=args,argTypes:=ts}):bZ C w0 σ0 Φ S ρ A a w o (ri S o.dst r):=by cases hr
def Rs (C:Ctx)(S:St)(dst:Nat)(fn:Fn)(first caps:Array Operand):Option (St×List PI):=none
theorem an0 (h:Inv C S ρ σ own hv w0 σ0 A a w)(ht:¬A dst)(af:dst<a.tmps.size){fn:Fn}{first caps:Array Operand}{r:St×List PI}{o:Oper}(hr:Rs C S dst fn first caps=some r)(hd:o.dst=some dst)(ho:o.op=.makeFunc fn first caps):bZ C w0 σ0 Φ S ρ A a w o r:=by cases hr
end
end Cx
namespace Cx
open Go Go.RowKit
inductive Gh where
 |fz (j:Nat)|fbox (b:Nat)|rereg (t j:Nat)|recell (b i j:Nat)|home (b i j:Nat) (T:TypeId)
def Gh.run (C:Ctx)(S:St):Gh→Option (St×List PI)
 |.fz j=>some (S.fz j,[])
 |.fbox b=>Fb S b
 |.rereg t j=>Ie S t j
 |.recell b i j=>axP S b i j
 |.home b i j T=>FV C S b i j T
def nS (C:Ctx):List Gh→St→Option (St×List PI)
 |[],S=>some (S,[])
 |g::gs,S=>(g.run C S).bind fun r=>(nS C gs r.1).map fun q=>(q.1,r.2++q.2)
theorem uY {Φ:aW}:∀{a b:List PI} {ρ:Env},PI.runs Φ (a++b) ρ=(PI.runs Φ a ρ).bind (PI.runs Φ b)
 |[],b,ρ=>by simp[PI.runs]
 |x::a,b,ρ=>by
  simp only[IW,PI.runs];cases x.run Φ ρ with
  |none=>rfl
  |some ρ1=>simp[uY (a:=a) (b:=b)]
def BW (S:St)(ops:Array Oper)(o:Oper):Option (List (Nat×Bool)):=
 match o.guard with
 |none=>some []
 |some (j,want)=>
  match(ops[j]?).bind (·.dst) with
  |some t=>
   match S.r t with
   |.dat .bool=>some [(t,want)]
   |.opt gs (.dat .bool)=>some ((t,want)::gs)
   |_=>none
  |none=>none
def aik (S:St)(gs:List (Nat×Bool)):Op→List Nat
 |.build _ ps=>ef S gs (ps.toList.map (·.2))
 |.buildSlice _ _ ps=>ef S gs (ps.toList.map (·.2))
 |.box _ x=>match gD S gs x with|.agg _=>[]|_=>ef S gs [x]
 |.pick _ x y=>ef S gs [x,y]
 |.slice _ x _ _ _=>ef S gs [x]
 |.mapUpdate _ _ k v=>ef S gs [k,v]
 |.insert _ _ k v=>ef S gs [k,v]
 |.store _ x v=>match gD S gs x with|.eptr ..=>ef S gs [v]|_=>[]
 |_=>[]
def Eu:List Sh→List Nat
 |[]=>[]
 |.obj j _::r=>j::Eu r
 |_::r=>Eu r
def Jn (S:St)(gs:List (Nat×Bool)):List Operand→List Nat
 |[]=>[]
 |x::xs=>
  match gD S gs x with
  |.ptr j ver off=>bif Nat.beq ver (S.ver j)&&(match S.o j with|.box ..=>true|_=>false) then j::Jn S gs xs else Jn S gs xs
  |_=>Jn S gs xs
def agb (C:Ctx):Fn→Bool
 |.func f=>(match C.sig f with|some s=>v7 s.mode|none=>false)
 |_=>false
theorem avy {α:Type}{b:Bool}{x:α}{l:List α}(h:x∈bif b then[] else l):x∈l:=by
 cases b with
 |true=>cases h
 |false=>exact h
def pre (C:Ctx)(S:St)(gs:List (Nat×Bool))(op:Op):List Gh:=
 match op with
 |.makeFunc fn _ caps=>
  bif agb C fn then[] else(Jn S gs caps.toList).flatMap fun b=>(match S.o b with|.box _ shs=>(Eu shs).map .fz|_=>[])++[.fbox b]
 |.load T x=>
  match gD S gs x,qZ C.P T,C.P.info? T with
  |.ptr j _ off,some true,some inf=>bif agB C j then[] else(match S.o j with|.box _ shs=>((Eu ((shs.drop off).take inf.size)).filter fun j=>pA (S.o j)).map .fz|_=>[])
  |_,_,_=>[]
 |.build T ps=>((aik S gs (.build T ps)).filter fun j=> !(C.fr.any (Nat.beq (3000000+j)))).map .fz
 |op=>(aik S gs op).map .fz
def Vu (C:Ctx)(S:St)(gs:List (Nat×Bool))(o:Oper):List Gh:=
 match o.op,o.dst with
 |.assign x,some t=>bif C.fr.any (Nat.beq t) then(ef S gs [x]).map .fz else[]
 |_,_=>[]
def Q5 (P:Program):Nat→TypeId→List (Option TypeId)
 |0,_=>[]
 |n+1,t=>
  match P.underlying t with
  |some (.struct fs)=>fs.toList.flatMap fun f=>Q5 P n f.type
  |some (.array len e)=>(List.replicate len (Q5 P n e)).flatten
  |some (.slice e)=>[some e]
  |_=>[none]
def homes (P:Program)(b off:Nat)(T:TypeId):List Gh:=
 ((Q5 P 12 T).zipIdx).filterMap fun x=>x.1.map fun e=>.home b (off+x.2) (asi b (off+x.2)) e
def Mp (nh:List Nat)(l:List Gh):List Gh:=l.filter fun g=>match g with|.home _ _ j _=> !(nh.any (Nat.beq j))|_=>true
def post (C:Ctx)(S:St)(o:Oper):List Gh:=
 match o.op,o.dst with
 |.assign _,some t=>[.rereg t t]
 |.alloc T,some t=>Mp C.nh (homes C.P t 0 T)
 |.store T x _,_=>
  match gD S [] x with
  |.ptr j _ off=>Mp C.nh (homes C.P j off T)
  |_=>[]
 |_,_=>[]
def MH:Sh→Bool
 |.opt ..=>false
 |_=>true
def vq (C:Ctx)(S:St)(dst:Nat)(T:TypeId)(x:Operand):kT:=
 match x with
 |.const v=>(p9 C.P T).bind fun t=>(qa t).bind fun z=>bif jV t v then some (S.setR dst (.dat z.1),[.setR dst (.con z.2)]) else none
 |_=>none
def core (C:Ctx)(S:St)(gs:List (Nat×Bool))(o:Oper):Option (St×List PI):=
 match o.dst with
 |some dst=>
  match M7 C S gs dst o.op with
  |some r=>bif MH r.1 then some (S.setR dst (ur gs r.1),r.2) else none
  |none=>
   match o.op,gs with
   |.assign x,[]=>
    bif C.fr.any (Nat.beq dst) then
          match zo C S [] dst x with
          |some r=>some (S.setR dst r.1,r.2)
          |none=>vq C S dst o.type x
    else
    match EV C S dst o.type x with
    |some r=>some r
    |none=>
     match zo C S [] dst x with
     |some r=>some (S.setR dst r.1,r.2)
     |none=>vq C S dst o.type x
   |.alloc T,[]=>EL C S dst T
   |.box T x,[]=>EN C S dst T x
   |.buildSlice T n ps,gs=>
    match gs with
    |[]=>yc C S [] dst T n ps.toList
    |_=>BJ C S gs dst T n ps.toList
   |.makeSlice T l c,[]=>ET C S dst T l c
   |.makeMap T r,[]=>ES C S dst T r
   |.range T x,[]=>EW C S dst T x
   |.convert T U x,[]=>EO C S dst T U x
   |.call c,gs=>
    match c.callee,gs with
    |.builtin .append,[]=>
     match c.args.toList,c.argTypes.toList with
     |[s,x],[T,T']=>bif Nat.beq T T' then EM C S dst T s x else none
     |_,_=>none
    |.value (.func f),gs=>
     match BI C S gs dst f c.args.toList with
     |some r=>some (r.1.setR dst (ur gs r.2.1),r.2.2)
     |none=>
      match gs with
      |[]=>
       match ER C S dst f c.args.toList with
       |some r=>some r
       |none=>
        match Rr C S dst f c.args.toList with
        |some r=>some r
        |none=>
        match EP C S dst f c.args.toList with
        |some r=>some r
        |none=>(vp C S f c.args.toList []).map (ri S (some dst))
      |_=>none
    |.value x,gs=>
     match yd C S gs dst x c.args.toList with
     |some r=>some (r.1.setR dst (ur gs r.2.1),r.2.2)
     |none=>
      match x,gs with
      |.tmp t,[]=>(K5 C S t c.args.toList).map (ri S (some dst))
      |_,_=>none
    |_,_=>none
   |.makeFunc fn first caps,[]=>Rs C S dst fn first caps
   |_,_=>none
 |none=>
  match o.op,gs with
  |.store T x v,[]=>EX C S T x v
  |.mapUpdate T m k v,[]=>BK C S T m k v
  |.insert T m k v,[]=>BK C S T m k v
  |.panic _,[]=>some (S,[.chk (.nt (.con (.bool true)))])
  |.call c,[]=>
   match c.callee with
   |.value (.func f)=>(vp C S f c.args.toList []).map (ri S none)
   |.value (.tmp t)=>(K5 C S t c.args.toList).map (ri S none)
   |_=>none
  |_,_=>none
def ahY (dst:Nat)(l:List PI):Bool:=l.all fun p=>p.modR.all (Nat.beq dst)&&p.modO.isEmpty
def Lj (gs:List (Nat×Bool))(dst:Option Nat)(l:List PI):Bool:=
 match gs,dst with
 |[],_=>true
 |_,some d=>ahY d l
 |_,none=>false
def KX (C:Ctx)(S:St)(ops:Array Oper)(o:Oper):Option (St×List PI):=
 (BW S ops o).bind fun gs=>
 (nS C (pre C S gs o.op++Vu C S gs o) S).bind fun r1=>
 (core C r1.1 gs o).bind fun r2=>
 (nS C (post C r2.1 o) r2.1).bind fun r3=>
 bif Lj gs o.dst r2.2 then some (r3.1,r1.2++r2.2++r3.2) else none
def Iu:PI:=.chk (.con (.v (.bool false)))
def EH (C:Ctx)(S:St)(ops:Array Oper)(o:Oper):Option (St×List PI):=
 match KX C S ops o with
 |some r=>some r
 |none=>some (match o.dst with|some d=>S.setR d .none|none=>S,[Iu])
section
variable {C:Ctx} {S:St} {ρ:Env} {σ:Im} {own:Nat→Option Nat} {hv:Nat→Value} {w0:World} {σ0:Base} {A:Nat→Prop} {a:Act} {w:World} {gs:List (Nat×Bool)} {Φ:aW} {dst:Nat}
theorem Gh.sound {g:Gh}{r:St×List PI}(h:Good C w0 σ0 S ρ A a w)(hr:g.run C S=some r):IS C w0 σ0 Φ S ρ A a w r:=by
 obtain⟨σ,own,hv,h⟩:=h;cases g with
 |fz j=>
  simp only[Gh.run,bj] at hr;subst hr;intro ρ' ao;rw[uX ao];obtain⟨σ',own',_,h'⟩:=h.fz j;exact⟨σ',own',hv,h'⟩
 |fbox b=>exact apV h hr
 |rereg t j=>exact axQ h hr
 |recell b i j=>cases hr
 |home b i j T=>exact ash h hr
theorem RQ:∀(l:List Gh) {S:St} {ρ ρ':Env} {r:St×List PI},Good C w0 σ0 S ρ A a w→nS C l S=some r→PI.runs Φ r.2 ρ=some ρ'→Good C w0 σ0 r.1 ρ' A a w
 |[],S,ρ,ρ',r,h,hr,ao=>by
  simp only[nS,bj] at hr;subst hr;rw[uX ao];exact h
 |g::l,S,ρ,ρ',r,h,hr,ao=>by
  simp only[nS,aA,aC] at hr;obtain⟨q,hq,q2,fO,rfl⟩:=hr;simp only[uY,aA] at ao;obtain⟨ρ1,h1,h2⟩:=ao;exact RQ (r:=q2) l (Gh.sound (Φ:=Φ) h hq ρ1 h1) fO h2
theorem ac2 (h:Good C w0 σ0 S ρ A a w){ops:Array Oper}{o:Oper}(hg:BW S ops o=some gs):Region.wanted o (yielded ops a.tmps)=holds gs ρ:=by
 obtain⟨σ,own,hv,h⟩:=h;unfold BW at hg;unfold Region.wanted;split at hg
 ·rename_i e;cases hg;simp[e,holds]
 ·rename_i j want e;simp only[e];split at hg
  case h_2=>cases hg
  rename_i t ht;have mK:=h.regs t;have hy:∀v,a.tmps.getD t undef=v→(∀b,v=.bool b→yielded ops a.tmps j=some b)∧(v=undef→yielded ops a.tmps j=none):=by
   intro v hv';unfold yielded;rw[ht];simp only[tN];rw[gG] at hv';cases qT:a.tmps[t]? with
   |none=>rw[qT] at hv';simp at hv';subst hv';exact⟨fun b e=>absurd e (by simp[undef]),fun _=>rfl⟩
   |some u=>rw[qT] at hv';simp at hv';subst hv';exact⟨fun b e=>by subst e;rfl,fun e=>by subst e;rfl⟩
  split at hg
  ·rename_i es;cases hg;rw[es] at mK;obtain⟨b,jF,dG⟩:=Rep.bool_inv mK;rw[(hy _ jF).1 b rfl];simp[holds,dG,D.b_bool]
  ·rename_i bP es;cases hg;rw[es] at mK;simp only[holds,tJ];cases hh:holds bP ρ with
   |true=>
    obtain⟨b,jF,dG⟩:=Rep.bool_inv (mK.1 hh);rw[(hy _ jF).1 b rfl];unfold holds at hh;rw[hh,dG];simp[D.b_bool]
   |false=>
    rw[(hy _ (mK.2 hh)).2 rfl];unfold holds at hh;rw[hh];simp
  ·cases hg
theorem ac1 (h:Good C w0 σ0 S ρ A a w){ops:Array Oper}{o:Oper}(hg:BW S ops o=some gs)(hj:∀j want t,o.guard=some (j,want)→(ops[j]?).bind (·.dst)=some t→A t):∀g,g∈gs→A g.1:=by
 obtain⟨σ,own,hv,h⟩:=h;unfold BW at hg;split at hg
 ·cases hg;simp
 ·rename_i j want e;split at hg
  case h_2=>cases hg
  rename_i t ht;have hA:=hj j want t e ht;split at hg
  ·cases hg;intro g hm;simp at hm;subst hm;exact hA
  ·rename_i bP es;cases hg;intro g hm;rcases cC.1 hm with e'|fE
   ·subst e';exact hA
   ·exact(h.opts t bP _ es).1 g fE
  ·cases hg
theorem av7 (h:Inv C S ρ σ own hv w0 σ0 A a w)(hC:CtxOK C σ0)(hg:holds gs ρ=true){o:Oper}{r:Sh×List PI}(hr:M7 C S gs dst o.op=some r):eK C S ρ σ hv Φ dst a w o r:=by
 unfold M7 at hr;split at hr
 ·rename_i x e;exact ah0 h hC hg hr (.inl e)
 ·rename_i c x y e;exact av6 h hC hg hr e
 ·rename_i op T x y T' e;exact avT h hC hg hr e
 ·rename_i op T x e;exact av9 h hC hg hr e
 ·rename_i s d x e;exact avV h hC hg hr e
 ·rename_i T x e;exact M5 h hC hg hr e
 ·rename_i T x i e;exact avX h hC hg hr e
 ·rename_i T x i e;exact avY h hC hg hr e
 ·rename_i T x i e;exact av0 h hC hg hr e
 ·rename_i T x i e;exact av1 h hC hg hr e
 ·rename_i x i e;exact avW h hC hg hr e
 ·rename_i T m k ok e;exact av4 h hC hg hr e
 ·rename_i T x lo hi mx e;exact av8 h hC hg hr e
 ·rename_i f a b e;exact avZ h hC hg hr e
 ·rename_i T ps e;exact avU h hC hg hr e
 ·rename_i x e;exact av5 h hC hg hr e
 ·cases hr;intro ρ' ao;have:=(Xa hg ao).1;cases this
 ·rename_i c e;split at hr
  ·rename_i x T hc ha ht;refine av2 h hC hg hr ?_;rw[e];cases c with|mk callee args argTypes=>
   simp only at hc ha ht;have h1:args=#[x]:=by rw[←Ab];exact ha
   have h2:argTypes=#[T]:=by rw[←Ab];exact ht
   rw[hc,h1,h2]
  ·rename_i x y hc ha;refine ahZ (ts:=c.argTypes) h hC hg hr ?_;rw[e];cases c with|mk callee args argTypes=>
   simp only at hc ha;have h1:args=#[x,y]:=by rw[←Ab];exact ha
   rw[hc,h1];rfl
  ·rename_i x y hc ha;refine ahZ (ts:=c.argTypes) h hC hg hr ?_;rw[e];cases c with|mk callee args argTypes=>
   simp only at hc ha;have h1:args=#[x,y]:=by rw[←Ab];exact ha
   rw[hc,h1];rfl
  ·cases hr
 ·cases hr
theorem an8 (h:Inv C S ρ σ own hv w0 σ0 A a w)(ht:¬A dst)(af:dst<a.tmps.size){T:TypeId}{x:Operand}{r:St×List PI}(hr:vq C S dst T x=some r){o:Oper}(hd:o.dst=some dst)(ho:o.op=.assign x):bZ C w0 σ0 Φ S ρ A a w o r:=by
 unfold vq at hr;split at hr
 case h_2=>cases hr
 rename_i v;simp only[aA] at hr;obtain⟨t,_,z,hz,hr⟩:=hr;cases hc:jV t v<;>simp only[hc,cond_true,cond_false] at hr
 ·cases hr
 cases hr;have bO:=(z8 (cap:=C.cap) (σ:=σ) hz hc).1;refine bZ.value hd fun ρ' ao=>⟨v,w,by simp[execOp,ho,Act.eval],?_⟩
 have hρ:ρ'=ρ.setR dst z.2:=by simp[PI.runs,PI.run,PE.ev] at ao;exact ao.symm
 subst hρ;exact⟨_,_,_,h.setReg ht (s:=.dat z.1) bO af (fun _ _ e=>by cases e)⟩
theorem am9 (h:Inv C S ρ σ own hv w0 σ0 A a w)(hC:CtxOK C σ0)(aZ:dL C)(hΦ:dt C Φ){o:Oper}(ht:∀d,o.dst=some d→¬A d∧d<a.tmps.size)(eC:∀g,g∈gs→A g.1)(hg:holds gs ρ=true){r:St×List PI}
 (hr:core C S gs o=some r):bZ C w0 σ0 Φ S ρ A a w o r:=by
 unfold core at hr;split at hr
 ·rename_i dst hd;obtain⟨gn,gp⟩:=ht dst hd;split at hr
  ·rename_i q hq;cases gl:MH q.1<;>simp only[gl,cond_true,cond_false] at hr
   ·cases hr
   cases hr;have Tg:=av7 (Φ:=Φ) h hC hg hq;cases gs with
   |nil=>exact Tg.eff h gn gp hd
   |cons g bP=>exact Tg.effG h gn gp eC hg hd
  ·rename_i SQ;clear SQ;split at hr
   ·rename_i x e
    have mv:∀r,(match zo C S [] dst x with|some r=>some (S.setR dst r.1,r.2)|none=>vq C S dst o.type x)=some r→bZ C w0 σ0 Φ S ρ A a w o r:=by
     intro r hr;split at hr
     ·rename_i q hq;cases hr;exact(ah0 (Φ:=Φ) h hC hg hq (.inr e)).eff h gn gp hd
     ·exact an8 h gn gp hr hd e
    cases fj:C.fr.any (Nat.beq dst)<;>simp only[fj,cond_true,cond_false] at hr
    ·split at hr
     ·rename_i q hq;cases hr;exact an2 h hC gn gp hq hd e
     ·exact mv r hr
    ·exact mv r hr
   ·rename_i T e;exact anz h gn gp hr hd e
   ·rename_i T x e;exact anD h hC gn gp hr hd e
   ·rename_i T n ps e;split at hr
    ·exact anF h hC gn gp hr hd e
    ·exact anU h hC gn gp eC hg hr hd e
   ·rename_i T l c e;exact anY h hC gn gp hr hd e
   ·rename_i T m e;exact anW h gn gp hr hd e
   ·rename_i T x e;exact an4 h gn gp hr hd e
   ·rename_i T U x e;exact anH h hC gn gp hr hd e
   ·rename_i c e;cases c with|mk callee args argTypes=>
    split at hr
    ·rename_i hc;simp only at hc;split at hr
     ·rename_i s x T T' ha Tu;simp only at ha Tu;cases hT:Nat.beq T T'<;>simp only[hT,cond_true,cond_false] at hr
      ·cases hr
      have B0:=aD hT;subst B0;refine anB h hC gn gp hr hd ?_;have h1:args=#[s,x]:=by rw[←Ab];exact ha
      have h2:argTypes=#[T,T]:=by rw[←Ab];exact Tu
      rw[e,hc,h1,h2]
     ·cases hr
    ·rename_i f hc;simp only at hc;split at hr
     ·rename_i q hq;cases hr;exact anS h hC aZ hΦ gn gp eC hg hq hd (by rw[e,hc])
     ·split at hr
      ·split at hr
       ·rename_i q hq;cases hr;exact anO h hC aZ hΦ gn gp hq hd (by rw[e,hc])
       ·split at hr
        ·rename_i q hq;cases hr;exact anQ h hC aZ hΦ gn gp hq hd (by rw[e,hc])
        split at hr
        ·rename_i q hq;cases hr;exact anL h hC aZ hΦ gn gp hq hd (by rw[e,hc])
        ·simp only[aC] at hr;obtain⟨q,hq,rfl⟩:=hr;rw[←hd];exact aco h hC aZ hΦ ht hq (by rw[e,hc])
      ·cases hr
    ·rename_i x hnf hc;simp only at hc;split at hr
     ·rename_i q hq;cases hr;exact anJ h hC aZ hΦ gn gp eC hg hq hd (by rw[e,hc])
     ·split at hr
      ·simp only[aC] at hr;obtain⟨q,hq,rfl⟩:=hr;rw[←hd];exact acm h hC aZ hΦ ht hq (by rw[e,hc])
      ·cases hr
    ·cases hr
   ·rename_i fn first caps e;exact an0 h gn gp hr hd e
   ·cases hr
 ·rename_i hd;split at hr
  ·rename_i T x v e;exact an6 h hC hr hd e
  ·rename_i T m k v e;exact acq h hC hr hd (.inl e)
  ·rename_i T m k v e;exact acq h hC hr hd (.inr e)
  ·cases hr;intro ρ' ao;simp[PI.runs,PI.run,PE.ev,D.bool,D.b] at ao
  ·rename_i c e;cases c with|mk callee args argTypes=>
   split at hr
   ·rename_i f hc;simp only at hc;simp only[aC] at hr;obtain⟨q,hq,rfl⟩:=hr;rw[←hd];exact aco h hC aZ hΦ ht hq (by rw[e,hc])
   ·rename_i t hc;simp only at hc;simp only[aC] at hr;obtain⟨q,hq,rfl⟩:=hr;rw[←hd];exact acm h hC aZ hΦ ht hq (by rw[e,hc])
   ·cases hr
  ·cases hr
theorem am7 {g:Nat×Bool}{bP:List (Nat×Bool)}{o:Oper}{r:St×List PI}(hr:core C S (g::bP) o=some r):
 ∃dst S2 s,o.dst=some dst∧r.1=S2.setR dst (.opt (g::bP) s)∧((∃js,S2=S.fzs js)∨∃j,S2=S.newO j .dead)∧(∀gs s',s≠.opt gs s')∧(∀x,o.op≠.assign x)∧(∀T,o.op≠.alloc T)∧∀T x v,o.op≠.store T x v:=by
 unfold core at hr;split at hr
 ·rename_i dst hd;split at hr
  ·rename_i q hq;cases gl:MH q.1<;>simp only[gl,cond_true,cond_false] at hr
   ·cases hr
   cases hr;refine⟨dst,S,q.1,hd,rfl,.inl ⟨[],rfl⟩,(fun gs s' e=>by rw[e] at gl;cases gl),fun x e=>?_,fun T e=>?_,fun T x v e=>?_⟩<;>(rw[e] at hq;simp[M7] at hq)
  ·rename_i SQ;clear SQ;split at hr
   case h_4=>
        rename_i T n ps e;split at hr
        ·rename_i hx;cases hx
        ·unfold BJ at hr;split at hr
         case h_2=>cases hr
         simp only[aA] at hr;obtain⟨e0,he0,hr⟩:=hr;split at hr
         ·cases hr;exact⟨dst,_,.dat (.slice e0.rol),hd,rfl,.inr ⟨dst,rfl⟩,(fun _ _ e=>by cases e),(fun x e'=>by rw[e] at e';cases e'),(fun x e'=>by rw[e] at e';cases e'),(fun _ _ _ e'=>by rw[e] at e';cases e')⟩
         ·cases hr
   case h_9=>
        rename_i c e;split at hr
        ·rename_i hx;cases hx
        ·rename_i f hc;split at hr
         ·rename_i q hq;cases hr;simp only[BI,aA] at hq;obtain⟨s,hs,hq⟩:=hq;split at hq
          case h_2=>cases hq
          simp only[aA] at hq;obtain⟨u,hu,hq⟩:=hq;cases cM:Ty.subs u.1 s.args<;>simp only[cM,cond_true,cond_false] at hq
          ·cases hq
          cases hq;refine⟨dst,_,.dat s.res,hd,rfl,?_,(fun _ _ e=>by cases e),(fun x e'=>by rw[e] at e';cases e'),(fun x e'=>by rw[e] at e';cases e'),(fun _ _ _ e'=>by rw[e] at e';cases e')⟩;left;cases s.res.pure
          ·exact⟨_,rfl⟩
          ·exact⟨[],rfl⟩
         ·cases hr
        ·rename_i x hnf hc;have hr:∃q,yd C S (g::bP) dst x c.args.toList=some q∧(q.1.setR dst (ur (g::bP) q.2.1),q.2.2)=r:=by
          split at hr
          ·rename_i q hq;cases hr;exact⟨q,hq,rfl⟩
          ·split at hr
           all_goals (first|(cases hr;done)|(rename_i hx;cases hx;done)|(rename_i hx _;cases hx;done)|(rename_i hx _ _;cases hx;done)|(rename_i hx;exact absurd hx (by simp)))
         obtain⟨q,hq,rfl⟩:=hr;unfold yd at hq;split at hq
         case h_2=>cases hq
         rename_i aa r0 ee hu0;split at hq
         case h_1=>cases hq
         simp only[aA] at hq;obtain⟨u,hu,hq⟩:=hq;cases cM:Ty.subs u.1 aa<;>simp only[cM,cond_true,cond_false] at hq
         ·cases hq
         cases hq;refine⟨dst,_,.dat r0,hd,rfl,?_,(fun _ _ e=>by cases e),(fun x e'=>by rw[e] at e';cases e'),(fun x e'=>by rw[e] at e';cases e'),(fun _ _ _ e'=>by rw[e] at e';cases e')⟩;left;cases r0.pure
         ·exact⟨_,rfl⟩
         ·exact⟨[],rfl⟩
        ·cases hr
   all_goals (first|(cases hr;done)|(rename_i hx;cases hx;done)|(rename_i hx _;cases hx;done))
 ·split at hr
  all_goals (first|(cases hr;done)|(rename_i hx;cases hx;done)|(rename_i hx _;cases hx;done))
theorem aek {ρ ρ1:Env}:∀{l:List (Nat×Bool)},(∀g,g∈l→ρ1.r g.1=ρ.r g.1)→holds l ρ1=holds l ρ
 |[],_=>rfl
 |x::l,h=>by
  have ih:=aek (l:=l) fun y hy=>h y (fy _ hy);unfold holds at ih ⊢;simp only[tJ];rw[ih,h x (fK ..)]
theorem acV:∀(l:List Gh) {S:St} {r:St×List PI},nS C l S=some r→∀t,t∉r.2.flatMap PI.modR
 |[],S,r,hr=>by simp only[nS,bj] at hr;subst hr;simp
 |g::l,S,r,hr=>by
  simp only[nS,aA,aC] at hr;obtain⟨q,hq,q2,fO,rfl⟩:=hr;have ih:=acV l fO;have hg:∀t,t∉q.2.flatMap PI.modR:=by
   cases g with
   |fz j=>simp only[Gh.run,bj] at hq;subst hq;simp
   |fbox b=>
    simp only[Gh.run,Fb] at hq;split at hq
    case h_2=>cases hq
    simp only[aA] at hq;obtain⟨x,hx,hq⟩:=hq;rename_i ag shs eo;cases ag<;>simp only[cond_true,cond_false] at hq
    ·split at hq
     ·cases hq;simp[PI.modR]
     ·cases hq
    ·cases hq;simp[PI.modR]
   |rereg t j=>
    simp only[Gh.run,Ie] at hq;split at hq
    ·rename_i j' ver es;cases hb:(Nat.beq ver (S.ver j')&&pA (S.o j')&& !Nat.beq j' j)<;>simp only[hb,cond_true,cond_false] at hq<;>cases hq<;>simp[PI.modR]
    ·cases hq;simp
   |recell b i j=>cases hq
   |home b i j T=>
    simp only[Gh.run,FV] at hq;split at hq
    ·split at hq
     ·cases hb:(!Nat.beq b j)<;>simp only[hb,cond_true,cond_false] at hq<;>cases hq<;>simp[PI.modR]
     ·cases hq;simp
    ·cases hq;simp
  intro t hm;rw[List.flatMap_append,dN] at hm;exact hm.elim (hg t) (ih t)
theorem amX (h:Good C w0 σ0 S ρ A a w)(hC:CtxOK C σ0)(aZ:dL C)(hΦ:dt C Φ){ops:Array Oper}{o:Oper}(ht:∀d,o.dst=some d→¬A d∧d<a.tmps.size)
 (hj:∀j want t,o.guard=some (j,want)→(ops[j]?).bind (·.dst)=some t→A t) {r:St×List PI} (hr:KX C S ops o=some r) {ρ':Env} (ao:PI.runs Φ r.2 ρ=some ρ')
 {K:Act→World→Prop} {Q:Exit→Act→World→Prop} (hK:∀a' w',Good C w0 σ0 r.1 ρ' (fun u=>A u∨o.dst=some u) a' w'→a'.tmps.size=a.tmps.size→K a' w'):
 if Region.wanted o (yielded ops a.tmps) then o.wp C.P a w K Q else K (a.put o.dst undef) w:=by
 simp only[KX,aA] at hr;obtain⟨gs,eC,r1,lV,r2,pq,r3,yN,hr⟩:=hr;have Cc:=ac1 h eC hj;rw[ac2 h eC];cases hc:Lj gs o.dst r2.2<;>simp only[hc,cond_true,cond_false] at hr
 ·cases hr
 cases hr;simp only[uY,aA] at ao;obtain⟨ρ2,⟨ρ1,hρ1,hρ2⟩,hρ3⟩:=ao;have h1:=RQ _ h lV hρ1;have cJ:=h1;obtain⟨σ1,eh,aL,i1⟩:=cJ;have LN:holds gs ρ1=holds gs ρ:=by
  cases gs with
  |nil=>rfl
  |cons g bP=>
   have hb:=(PI.runs_but hρ1).r
   have:∀x,x∈(g::bP)→ρ1.r x.1=ρ.r x.1:=fun x hm=>hb x.1 (by
        intro dc;exact acV _ lV x.1 dc)
   exact aek this
 cases hh:holds gs ρ with
 |true=>
  simp only[if_true];rw[hh] at LN;refine am9 i1 hC aZ hΦ ht Cc LN pq ρ2 hρ2 K Q (fun a' w' lh aP=>?_);exact hK a' w' (RQ (r:=r3) _ lh yN hρ3) aP
 |false=>
  simp only[Ae,if_false];rw[hh] at LN;cases gs with
  |nil=>simp[holds] at hh
  |cons g bP=>
   obtain⟨dst,S2,s,hd,hS,BZ,hns,n1,n2,n3⟩:=am7 pq;obtain⟨t1,t2⟩:=ht dst hd;have qY:post C r2.1 o=[]:=by
        unfold post;split
        ·rename_i x t e _;exact absurd e (n1 x)
        ·rename_i T t e _;exact absurd e (n2 T)
        ·rename_i T x v e;exact absurd e (n3 T x v)
        ·rfl
   rw[qY] at yN;simp only[nS,bj] at yN;subst yN;have:=uX hρ3;subst this;obtain⟨σ2,jx,i2⟩:∃σ2 jx,Inv C S2 ρ1 σ2 jx aL w0 σ0 A a w:=by
        rcases BZ with⟨js,rfl⟩|⟨j,rfl⟩
        ·obtain⟨σ2,jx,_,i2⟩:=Inv.fzs js i1;exact⟨σ2,jx,i2⟩
        ·exact⟨σ1,eh,i1.kill j⟩
   have FW:=i2.passed t1 t2 Cc LN (s:=s) hns (ρ'.r dst);have hρe:ρ1.setR dst (ρ'.r dst)=ρ':=by
        have hb:=PI.runs_but hρ2;simp only[Lj,hd] at hc;unfold ahY at hc;rw[da] at hc
        have e1:∀t,t≠dst→ρ'.r t=ρ1.r t:=fun t ay=>hb.r t (fun hm=>by
         obtain⟨p,hp,vL⟩:=xA.1 hm;have:=hc p hp;simp only[aw] at this;have:=da.1 this.1 t vL;exact ay (aD this).symm)
        have e2:∀t,ρ'.o t=ρ1.o t:=fun t=>hb.o t (fun hm=>by
         obtain⟨p,hp,vL⟩:=xA.1 hm;have:=hc p hp;simp only[aw] at this;have h9:=aa0.1 this.2;rw[h9] at vL;cases vL)
        have r1:cd ρ1.r dst (ρ'.r dst)=ρ'.r:=by
         funext t;rw[fJ];split
         ·rename_i e;subst e;rfl
         ·rename_i ay;exact(e1 t ay).symm
        have r2:ρ1.o=ρ'.o:=funext fun t=>(e2 t).symm;cases ρ' with|mk a b=>simp only[Env.setR] at r1 r2 ⊢;rw[r1,r2]
   rw[hρe] at FW;have lf:(fun u=>A u∨o.dst=some u)=(fun u=>A u∨u=dst):=by funext u;rw[hd];simp[eq_comm]
   rw[lf] at hK;rw[hd];refine hK _ _ ?_ (size_put _ _ _);simp only;rw[hS];exact⟨_,_,_,FW⟩
theorem amZ (h:Good C w0 σ0 S ρ A a w)(hC:CtxOK C σ0)(aZ:dL C)(hΦ:dt C Φ){ops:Array Oper}{o:Oper}(ht:∀d,o.dst=some d→¬A d∧d<a.tmps.size)
 (hj:∀j want t,o.guard=some (j,want)→(ops[j]?).bind (·.dst)=some t→A t) {r:St×List PI} (hr:EH C S ops o=some r) {ρ':Env} (ao:PI.runs Φ r.2 ρ=some ρ')
 {K:Act→World→Prop} {Q:Exit→Act→World→Prop} (hK:∀a' w',Good C w0 σ0 r.1 ρ' (fun u=>A u∨o.dst=some u) a' w'→a'.tmps.size=a.tmps.size→K a' w'):
 if Region.wanted o (yielded ops a.tmps) then o.wp C.P a w K Q else K (a.put o.dst undef) w:=by
 unfold EH at hr;split at hr
 ·rename_i q hq;cases hr;exact amX h hC aZ hΦ ht hj hq ao hK
 ·cases hr;simp[PI.runs,PI.run,Iu,PE.ev,D.b_bool] at ao
end
end Cx
