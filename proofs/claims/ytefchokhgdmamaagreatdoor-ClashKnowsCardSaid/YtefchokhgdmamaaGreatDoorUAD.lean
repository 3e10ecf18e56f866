/-
  Calls.
-/
import Derived.Test.YtefchokhgdmamaaGreatDoorUAC
set_option linter.unusedSimpArgs false
set_option linter.unusedVariables false
noncomputable section
namespace Cx
open Go Go.RowKit
open Classical in
def Im.noM (σ:Im):Im:=⟨σ.c,fun k=>if σ.m k=some da then none else σ.m k⟩
theorem Rep.noM {cap:Nat→Option CSig}{σ:Im}{t:Ty}{v:Value}{d:D}(h:Rep cap σ t v d):Rep cap σ.noM t v d:=by
 induction h with
 |int k n h1 h2=>exact .int k n h1 h2
 |bool b=>exact .bool b
 |str s h=>exact .str s h
 |agg ts vs ds h1 h2 _ ho ih=>exact .agg ts vs ds h1 h2 ih ho
 |tup ts vs ds h1 h2 _ ih=>exact .tup ts vs ds h1 h2 ih
 |nil e=>exact .nil e
 |emp e a=>exact .emp e a
 |nils e=>exact .nils e
 |nsl0 e=>exact .nsl0 e
 |nsl e k o n c xs _ hx ih=>exact .nsl e k o n c xs ih hx
 |slice e k o n c xs vs hn hc hm _ hv ih=>exact .slice e k o n c xs vs hn hc hm ih hv
 |mapnil kt et=>exact .mapnil kt et
 |map kt et r jU es hm hl hx hk _ kD DG=>
  refine .map kt et r jU es ?_ hl hx kD DG;have ay:σ.m r≠some da:=fun e=>by rw[hm] at e;cases e;exact DU hl hk rfl
  simp only[Im.noM,if_neg ay,hm]
 |ref t k o v d _ hv ih=>exact .ref t k o v d ih hv
 |fn f cs vs ds hc h1 h2 _ ih=>exact .fn f cs vs ds hc h1 h2 ih
 |fnnil aa r=>exact .fnnil aa r
def Im.plus (σ τ:Im):Im:=⟨fun k o=>(σ.c k o).or (τ.c k o),fun k=>(σ.m k).or (τ.m k)⟩
theorem Im.plus_le1 (σ τ:Im):σ.le (σ.plus τ):=⟨fun k o v h=>by simp[Im.plus,h],fun k v h=>by simp[Im.plus,h]⟩
theorem rp.det {w:World}{k:Nat}{x y:List (Value×Value)}(h:rp w k x)(g:rp w k y):x=y:=by
 rcases h with⟨_,a,c,h1,h2⟩|⟨h1,h2⟩<;>rcases g with⟨_,a',c',g1,g2⟩|⟨g1,g2⟩
 ·rw[h1] at g1;cases g1;rw[←h2,←g2]
 ·rw[h1] at g2;cases g2
 ·rw[h2] at g1;cases g1
 ·rw[h1,g1]
theorem Im.plus_le2 {σ τ:Im}{w:World}(h:σ.ok w)(g:τ.ok w):τ.le (σ.plus τ):=by
 refine⟨fun k o v e=>?_,fun k v e=>?_⟩
 ·show(σ.c k o).or (τ.c k o)=some v;cases hc:σ.c k o with
  |none=>simpa using e
  |some u=>have:=(h.c k o u hc).symm.trans (g.c k o v e);simpa using this
 ·show(σ.m k).or (τ.m k)=some v;cases hc:σ.m k with
  |none=>simpa using e
  |some u=>simpa using(h.m k u hc).det (g.m k v e)
theorem Im.plus_ok {σ τ:Im}{w:World}(h:σ.ok w)(g:τ.ok w):(σ.plus τ).ok w:=by
 refine⟨fun k o v e=>?_,fun k v e=>?_⟩
 ·change (σ.c k o).or (τ.c k o)=some v at e;cases hc:σ.c k o with
  |none=>rw[hc] at e;exact g.c k o v (by simpa using e)
  |some u=>rw[hc] at e;simp at e;subst e;exact h.c k o u hc
 ·change (σ.m k).or (τ.m k)=some v at e;cases hc:σ.m k with
  |none=>rw[hc] at e;exact g.m k v (by simpa using e)
  |some u=>rw[hc] at e;simp at e;subst e;exact h.m k u hc
theorem Im.plus_c {σ τ:Im}{k o:Nat}{v:Value}(h:(σ.plus τ).c k o=some v):σ.c k o=some v∨τ.c k o=some v:=by
 change (σ.c k o).or (τ.c k o)=some v at h;cases hc:σ.c k o with
 |none=>rw[hc] at h;exact .inr (by simpa using h)
 |some u=>rw[hc] at h;exact .inl (by simpa using h)
theorem Im.plus_m {σ τ:Im}{k:Nat}{v:List (Value×Value)}(h:(σ.plus τ).m k=some v):σ.m k=some v∨τ.m k=some v:=by
 change (σ.m k).or (τ.m k)=some v at h;cases hc:σ.m k with
 |none=>rw[hc] at h;exact .inr (by simpa using h)
 |some u=>rw[hc] at h;exact .inl (by simpa using h)
def Ty.pureT:Ty→Bool
 |.int _|.bool|.str|.nils _=>true
 |_=>false
def Ty.pure:Ty→Bool
 |.tup ts=>ts.all Ty.pureT
 |.agg ts=>ts.all Ty.pureT
 |t=>Ty.pureT t
theorem Rep.pureT {cap:Nat→Option CSig}{σ τ:Im}{t:Ty}{v:Value}{d:D}(h:Rep cap σ t v d)(hp:t.pureT=true):Rep cap τ t v d:=by
 cases h<;>simp[Ty.pureT] at hp<;>constructor<;>assumption
theorem Rep.pure {cap:Nat→Option CSig}{σ τ:Im}{t:Ty}{v:Value}{d:D}(h:Rep cap σ t v d)(hp:t.pure=true):Rep cap τ t v d:=by
 cases h with
 |agg ts vs ds h1 h2 h ho=>exact .agg ts vs ds h1 h2 (fun i t hi=>(h i t hi).pureT (bz.1 hp t (kl hi))) ho
 |tup ts vs ds h1 h2 h=>exact .tup ts vs ds h1 h2 (fun i t hi=>(h i t hi).pureT (bz.1 hp t (kl hi)))
 |int k n h1 h2=>exact .int k n h1 h2
 |bool b=>exact .bool b
 |str s h=>exact .str s h
 |nils e=>exact .nils e
 |_=>simp[Ty.pure,Ty.pureT] at hp
def Ul (C:Ctx)(σ':Im)(B:Nat)(w':World)(ow:Nat→Option Nat)(i:Nat):RC→Value→D→Prop
 |.dat t,v,d=>t.one=true∧Rep C.cap σ' t v d
 |.row T e,v,d=>∃cells xs,d=.list xs∧w'.ownsRow B T e.size v xs.length cells∧eR C.cap σ' e cells xs∧∀k,v.ownBlock=some k→ow k=some i
def mz (C:Ctx)(s:Sig)(σ':Im)(w w':World)(v:Value)(d:D):Prop:=
 match s.mode with
 |.dat=>Rep C.cap σ' s.res v d
 |.it _=>True
 |.ob ..=>True
 |.rows l=>∃(vs:List Value) (ds:List D) (ow:Nat→Option Nat),v=.agg vs.toArray∧d=.agg ds∧vs.length=l.length∧ds.length=l.length∧(∀(i:Nat) (c:RC),l[i]?=some c→Ul C σ' w.heap.size w' ow i c (vs.getD i undef) (ds.getD i .none))∧
   ∀k i,ow k=some i→w.heap.size≤k∧k<w'.heap.size∧(∀o,σ'.c k o=none)∧σ'.m k=none
 |.row T e=>∃cells xs,d=.list xs∧w'.ownsRow w.heap.size T e.size v xs.length cells∧eR C.cap σ' e cells xs∧∀k,v.ownBlock=some k→(∀o,σ'.c k o=none)∧σ'.m k=none
def qF (C:Ctx)(σ:Im)(ts:List Ty)(args:List Value)(ds:List D):Prop:=
 args.length=ts.length∧ds.length=ts.length∧∀(i:Nat) (t:Ty),ts[i]?=some t→Rep C.cap σ t (args.getD i undef) (ds.getD i .none)
def gX (C:Ctx)(f:Nat)(s:Sig)(ds:List D)(d:D):Prop:=
 ∀(σ:Im) (w:World) (args:Array Value),σ.ok w→CtxOK C σ→qF C σ s.args args.toList ds→
  Calls C.P f args w fun e w'=>∃v σ',e=.returned v∧σ.le σ'∧σ'.ok w'∧Below w.heap.size w w'∧
   (∀k o x,σ'.c k o=some x→σ.c k o=some x∨w.heap.size≤k)∧(∀k x,σ'.m k=some x→σ.m k=some x∨w.heap.size≤k)∧mz C s σ' w w' v d
def eN:List (Nat×Ob)→Nat→Ob
 |[],_=>.dead
 |x::l,j=>bif Nat.beq x.1 j then x.2 else eN l j
def nM:List (Nat×Ob)→List D→Nat→D
 |x::l,d::ds,j=>bif Nat.beq x.1 j then d else nM l ds j
 |_,_,_=>.none
def gj (shs:List Sh)(obs:List (Nat×Ob)):St:=⟨fun t=>shs.getD t .none,fun j=>eN obs j,fun _=>0⟩
def mX (obs:List (Nat×Ob))(ds os:List D):Env:=⟨fun t=>ds.getD t .none,fun j=>nM obs os j⟩
def nJ:Sh→Bool
 |.dat _=>true
 |_=>false
def qj:Mode→Bool
 |.ob ..=>true
 |_=>false
def tl:Sh→Bool
 |.none|.dat _|.obj ..|.ptr ..|.fclo ..=>true
 |_=>false
def Jt:Ob→Bool
 |.row ..|.mp ..=>true
 |.box _ shs=>shs.all tl
 |_=>false
def xn (shs:List Sh)(obs:List (Nat×Ob)):Bool:=shs.all tl&&obs.all fun x=>Jt x.2
def I5:List Sh→List (Nat×Ob)→Option (TypeId×Ty×List Ty)
 |.obj 0 0::l,[(0,.row T e),(1,.tr)]=>(Vi l).map fun ts=>(T,e,ts)
 |_,_=>none
def Be (C:Ctx)(f:Nat)(T:TypeId)(e:Ty)(ts:List Ty)(ds:List D)(d:D):Prop:=
 ∀(N:Nat) (σ:Im) (w:World) (v:Value) (args:List Value) (xs:List D) (cells:List Value) (ds':List D),ds=.list xs::ds'→σ.ok w→CtxOK C σ→N≤w.heap.size→w.ownsRow N T e.size v xs.length cells→eR C.cap σ e cells xs→
  (∀k,v.ownBlock=some k→k<w.heap.size∧(∀o,σ.c k o=none)∧σ.m k=none)→qF C σ ts args ds'→
  Calls C.P f (v::args).toArray w fun x w'=>∃v' kQ dB,x=.returned v'∧d=.list kQ∧Below N w w'∧(∀k,k<w.heap.size→v.ownBlock≠some k→w'.heap[k]?=w.heap[k]?)∧
   w'.ownsRow N T e.size v' kQ.length dB∧eR C.cap σ e dB kQ∧∀k,v'.ownBlock=some k→(v.ownBlock=some k∨w.heap.size≤k)∧k<w'.heap.size
def tM (C:Ctx)(f:Nat)(shs:List Sh)(obs:List (Nat×Ob))(res:Ty)(ds:List D)(d:D):Prop:=
 ∀(N:Nat) (σ:Im) (own:Nat→Option Nat) (hv:Nat→Value) (w:World) (args:Array Value) (cx:Nat→Prop),xn shs obs=true→σ.ok w→CtxOK C σ→(∀k,σ.m k≠some da)→N≤w.heap.size→args.size=shs.length→
  (∀k j,own k=some j→N≤k∧k<w.heap.size∧(∀o,σ.c k o=none)∧σ.m k=none)→
  (∀k,cx k→k<w.heap.size∧own k=none∧(∀o,σ.c k o=none)∧σ.m k=none)→
  (∀t,aE C (gj shs obs) (mX obs ds (ds.drop shs.length)) σ hv (shs.getD t .none) (args.getD t undef) (ds.getD t .none))→
  (∀j,cC C (gj shs obs) (mX obs ds (ds.drop shs.length)) σ own hv w N j (eN obs j))→
  Calls C.P f args w fun e w'=>∃v σ' own' hv' dr os,e=.returned v∧d=.tup (dr::os)∧os.length=obs.length∧σ.le σ'∧σ'.ok w'∧Below 0 w w'∧
   (∀k,k<w.heap.size→own k=none→w'.heap[k]?=w.heap[k]?)∧
   (∀k o x,σ'.c k o=some x→(σ.c k o=some x∨N≤k)∧¬cx k)∧(∀k x,σ'.m k=some x→(σ.m k=some x∨N≤k)∧¬cx k)∧(∀k,σ'.m k=some da→N≤k→k<w.heap.size→own k≠none)∧
   (∀k j,own' k=some j→N≤k∧k<w'.heap.size∧(∀o,σ'.c k o=none)∧σ'.m k=none∧(k<w.heap.size→own k≠none))∧
   (∀(t:Nat) (sh:Sh),shs[t]?=some sh→nJ sh=false→aE C (gj shs obs) (mX obs ds os) σ' hv' sh (args.getD t undef) (ds.getD t .none))∧
   (∀j,cC C (gj shs obs) (mX obs ds os) σ' own' hv' w' N j (eN obs j))∧Rep C.cap σ' res v dr
theorem aE.ctx {C C':Ctx}(fg:C'.cap=C.cap){S:St}{ρ:Env}{σ:Im}{hv:Nat→Value}{s:Sh}(hp:tl s=true){v:Value}{d:D}(h:aE C S ρ σ hv s v d):aE C' S ρ σ hv s v d:=by
 cases s with
 |dat t=>show Rep C'.cap σ t v d;rw[fg];exact h
 |opt gs s=>cases hp
 |eptr j ver a b=>cases hp
 |yv=>cases hp
 |agg l=>cases hp
 |_=>exact h
theorem cC.ctx {C C':Ctx}(fg:C'.cap=C.cap){S:St}{ρ:Env}{σ:Im}{own:Nat→Option Nat}{hv:Nat→Value}{w:World}{N j:Nat}{ob:Ob}(hp:Jt ob=true∨ob=.dead)(h:cC C S ρ σ own hv w N j ob):cC C' S ρ σ own hv w N j ob:=by
 rcases hp with hp|rfl
 ·cases ob with
  |row T e=>obtain⟨cells,xs,h1,h2,h3,h4⟩:=h;exact⟨cells,xs,h1,h2,by rw[fg];exact h3,h4⟩
  |mp kt et=>obtain⟨k,arr,clock,es,h1,h2,h3,h4,h5,h6,h7⟩:=h;exact⟨k,arr,clock,es,h1,h2,h3,h4,h5,h6,by rw[fg];exact h7⟩
  |box ag shs=>
   obtain⟨k,cs,T,ds,h1,h2,h3,h4,h5,h6,h7⟩:=h;exact⟨k,cs,T,ds,h1,h2,h3,h4,h5,h6,fun i s hs=>⟨(h7 i s hs).1,(h7 i s hs).2.ctx fg (bz.1 hp s (kl hs))⟩⟩
  |_=>cases hp
 ·trivial
theorem Yn {obs:List (Nat×Ob)}(h:(obs.all fun x=>Jt x.2)=true)(j:Nat):Jt (eN obs j)=true∨eN obs j=.dead:=by
 induction obs with
 |nil=>exact .inr rfl
 |cons x l ih=>
  simp only[qJ,aj] at h;simp only[eN];cases hb:Nat.beq x.1 j
  ·exact ih h.2
  ·exact .inl h.1
theorem tM.ctx {C C':Ctx}{f:Nat}{shs:List Sh}{obs:List (Nat×Ob)}{res:Ty}{ds:List D}{d:D}(h:tM C f shs obs res ds d)(hP:C'.P=C.P)(fg:C'.cap=C.cap)(uy:C'.glob=C.glob):tM C' f shs obs res ds d:=by
 intro N σ own hv w args cx hp az hC bj hN aC aZ lj h1 h2;have aT:=hp;simp only[xn,aj] at aT;have sR:∀t s,shs[t]?=some s→tl s=true:=fun t s hs=>bz.1 aT.1 s (kl hs);have hC':CtxOK C σ:=⟨fun g x hx=>by have:=hC.glob g x (by rw[uy];exact hx);rwa [fg] at this⟩
 have:=h N σ own hv w args cx hp az hC' bj hN aC aZ lj (fun t=>by
  cases hs:shs[t]? with
  |none=>rw[aH,hs];trivial
  |some s=>have:=h1 t;rw[aH,hs] at this ⊢;exact this.ctx fg.symm (sR t s hs)) (fun j=>(h2 j).ctx fg.symm (Yn aT.2 j))
 rw[hP];refine this.mono fun e w' hh=>?_;obtain⟨v,σ',own',hv',dr,os,g1,g2,g3,g4,g5,g6,g7,g8,g9,g10,g11,g12,g13,g14⟩:=hh;exact⟨v,σ',own',hv',dr,os,g1,g2,g3,g4,g5,g6,g7,g8,g9,g10,g11,fun t sh hs hd=>(g12 t sh hs hd).ctx fg (sR t sh hs),fun j=>(g13 j).ctx fg (Yn aT.2 j),by rw[fg];exact g14⟩
theorem eR.cap {c c':Nat→Option CSig}(hc:c'=c){σ:Im}{e:Ty}{cells:List Value}{xs:List D}(h:eR c σ e cells xs):eR c' σ e cells xs:=hc▸h
theorem Be.ctx {C C':Ctx}{f:Nat}{T:TypeId}{e:Ty}{ts:List Ty}{ds:List D}{d:D}(h:Be C f T e ts ds d)(hP:C'.P=C.P)(fg:C'.cap=C.cap)(uy:C'.glob=C.glob):Be C' f T e ts ds d:=by
 intro N σ w v args xs cells ds' h1 h2 h3 h4 h5 h6 h7 h8;rw[hP];refine(h N σ w v args xs cells ds' h1 h2 ⟨fun g x hx=>by have:=h3.glob g x (by rw[uy];exact hx);rwa [fg] at this⟩ h4 h5 (h6.cap fg.symm) h7 ⟨h8.1,h8.2.1,fun i t hi=>by have:=h8.2.2 i t hi;rwa [fg] at this⟩).mono fun x w' hh=>?_;obtain⟨v',kQ,dB,g1,g2,g3,g4,g5,g6,g7⟩:=hh;exact⟨v',kQ,dB,g1,g2,g3,g4,g5,g6.cap fg,g7⟩
def gY (C:Ctx)(f:Nat)(shs:List Sh)(obs:List (Nat×Ob))(res:Ty)(ds:List D)(d:D):Prop:=
 match I5 shs obs with
 |some m=>Be C f m.1 m.2.1 m.2.2 ds d
 |none=>tM C f shs obs res ds d
theorem gY.ctx {C C':Ctx}{f:Nat}{shs:List Sh}{obs:List (Nat×Ob)}{res:Ty}{ds:List D}{d:D}(h:gY C f shs obs res ds d)(hP:C'.P=C.P)(fg:C'.cap=C.cap)(uy:C'.glob=C.glob):gY C' f shs obs res ds d:=by
 unfold gY at h ⊢;split at h
 ·exact Be.ctx h hP fg uy
 ·exact tM.ctx h hP fg uy
theorem YR {shs:List Sh}{obs:List (Nat×Ob)}(h:∀x,x∈obs→x.2≠.tr):I5 shs obs=none:=by
 unfold I5;split
 ·exact absurd rfl (h (1,.tr) (by simp))
 ·rfl
theorem gY.of {C:Ctx}{f:Nat}{shs:List Sh}{obs:List (Nat×Ob)}{res:Ty}{ds:List D}{d:D}(ht:∀x,x∈obs→x.2≠.tr)(h:tM C f shs obs res ds d):gY C f shs obs res ds d:=by
 unfold gY;rw[YR ht];exact h
theorem gY.plain {C:Ctx}{f:Nat}{shs:List Sh}{obs:List (Nat×Ob)}{res:Ty}{ds:List D}{d:D}(hp:xn shs obs=true)(h:gY C f shs obs res ds d):tM C f shs obs res ds d:=by
 unfold gY at h;rw[YR fun x hx e=>?_] at h
 ·exact h
 ·simp only[xn,aj] at hp;have:=bz.1 hp.2 x hx;rw[e] at this;cases this
def dQ (C:Ctx)(Φ:aV):Prop:=∀f ds d,Φ f ds=some d→∀s,C.sig f=some s→(qj s.mode=false→gX C f s ds d)∧∀shs obs,s.mode=.ob shs obs→gY C f shs obs s.res ds d
def mS:List Ty→Ty→Option (List Ty)
 |[.fn ys .bool],.tup []=>some ys
 |_,_=>none
def eD (C:Ctx):Prop:=(∀f cs,C.cap f=some cs→mS cs.args cs.res=none→C.sig f=some ⟨cs.args++cs.caps,cs.res,.dat⟩)∧∀f s,C.sig f=some s→∃fn,C.P.funcs[f]?=some fn∧fn.body.isSome=true∧(fn.name== "runtime.NumGoroutine")=false
def vX (S:St):List AgC→List Nat
 |[]=>[]
 |.obj j ver::l=>bif Nat.beq ver (S.ver j)&&lz (S.o j) then j::vX S l else vX S l
 |_::l=>vX S l
def bR (S:St)(gs:List (Nat×Bool)):List Operand→List Nat
 |[]=>[]
 |x::xs=>
  match fp S gs x with
  |.obj j ver=>bif Nat.beq ver (S.ver j)&&lz (S.o j) then j::bR S gs xs else bR S gs xs
  |.agg l=>vX S l++bR S gs xs
  |_=>bR S gs xs
def jE (gs:List (Nat×Bool))(s:Sh):Sh:=
 match gs with
 |[]=>s
 |_=>.opt gs s
def St.fzs (S:St)(js:List Nat):St:=js.foldl St.fz S
def mj:List RC→List Ty
 |[]=>[]
 |.dat t::l=>t::mj l
 |.row _ e::l=>.slice e.rol::mj l
def BT (fr:List Nat)(dst:Nat)(s:Sig):Option Sig:=
 match s.mode with
 |.rows l=>bif !(fr.any (Nat.beq (2000000+dst)))&&Ty.beq s.res (.agg (mj l)) then some {s with mode:=.dat} else some s
 |_=>some s
theorem JO:∀{l:List RC} {i:Nat} {t:Ty},(mj l)[i]?=some t→(l[i]?=some (.dat t))∨∃T e,l[i]?=some (.row T e)∧t=.slice e.rol
 |[],i,t,h=>by simp[mj] at h
 |.dat u::l,0,t,h=>by simp[mj] at h;subst h;exact .inl rfl
 |.row T e::l,0,t,h=>by simp[mj] at h;exact .inr ⟨T,e,rfl,h.symm⟩
 |.dat u::l,i+1,t,h=>by simpa using JO (l:=l) (i:=i) (by simpa [mj] using h)
 |.row T e::l,i+1,t,h=>by simpa using JO (l:=l) (i:=i) (by simpa [mj] using h)
theorem Qs:∀(l:List RC),(mj l).length=l.length
 |[]=>rfl
 |.dat _::l=>by simp[mj,Qs l]
 |.row ..::l=>by simp[mj,Qs l]
theorem gX.asDat {C:Ctx}{f:Nat}{s:Sig}{ds:List D}{d:D}{l:List RC}(hm:s.mode=.rows l)(hr:s.res=.agg (mj l))(h:gX C f s ds d):gX C f {s with mode:=.dat} ds d:=by
 intro σ w args h1 h2 h3;refine(h σ w args h1 h2 h3).mono fun e w' hh=>?_;obtain⟨v,σ',rfl,hle,az,hb,dp,dq,eZ⟩:=hh;simp only[mz,hm] at eZ;obtain⟨vs,ds,ow,rfl,rfl,l1,l2,ej,sQ⟩:=eZ
 have hex:∀i,∃cs:List Value,∀T e,l[i]?=some (.row T e)→∃xs,ds.getD i .none=.list xs∧w'.ownsRow w.heap.size T e.size (vs.getD i undef) xs.length cs∧eR C.cap σ' e cs xs∧∀k,(vs.getD i undef).ownBlock=some k→ow k=some i:=fun i=>by
  cases hl:l[i]? with
  |none=>exact⟨[],fun _ _ h=>by cases h⟩
  |some c=>
   cases c with
   |dat t=>exact⟨[],fun _ _ h=>by cases h⟩
   |row T e=>
    obtain⟨cs,xs,g1,g2,g3,g4⟩:=ej i _ hl;exact⟨cs,fun T' e' h=>by cases h;exact⟨xs,g1,g2,g3,g4⟩⟩
 let cs:Nat→List Value:=fun i=>Classical.choose (hex i)
 have dL:∀i T e,l[i]?=some (.row T e)→∃xs,ds.getD i .none=.list xs∧w'.ownsRow w.heap.size T e.size (vs.getD i undef) xs.length (cs i)∧eR C.cap σ' e (cs i) xs∧∀k,(vs.getD i undef).ownBlock=some k→ow k=some i:=fun i=>TU (hex i)
 let zY:Nat→Nat→Bool:=fun i k=>decide ((vs.getD i undef).ownBlock=some k)&&(match l[i]? with|some (.row ..)=>true|_=>false)
 let τ:Im:={c:=fun k o=>match ow k with|some i=>(bif zY i k then(cs i)[o]? else none)|none=>σ'.c k o,m:=σ'.m}
 have j8:σ'.le τ:=by
  refine⟨fun k o x hx=>?_,fun k x hx=>hx⟩;cases hk:ow k with
  |none=>simp only[τ,hk];exact hx
  |some i=>have:=(sQ k i hk).2.2.1 o;rw[this] at hx;cases hx
 have fG:∀i k,zY i k=true→∃T e,l[i]?=some (.row T e)∧(vs.getD i undef).ownBlock=some k:=fun i k hk=>by
  simp only[zY,aj,decide_eq_true_eq] at hk;obtain⟨bQ,bx⟩:=hk;split at bx
  ·rename_i T e hl;exact⟨T,e,hl,bQ⟩
  ·cases bx
 refine⟨_,τ,rfl,hle.trans j8,⟨fun k o x hx=>?_,az.m⟩,hb,fun k o x hx=>?_,dq,?_⟩
 ·simp only[τ] at hx;split at hx
  ·rename_i i hi;cases hr:zY i k with
   |false=>rw[hr] at hx;cases hx
   |true=>
    rw[hr,cond_true] at hx;obtain⟨T,e,hl,uo⟩:=fG i k hr;obtain⟨xs,g1,g2,g3,g4⟩:=dL i T e hl;have:=g2.cells uo o x hx;rw[sn] at this;simpa using this
  ·exact az.c k o x hx
 ·simp only[τ] at hx;split at hx
  ·rename_i i hi;exact .inr (sQ k i hi).1
  ·exact dp k o x hx
 ·simp only[mz,hr];have hlen:=Qs l;refine .agg (mj l) vs ds (by omega) (by omega) (fun i t hi=>?_) (fun i t hi=>?_)
  ·rcases JO hi with hl|⟨T,e,hl,rfl⟩
   ·exact(ej i _ hl).2.mono j8
   ·obtain⟨xs,g1,g2,⟨us,g3,g4⟩,g5⟩:=dL i T e hl;rw[g1];rcases g2.2 with⟨e1,e2⟩|⟨g,cap,cur,e1,e2,e3,e4,e5,e6,e7⟩
    ·rw[e1];have:xs=[]:=KR e2;subst this;exact .nil _
    ·rw[e1];have uo:(vs.getD i undef).ownBlock=some g:=by rw[e1];rfl
     refine .slice e.rol g 0 xs.length cap xs us rfl e4 e5 (fun i x hx=>((g3 i x hx).mono j8).unf_rol) (fun j m u hj hu=>?_);rw[Ty.rol_size];have hR:zY i g=true:=by simp only[zY,uo,hl];simp
     simp only[τ,g5 g uo,hR,cond_true,fq];exact g4 j m u hj hu
  ·rcases JO hi with hl|⟨T,e,hl,rfl⟩
   ·exact(ej i _ hl).1
   ·rfl
theorem aeW {C:Ctx}{fr:List Nat}{dst f:Nat}{s s':Sig}{ds:List D}{d:D}(hs:BT fr dst s=some s')(hm:s'.mode=.dat)(h:qj s.mode=false→gX C f s ds d):gX C f s' ds d:=by
 unfold BT at hs;split at hs
 ·rename_i l hl;cases hb:(!(fr.any (Nat.beq (2000000+dst)))&&Ty.beq s.res (.agg (mj l)))<;>simp only[hb,cond_true,cond_false] at hs
  ·cases hs;rw[hl] at hm;cases hm
  ·cases hs;simp only[aj] at hb;exact gX.asDat hl (Ty.beq_eq _ _ hb.2) (h (by rw[hl];rfl))
 ·cases hs;exact h (by rw[hm];rfl)
def pD (C:Ctx)(S:St)(gs:List (Nat×Bool))(dst:Nat)(f:Nat)(args:List Operand):Option (St×Sh×List PI):=
 ((C.sig f).bind (BT C.fr dst)).bind fun s=>
   match s.mode with
   |.dat=>
    (kN C (S.fzs (bR S gs args)) gs args).bind fun u=>
      bif Ty.subs u.1 s.args then some (bif s.res.pure then S else S.fzs (bR S gs args),.dat s.res,[.call gs dst f u.2]) else Option.none
   |_=>Option.none
def B1 (C:Ctx)(S:St)(dst:Nat)(f:Nat)(args:List Operand):kS:=
 (C.sig f).bind fun s=>
    match s.mode with
    |.row T e=>
     (kN C (S.fzs (bR S [] args)) [] args).bind fun u=>
       bif Ty.subs u.1 s.args then some (mkObj (bif e.pure then S else S.fzs (bR S [] args)) dst (.row T e),[.call [] dst f u.2,.setO dst (.r dst),.setR dst (.con .none)]) else Option.none
    |_=>Option.none
def jq (dst:Nat)(l:List RC)(j:Nat):Option (Nat×TypeId×Ty):=
 bif Nat.beq (j%4096) dst&&Nat.ble 4096 j then(match l[j/4096-1]? with|some (.row T e)=>some (j/4096-1,T,e)|_=>Option.none) else Option.none
theorem aa7 {dst i:Nat}{l:List RC}{T:TypeId}{e:Ty}(hd:dst<4096)(h:l[i]?=some (.row T e)):jq dst l (gO dst i)=some (i,T,e):=by
 unfold jq gO;have e1:(4096*(i+1)+dst)%4096=dst:=by omega
 have e2:(4096*(i+1)+dst)/4096-1=i:=by omega
 have e3:Nat.ble 4096 (4096*(i+1)+dst)=true:=Nat.ble_eq_true_of_le (by omega);rw[e1,e2,e3,h,iI];rfl
theorem aoa {dst i j:Nat}{l:List RC}{T:TypeId}{e:Ty}(h:jq dst l j=some (i,T,e)):j=gO dst i∧l[i]?=some (.row T e):=by
 unfold jq at h;cases hb:(Nat.beq (j%4096) dst&&Nat.ble 4096 j)<;>simp only[hb,cond_true,cond_false] at h
 ·cases h
 simp only[aj] at hb;have h1:=aw hb.1;have h2:=km hb.2;split at h
 ·rename_i hl;cases h;exact⟨by unfold gO;omega,hl⟩
 ·cases h
def St.newRows (S:St)(dst:Nat)(l:List RC):St:=⟨S.r,fun j=>match jq dst l j with|some x=>.row x.2.1 x.2.2|Option.none=>S.o j,fun j=>match jq dst l j with|some _=>S.ver j+1|Option.none=>S.ver j⟩
def nQ (S:St)(dst:Nat):List RC→Nat→List AgC
 |[],_=>[]
 |.dat t::l,i=>.dat t::nQ S dst l (i+1)
 |.row ..::l,i=>.obj (gO dst i) (S.ver (gO dst i)+1)::nQ S dst l (i+1)
def AL (dst:Nat):List RC→Nat→List PI
 |[],_=>[]
 |.dat _::l,i=>AL dst l (i+1)
 |.row ..::l,i=>.setO (gO dst i) (.cell (.r dst) i)::AL dst l (i+1)
def B2 (C:Ctx)(S:St)(dst:Nat)(f:Nat)(args:List Operand):kS:=
 (C.sig f).bind fun s=>
    match s.mode with
    |.rows l=>
     (kN C (S.fzs (bR S [] args)) [] args).bind fun u=>
       bif Ty.subs u.1 s.args&&Nat.blt dst 4096 then
         some (((S.fzs (bR S [] args)).newRows dst l).setR dst (.agg (nQ (S.fzs (bR S [] args)) dst l 0)),.call [] dst f u.2::AL dst l 0) else Option.none
    |_=>Option.none
theorem aa8 (S:St)(dst:Nat):∀(l:List RC) (i:Nat),(nQ S dst l i).length=l.length∧∀(n:Nat) (c:AgC),(nQ S dst l i)[n]?=some c→(∃t,l[n]?=some (.dat t)∧c=.dat t)∨∃T e,l[n]?=some (.row T e)∧c=.obj (gO dst (i+n)) (S.ver (gO dst (i+n))+1)
 |[],i=>⟨rfl,fun n c h=>by simp[nQ] at h⟩
 |x::l,i=>by
  obtain⟨h1,h2⟩:=aa8 S dst l (i+1);have e:∀n,i+1+n=i+(n+1):=fun n=>by omega
  cases x with
  |dat t=>
   refine⟨by simp[nQ,h1],fun n c h=>?_⟩;cases n with
   |zero=>simp[nQ] at h;exact .inl ⟨t,rfl,h.symm⟩
   |succ n=>simp only[nQ,FJ] at h ⊢;have:=h2 n c h;rwa [e] at this
  |row T y=>
   refine⟨by simp[nQ,h1],fun n c h=>?_⟩;cases n with
   |zero=>simp[nQ] at h;exact .inr ⟨T,y,rfl,by rw[iz];exact h.symm⟩
   |succ n=>simp only[nQ,FJ] at h ⊢;have:=h2 n c h;rwa [e] at this
theorem Qr (Φ:aV)(dst:Nat):∀(l:List RC) (i:Nat) (ρ ρ':Env),PI.runs Φ (AL dst l i) ρ=some ρ'→ρ'.r=ρ.r∧(∀j,(∀(n:Nat) (T:TypeId) (e:Ty),l[n]?=some (.row T e)→j≠gO dst (i+n))→ρ'.o j=ρ.o j)∧
 ∀(n:Nat) (T:TypeId) (e:Ty),l[n]?=some (.row T e)→ρ'.o (gO dst (i+n))=(ρ.r dst).c (i+n)
 |[],i,ρ,ρ',h=>by
  simp only[AL,PI.runs,aR] at h;subst h;exact⟨rfl,fun _ _=>rfl,fun n T e h=>by simp at h⟩
 |x::l,i,ρ,ρ',h=>by
  have e:∀n,i+1+n=i+(n+1):=fun n=>by omega
  cases x with
  |dat t=>
   obtain⟨h1,h2,h3⟩:=Qr Φ dst l (i+1) ρ ρ' h;refine⟨h1,fun j hj=>h2 j fun n T y hn=>by rw[e];exact hj (n+1) T y (by simpa using hn),fun n T y hn=>?_⟩;cases n with
   |zero=>simp at hn
   |succ n=>have:=h3 n T y (by simpa using hn);rwa [e] at this
  |row T0 y0=>
   simp only[AL,PI.runs,PI.run,ko] at h;obtain⟨h1,h2,h3⟩:=Qr Φ dst l (i+1) _ ρ' h;refine⟨h1,fun j hj=>?_,fun n T y hn=>?_⟩
   ·rw[h2 j fun n T y hn=>by rw[e];exact hj (n+1) T y (by simpa using hn)];exact bk _ _ (by have:=hj 0 T0 y0 rfl;rwa [iz] at this)
   ·cases n with
    |zero=>
     rw[iz,h2 _ fun n T y hn=>by unfold gO;omega];exact aK _ _ _
    |succ n=>have:=h3 n T y (by simpa using hn);rwa [e] at this
def BZ (C:Ctx)(S:St)(dst:Nat)(f:Nat)(args:List Operand):kS:=
 (C.sig f).bind fun s=>
    match s.mode,args with
    |.ob shs obs,x::xs=>
     match I5 shs obs,fp S [] x with
     |some m,.obj j ver=>
      match S.o j with
      |.row T e=>
       bif Nat.beq ver (S.ver j)&&(Nat.beq T m.1&&Ty.beq e m.2.1) then
            (kN C S [] xs).bind fun u=>
             bif Ty.subs u.1 m.2.2 then some ((S.newO j (.row T e)).setR dst (.obj j (S.ver j+1)),[.call [] dst f (.o j::u.2),.setO j (.r dst),.setR dst (.con .none)]) else Option.none
       else Option.none
      |_=>Option.none
     |_,_=>Option.none
    |_,_=>Option.none
def oo (C:Ctx)(S:St)(gs:List (Nat×Bool))(dst:Nat)(x:Operand)(args:List Operand):Option (St×Sh×List PI):=
 match use C S gs x with
 |some (.fn aa r,e)=>
  match mS aa r with
  |some _=>Option.none
  |Option.none=>
  (kN C (S.fzs (bR S gs args)) gs args).bind fun u=>
    bif Ty.subs u.1 aa then some (bif r.pure then S else S.fzs (bR S gs args),.dat r,[.callc gs dst e u.2]) else Option.none
 |_=>Option.none
theorem ox:∀(js:List Nat) (S:St),(S.fzs js).ver=S.ver∧(S.fzs js).r=S.r
 |[],S=>⟨rfl,rfl⟩
 |j::js,S=>by
  obtain⟨h1,h2⟩:=ox js (S.fz j);obtain⟨k1,k2⟩:=Hr S j;exact⟨h1.trans k1,h2.trans k2⟩
section
variable {C:Ctx} {S:St} {ρ:Env} {σ:Im} {own:Nat→Option Nat} {hv:Nat→Value} {w0:World} {σ0:Base} {A:Nat→Prop} {a:Act} {w:World} {gs:List (Nat×Bool)} {Φ:aV} {dst:Nat}
theorem Inv.fzs:∀(js:List Nat) {S:St} {σ:Im} {own:Nat→Option Nat},Inv C S ρ σ own hv w0 σ0 A a w→∃σ' own',σ.le σ'∧Inv C (S.fzs js) ρ σ' own' hv w0 σ0 A a w
 |[],S,σ,own,h=>⟨σ,own,.refl σ,h⟩
 |j::js,S,σ,own,h=>by
  obtain⟨σ1,dF,hle,h1⟩:=h.fz j;obtain⟨σ2,jo,j8,h2⟩:=Inv.fzs js h1;exact⟨σ2,jo,hle.trans j8,h2⟩
theorem Inv.world (h:Inv C S ρ σ own hv w0 σ0 A a w){σ':Im}{w':World}(hle:σ.le σ')(az:σ'.ok w')(hb:Below w.heap.size w w')(dp:∀k o x,σ'.c k o=some x→σ.c k o=some x∨w.heap.size≤k)
 (dq:∀k x,σ'.m k=some x→σ.m k=some x∨w.heap.size≤k):Inv C S ρ σ' own hv w0 σ0 A a w':=by
 have aC:=h.below.size;refine h.step (fun _=>False) rfl hle az (fun k o x hx=>(dp k o x hx).imp id (fun e=>⟨by omega,.inr e⟩)) (fun k x hx=>(dq k x hx).imp id (fun e=>⟨by omega,.inr e⟩)) (hb.mono aC) (.refl S hv) (fun j _=>⟨rfl,rfl,rfl,fun k hk=>⟨hk,hb.block k (h.owns k j hk).2.1⟩⟩) (fun _ hf=>hf.elim) (fun k j hk=>?_) (fun _=>id) (fun t=>.inl ⟨rfl,rfl,rfl⟩) (fun _ _=>rfl) (fun k hk _=>hb.block k hk) (fun k i hk=>.inl ⟨i,hk⟩) (fun _ hf=>hf.elim);obtain⟨g1,g2,g3,g4⟩:=h.owns k j hk;refine⟨g1,by have:=hb.size;omega,fun o=>?_,?_⟩
 ·cases hc:σ'.c k o with
  |none=>rfl
  |some x=>rcases dp k o x hc with e|e
           ·rw[g3 o] at e;cases e
           ·omega
 ·cases hc:σ'.m k with
  |none=>rfl
  |some x=>rcases dq k x hc with e|e
           ·rw[g4] at e;cases e
           ·omega
theorem CtxOK.mono {C:Ctx}{σ σ':Im}(h:CtxOK C σ)(hle:σ.le σ'):CtxOK C σ':=⟨fun g x hx=>(h.glob g x hx).mono hle⟩
theorem A6 (h:Inv C S ρ σ own hv w0 σ0 A a w)(hC:CtxOK C σ0)(hg:holds gs ρ=true){xs:List Operand}{u:List Ty×List PE}{ts:List Ty}(hu:kN C S gs xs=some u)(hs:Ty.subs u.1 ts=true):qF C σ ts (xs.map a.eval) (PE.evs ρ u.2):=by
 obtain⟨l1,l2,aF⟩:=acq h hC hg _ _ hu;have hl:=Ty.subs_len _ _ hs;refine⟨by rw[fL];omega,by rw[PE.evs_eq,fL];omega,fun i t hi=>?_⟩;obtain⟨s,qe,bZ⟩:=Ty.subs_get _ _ hs i t hi;exact(aF i s qe).sub bZ
theorem E8 {o:Oper}{f:Nat}{args:Array Operand}{ts:Array TypeId}(aS:eD C){s:Sig}(hs:C.sig f=some s)(ho:o.op=.call {callee:=.value (.func f),args:=args,argTypes:=ts}):
 (execOp a.eval o).run C.P w=.ok (.enter f (args.map a.eval)) w:=by
 obtain⟨fn,h1,h2,h3⟩:=aS.2 f s hs;obtain⟨bd,ny⟩:=Ui.1 h2;have h4:¬fn.name= "runtime.NumGoroutine" :=by simpa using h3
 simp[execOp,ho,resolve,Act.eval,Deferred.ofValue,invoke,callFunc,h1,ny,h4]
theorem abM {o:Oper}{x:Operand}{f:Nat}{vs:List Value}{args:Array Operand}{ts:Array TypeId}(aS:eD C){s:Sig}(hs:C.sig f=some s)(hx:a.eval x=.func (.func f) #[] vs.toArray)(ho:o.op=.call {callee:=.value x,args:=args,argTypes:=ts}):
 (execOp a.eval o).run C.P w=.ok (.enter f (args.map a.eval++vs.toArray)) w:=by
 obtain⟨fn,h1,h2,h3⟩:=aS.2 f s hs;obtain⟨bd,ny⟩:=Ui.1 h2;have h4:¬fn.name= "runtime.NumGoroutine" :=by simpa using h3
 simp[execOp,ho,resolve,hx,Deferred.ofValue,invoke,callFunc,h1,ny,h4]
theorem UU (h:Inv C S ρ σ own hv w0 σ0 A a w)(hC:CtxOK C σ0)(ht:¬A dst)(ae:dst<a.tmps.size)(ei:∀g,g∈gs→A g.1)(hg:holds gs ρ=true){f:Nat}{s:Sig}{js:List Nat}{vals:List Value}{ds:List D}{d:D}(lu:s.mode=.dat)(hfn:gX C f s ds d)
 (jh:∀σ1 dF,σ.le σ1→Inv C (S.fzs js) ρ σ1 dF hv w0 σ0 A a w→qF C σ1 s.args vals ds) {K:Act→World→Prop} {Q:Exit→Act→World→Prop}
 (hK:∀a' w',Good C w0 σ0 ((bif s.res.pure then S else S.fzs js).setR dst (jE gs (.dat s.res))) (ρ.setR dst d) (fun u=>A u∨u=dst) a' w'→a'.tmps.size=a.tmps.size→K a' w'):
 Calls C.P f vals.toArray w (fun e kO=>match e with|.returned v=>K (a.put (some dst) v) kO|.panicked chain=>Q (.panic chain) a kO|.outgrown=>LetsOut Q):=by
 obtain⟨σ1,dF,l0,h1⟩:=Inv.fzs js h;have pR:=hfn σ1 w vals.toArray h1.ok (hC.mono h1.le) (by simpa using jh σ1 dF l0 h1);refine pR.mono fun e w' hh=>?_;obtain⟨v,σ',rfl,hle,az,hb,dp,dq,eZ⟩:=hh;simp only[mz,lu] at eZ;refine hK _ _ ?_ (size_put _ _ _);have hh:holds gs (ρ.setR dst d)=true:=by rw[Da (t:=dst) (d:=d) fun g hm e=>ht (by rw[←e];exact ei g hm)];exact hg
 have put:∀{S2:St} {σ2:Im} {jo:Nat→Option Nat},Inv C S2 ρ σ2 jo hv w0 σ0 A a w'→Rep C.cap σ2 s.res v d→Good C w0 σ0 (S2.setR dst (jE gs (.dat s.res))) (ρ.setR dst d) (fun u=>A u∨u=dst) (a.put (some dst) v) w':=by
  intro S2 σ2 jo h2 hr;cases gs with
  |nil=>exact⟨_,_,_,h2.setReg ht (s:=.dat s.res) hr ae (fun _ _ e=>by cases e)⟩
  |cons g bP=>
   refine⟨_,_,_,h2.setReg ht (s:=.opt (g::bP) (.dat s.res)) ⟨fun _=>hr,fun e=>absurd (hh.symm.trans e) (by decide)⟩ ae (fun gs s e=>?_)⟩;cases e;exact⟨ei,fun _ _ e=>by cases e⟩
 cases hp:s.res.pure with
 |true=>
  simp only[cond_true];exact put (h.world (.refl σ) (h.ok.below hb) hb (fun _ _ _ hx=>.inl hx) (fun _ _ hx=>.inl hx)) (eZ.pure hp)
 |false=>
  simp only[cond_false];exact put (h1.world hle az hb dp dq) eZ
theorem BE {o:Oper}{f:Nat}{args:Array Value}{K:Act→World→Prop}{Q:Exit→Act→World→Prop}(hd:o.dst=some dst)(hx:(execOp a.eval o).run C.P w=.ok (.enter f args) w)
 (h:Calls C.P f args w (fun e kO=>match e with|.returned v=>K (a.put (some dst) v) kO|.panicked chain=>Q (.panic chain) a kO|.outgrown=>LetsOut Q)):o.wp C.P a w K Q:=by
 simp only[Oper.wp,hx,Oper.upon,hd];refine h.mono fun e kO hh=>?_;cases e<;>exact hh
theorem afp (h:Inv C S ρ σ own hv w0 σ0 A a w)(hC:CtxOK C σ0)(aS:eD C)(hΦ:dQ C Φ)(ht:¬A dst)(ae:dst<a.tmps.size)(ei:∀g,g∈gs→A g.1)(hg:holds gs ρ=true){f:Nat}{args:Array Operand}{ts:Array TypeId}{r:St×Sh×List PI}
 (hr:pD C S gs dst f args.toList=some r) {o:Oper} (hd:o.dst=some dst) (ho:o.op=.call {callee:=.value (.func f),args:=args,argTypes:=ts}):bW C w0 σ0 Φ S ρ A a w o (r.1.setR dst (jE gs r.2.1),r.2.2):=by
 simp only[pD,ao] at hr;obtain⟨s,⟨s0,hs,jL⟩,hr⟩:=hr;split at hr
 case h_2=>cases hr
 rename_i lu;simp only[ao] at hr;obtain⟨u,hu,hr⟩:=hr;cases bG:Ty.subs u.1 s.args<;>simp only[bG,cond_true,cond_false] at hr
 ·cases hr
 cases hr;intro ρ' af K Q hK;simp only[PI.runs,PI.run,hg,cond_true,ao,ax] at af;obtain⟨ρ1,⟨d,bh,rfl⟩,af⟩:=af;cases af;have hfn:=aeW jL lu (hΦ f _ d bh s0 hs).1;refine BE hd (E8 aS hs ho) ?_;have kc:args.map a.eval=(args.toList.map a.eval).toArray:=by apply rS;rw[vI]
 rw[kc];have ib:(fun u=>A u∨o.dst=some u)=(fun u=>A u∨u=dst):=by funext u;rw[hd];simp[eq_comm]
 rw[ib] at hK;exact UU h hC ht ae ei hg (js:=bR S gs args.toList) lu hfn (fun σ1 dF _ h1=>A6 h1 hC hg hu bG) hK
theorem afg (h:Inv C S ρ σ own hv w0 σ0 A a w)(hC:CtxOK C σ0)(aS:eD C)(hΦ:dQ C Φ)(ht:¬A dst)(ae:dst<a.tmps.size)(ei:∀g,g∈gs→A g.1)(hg:holds gs ρ=true){x:Operand}{args:Array Operand}{ts:Array TypeId}{r:St×Sh×List PI}
 (hr:oo C S gs dst x args.toList=some r) {o:Oper} (hd:o.dst=some dst) (ho:o.op=.call {callee:=.value x,args:=args,argTypes:=ts}):bW C w0 σ0 Φ S ρ A a w o (r.1.setR dst (jE gs r.2.1),r.2.2):=by
 unfold oo at hr;split at hr
 case h_2=>cases hr
 rename_i aa r0 e wW;split at hr
 case h_1=>cases hr
 rename_i Nq;simp only[ao] at hr;obtain⟨u,hu,hr⟩:=hr;cases bG:Ty.subs u.1 aa<;>simp only[bG,cond_true,cond_false] at hr
 ·cases hr
 cases hr;have hx:=cB h hC hg wW;intro ρ' af K Q hK;simp only[PI.runs,PI.run,hg,cond_true,ao] at af;obtain⟨ρ1,oI,af⟩:=af;cases af;split at oI
 case h_2=>cases oI
 rename_i f caps bI;simp only[ax] at oI;obtain⟨d,bh,rfl⟩:=oI;rw[bI] at hx;generalize gd:a.eval x=xv at hx;generalize ba:Ty.fn aa r0=ty at hx;cases hx with
 |fn f cs vs ds hc h1 h2 aF=>
  cases ba;have hs:=aS.1 f cs hc Nq;have hfn:=(hΦ f _ d bh _ hs).1 rfl;refine BE hd (abM aS hs gd ho) ?_;have kc:args.map a.eval++vs.toArray=(args.toList.map a.eval++vs).toArray:=by apply rS;simp
  rw[kc];have ib:(fun u=>A u∨o.dst=some u)=(fun u=>A u∨u=dst):=by funext u;rw[hd];simp[eq_comm]
  rw[ib] at hK;refine UU h hC ht ae ei hg (js:=bR S gs args.toList) (s:=⟨cs.args++cs.caps,cs.res,.dat⟩) rfl hfn (fun σ1 dF l0 i1=>?_) hK;obtain⟨g1,g2,g3⟩:=A6 i1 hC hg hu bG;refine⟨by simp only[jy,g1,h1],by simp only[jy,g2,h2],fun i t hi=>?_⟩;rw[mw] at hi;split at hi
  ·rename_i ae;have:=g3 i t hi;rw[aH,aH,kT (by omega),kT (by omega)];simpa [aH] using this
  ·rename_i fP;have:=(aF _ t hi).mono l0;rw[aH,aH,jx (by omega),jx (by omega),g1,g2];simpa [aH] using this
theorem afk (h:Inv C S ρ σ own hv w0 σ0 A a w)(hC:CtxOK C σ0)(aS:eD C)(hΦ:dQ C Φ)(ht:¬A dst)(ae:dst<a.tmps.size){f:Nat}{args:Array Operand}{ts:Array TypeId}{r:St×List PI}
 (hr:B1 C S dst f args.toList=some r) {o:Oper} (hd:o.dst=some dst) (ho:o.op=.call {callee:=.value (.func f),args:=args,argTypes:=ts}):bW C w0 σ0 Φ S ρ A a w o r:=by
 simp only[B1,ao] at hr;obtain⟨s,hs,hr⟩:=hr;split at hr
 case h_2=>cases hr
 rename_i T e lu;simp only[ao] at hr;obtain⟨u,hu,hr⟩:=hr;cases bG:Ty.subs u.1 s.args<;>simp only[bG,cond_true,cond_false] at hr
 ·cases hr
 cases hr;intro ρ' af K Q hK;have CS:holds ([]:List (Nat×Bool)) ρ=true:=rfl;simp only[PI.runs,PI.run,CS,cond_true,ao,ax] at af;obtain⟨ρ1,⟨d,bh,rfl⟩,ρ2,g2,ρ3,g3,g4⟩:=af;cases g2;cases g3;cases g4;have hfn:=(hΦ f _ d bh s hs).1 (by rw[lu];rfl);obtain⟨σ1,dF,l0,h1⟩:=Inv.fzs (bR S [] args.toList) h;have kc:args.map a.eval=(args.toList.map a.eval).toArray:=by apply rS;rw[vI]
 refine BE hd (E8 aS hs ho) ?_;rw[kc];have pR:=hfn σ1 w (args.toList.map a.eval).toArray h1.ok (hC.mono h1.le) (by simpa using A6 h1 hC rfl hu bG);refine pR.mono fun e' w' hh=>?_;obtain⟨v,σ',rfl,hle,az,hb,dp,dq,eZ⟩:=hh;simp only[mz,lu] at eZ;obtain⟨cells,xs,rfl,aZ,jj,nA⟩:=eZ;refine hK _ _ ?_ (size_put _ _ _);have ib:(fun u=>A u∨o.dst=some u)=(fun u=>A u∨u=dst):=by funext u;rw[hd];simp[eq_comm]
 rw[ib];have main:∀{S2:St} {σ1 σ2:Im} {jo:Nat→Option Nat},Inv C S2 ρ σ1 jo hv w0 σ0 A a w→σ1.le σ2→σ2.ok w'→(∀k o x,σ2.c k o=some x→σ1.c k o=some x∨w.heap.size≤k)→(∀k x,σ2.m k=some x→σ1.m k=some x∨w.heap.size≤k)→eR C.cap σ2 e cells xs→(∀k,v.ownBlock=some k→(∀o,σ2.c k o=none)∧σ2.m k=none)→
  Good C w0 σ0 (mkObj S2 dst (.row T e)) ((ρ.setO dst (.list xs)).setR dst .none) (fun u=>A u∨u=dst) (a.put (some dst) v) w':=by
  intro S2 σ1 σ2 jo h2 j8 NQ ajo ajr aiC aiH;have aC:=h1.below.size
  have l8:=h2.newOσ dst (.row T e) (.list xs) v (fun k=>decide (v.ownBlock=some k)) j8 NQ ajo ajr hb (fun k hk=>aZ.lt k (by simpa using hk)) (fun k hk=>aiH k (by simpa using hk)) ⟨cells,xs,by simp[Env.setO,aK],by
        rw[aK];refine⟨aZ.1,?_⟩;rcases aZ.2 with e1|⟨g,cap,cur,e1,e2,e3⟩
        ·exact .inl e1
        ·exact .inr ⟨g,cap,cur,e1,by omega,e3⟩,aiC,fun k hk=>by rw[aK] at hk;simp[fV,hk]⟩
  have Xo:=l8.setObj ht (j:=dst) (v:=v) (aK _ _ _) ae;have e:(S2.newO dst (.row T e)).ver dst=S2.ver dst+1:=aK _ _ _;rw[e] at Xo;exact⟨_,_,_,Xo⟩
 have eρ:((ρ.setR dst (.list xs)).setO dst ((PE.r dst).ev (ρ.setR dst (.list xs)))).setR dst ((PE.con D.none).ev ((ρ.setR dst (.list xs)).setO dst ((PE.r dst).ev (ρ.setR dst (.list xs)))))=(ρ.setO dst (.list xs)).setR dst .none:=by
  have:∀d1 d2:D,bV (bV ρ.r dst d1) dst d2=bV ρ.r dst d2:=by
   intro d1 d2;funext i;simp only[fK];split<;>rfl
  simp[Env.setR,Env.setO,PE.ev,aK,this]
 show Good C w0 σ0 _ _ _ _ _;rw[eρ];cases hp:e.pure with
 |true=>
  simp only[cond_true];refine main h (.refl σ) (h.ok.below hb) (fun _ _ _ hx=>.inl hx) (fun _ _ hx=>.inl hx) ?_ (fun k hk=>?_)
  ·obtain⟨vs,k1,k2⟩:=jj;exact⟨vs,fun i x hx=>(k1 i x hx).pure hp,k2⟩
  ·obtain⟨f1,f2⟩:=nA k hk;refine⟨fun o=>?_,?_⟩
   ·cases hc:σ.c k o with
    |none=>rfl
    |some x=>have:=hle.c _ _ _ (l0.c _ _ _ hc);rw[f1 o] at this;cases this
   ·cases hc:σ.m k with
    |none=>rfl
    |some x=>have:=hle.m _ _ (l0.m _ _ hc);rw[f2] at this;cases this
 |false=>
  simp only[cond_false];exact main h1 hle az dp dq jj nA
theorem afm (h:Inv C S ρ σ own hv w0 σ0 A a w)(hC:CtxOK C σ0)(aS:eD C)(hΦ:dQ C Φ)(ht:¬A dst)(ae:dst<a.tmps.size){f:Nat}{args:Array Operand}{ts:Array TypeId}{r:St×List PI}
 (hr:B2 C S dst f args.toList=some r) {o:Oper} (hd:o.dst=some dst) (ho:o.op=.call {callee:=.value (.func f),args:=args,argTypes:=ts}):bW C w0 σ0 Φ S ρ A a w o r:=by
 simp only[B2,ao] at hr;obtain⟨s,hs,hr⟩:=hr;split at hr
 case h_2=>cases hr
 rename_i l lu;simp only[ao] at hr;obtain⟨u,hu,hr⟩:=hr;cases bG:(Ty.subs u.1 s.args&&Nat.blt dst 4096)<;>simp only[bG,cond_true,cond_false] at hr
 ·cases hr
 cases hr;simp only[aj,jc] at bG;obtain⟨bG,rf⟩:=bG;intro ρ' af K Q hK;have CS:holds ([]:List (Nat×Bool)) ρ=true:=rfl;simp only[PI.runs,PI.run,CS,cond_true,ao,ax] at af;obtain⟨ρ1,⟨d,bh,rfl⟩,af⟩:=af;have hfn:=(hΦ f _ d bh s hs).1 (by rw[lu];rfl);obtain⟨σ1,dF,l0,h1⟩:=Inv.fzs (bR S [] args.toList) h;generalize S.fzs (bR S [] args.toList)=S1 at hu h1 hK ⊢;have kc:args.map a.eval=(args.toList.map a.eval).toArray:=by apply rS;rw[vI]
 refine BE hd (E8 aS hs ho) ?_;rw[kc];have pR:=hfn σ1 w (args.toList.map a.eval).toArray h1.ok (hC.mono h1.le) (by simpa using A6 h1 hC rfl hu bG);refine pR.mono fun e' w' hh=>?_;obtain⟨v,σ',rfl,hle,az,hb,dp,dq,eZ⟩:=hh;simp only[mz,lu] at eZ;obtain⟨vs,ds,ow,rfl,rfl,l1,l2,ej,sQ⟩:=eZ;refine hK _ _ ?_ (size_put _ _ _);have ib:(fun u=>A u∨o.dst=some u)=(fun u=>A u∨u=dst):=by funext u;rw[hd];simp[eq_comm]
 rw[ib];obtain⟨r1,r2,r3⟩:=Qr Φ dst l 0 _ ρ' af;simp only[fq] at r2 r3;have abp:(ρ.setR dst (.agg ds)).r dst=.agg ds:=aK _ _ _;rw[abp] at r3;have aC:=h1.below.size
 let W:Nat→Prop:=fun j=>∃x,jq dst l j=some x
 let own':Nat→Option Nat:=fun k=>match ow k with
  |some i=>some (gO dst i)
  |none=>match dF k with
   |some j=>match jq dst l j with|some _=>none|none=>some j
   |none=>none
 let hv':Nat→Value:=fun j=>match jq dst l j with|some x=>vs.getD x.1 undef|none=>hv j
 have NH:∀j,¬W j→jq dst l j=none:=fun j hj=>by
  cases e:jq dst l j with
  |none=>rfl
  |some x=>exact absurd ⟨x,e⟩ hj
 have gg:∀j,¬W j→ρ'.o j=ρ.o j:=fun j hj=>r2 j fun n T e hn e1=>hj ⟨(n,T,e),by rw[e1];exact aa7 rf hn⟩
 have CX:∀k j,dF k=some j→ow k=none:=fun k j hk=>by
  cases e:ow k with
  |none=>rfl
  |some i=>have:=sQ k i e;have:=h1.owns k j hk;omega
 have re:Compat S1 hv ((S1.newRows dst l).setR dst (.agg (nQ S1 dst l 0))) hv':=⟨fun j=>by
  show S1.ver j≤(match jq dst l j with|some _=>S1.ver j+1|none=>S1.ver j);split
  ·exact Nat.le_succ _
  ·exact aX _,fun j e=>by
  have e:(match jq dst l j with|some _=>S1.ver j+1|none=>S1.ver j)=S1.ver j:=e;show(match jq dst l j with|some x=>vs.getD x.1 undef|none=>hv j)=hv j;cases hj:jq dst l j with
  |none=>rfl
  |some x=>rw[hj] at e;simp only at e;omega⟩
 refine⟨σ',own',hv',?_⟩
 refine h1.step (w':=w') W rfl hle az (fun k o x hx=>(dp k o x hx).imp id fun e=>⟨by omega,.inr e⟩) (fun k x hx=>(dq k x hx).imp id fun e=>⟨by omega,.inr e⟩) (hb.mono aC) re
  (fun j hj=>⟨?_,gg j hj,?_,fun k hk=>⟨?_,hb.block k (h1.owns k j hk).2.1⟩⟩) (fun j hj=>?_) (fun k i hk=>?_) (fun _=>.inl) (fun t=>?_) (fun t hA=>?_) (fun k hk _=>hb.block k hk) (fun k i hk=>?_) (fun j hj=>?_)
 ·show(match jq dst l j with|some x=>Ob.row x.2.1 x.2.2|none=>S1.o j)=S1.o j;rw[NH j hj]
 ·show(match jq dst l j with|some x=>vs.getD x.1 undef|none=>hv j)=hv j;rw[NH j hj]
 ·show own' k=some j;simp only[own',CX k j hk,hk,NH j hj]
 ·obtain⟨⟨i,T,e⟩,hx⟩:=hj;obtain⟨rfl,hi⟩:=aoa hx;show cC C _ ρ' σ' own' hv' w' w0.heap.size (gO dst i) (match jq dst l (gO dst i) with|some x=>Ob.row x.2.1 x.2.2|none=>S1.o (gO dst i));rw[hx];obtain⟨cells,xs,g1,g2,g3,g4⟩:=ej i _ hi;have e2:hv' (gO dst i)=vs.getD i undef:=by simp only[hv',hx]
  refine⟨cells,xs,?_,?_,g3,fun k hk=>?_⟩
  ·rw[r3 i T e hi];simpa [D.c,D.cells] using g1
  ·rw[e2];refine⟨g2.1,?_⟩;rcases g2.2 with e1|⟨g,cap,cur,e1,e3,e4⟩
   ·exact .inl e1
   ·exact .inr ⟨g,cap,cur,e1,by omega,e4⟩
  ·rw[e2] at hk;simp only[own',g4 k hk]
 ·simp only[own'] at hk;split at hk
  ·rename_i i' cw;have:=sQ k i' cw;exact⟨by omega,this.2.1,this.2.2.1,this.2.2.2⟩
  ·split at hk
   ·rename_i j hj;obtain⟨g1,g2,g3,g4⟩:=h1.owns k j hj;refine⟨g1,by have:=hb.size;omega,fun o=>?_,?_⟩
    ·cases hc:σ'.c k o with
     |none=>rfl
     |some x=>rcases dp k o x hc with e|e
              ·rw[g3 o] at e;cases e
              ·omega
    ·cases hc:σ'.m k with
     |none=>rfl
     |some x=>rcases dq k x hc with e|e
              ·rw[g4] at e;cases e
              ·omega
   ·cases hk
 ·by_cases hu:t=dst
  ·subst hu;refine .inr ⟨?_,fun gs s e=>?_⟩
   ·rw[xM];have e3:ρ'.r t=.agg ds:=by rw[r1];exact abp
    simp only[St.setR,aK,ae,and_self,if_true,e3];obtain⟨q1,q2⟩:=aa8 S1 t l 0;refine⟨vs,ds,rfl,rfl,by omega,by omega,fun i c hc=>?_⟩;rcases q2 i c hc with⟨ty,hl,rfl⟩|⟨T,e,hl,rfl⟩
    ·exact ej i _ hl
    ·rw[fq];have hx:=aa7 rf hl;refine⟨?_,fun _=>?_⟩
     ·show S1.ver (gO t i)+1≤(match jq t l (gO t i) with|some _=>S1.ver (gO t i)+1|none=>S1.ver (gO t i));rw[hx];exact aX _
     ·simp only[hv',hx]
   ·simp only[St.setR,aK] at e;cases e
  ·refine .inl ⟨bk _ _ hu,?_,?_⟩
   ·rw[xM];simp[hu]
   ·rw[r1];exact bk _ _ hu
 ·rw[r1];exact bk _ _ (fun e=>ht (e▸hA))
 ·simp only[own'] at hk;split at hk
  ·rename_i i' cw;exact .inr (sQ k i' cw).1
  ·split at hk
   ·rename_i j hj;exact .inl ⟨j,hj⟩
   ·cases hk
 ·obtain⟨x,hx⟩:=hj;show(match jq dst l j with|some x=>Ob.row x.2.1 x.2.2|none=>S1.o j)≠.tr;rw[hx];intro e;cases e
theorem afi (h:Inv C S ρ σ own hv w0 σ0 A a w)(hC:CtxOK C σ0)(aS:eD C)(hΦ:dQ C Φ)(ht:¬A dst)(ae:dst<a.tmps.size){f:Nat}{args:Array Operand}{ts:Array TypeId}{r:St×List PI}
 (hr:BZ C S dst f args.toList=some r) {o:Oper} (hd:o.dst=some dst) (ho:o.op=.call {callee:=.value (.func f),args:=args,argTypes:=ts}):bW C w0 σ0 Φ S ρ A a w o r:=by
 simp only[BZ,ao] at hr;obtain⟨s,hs,hr⟩:=hr;split at hr
 case h_2=>cases hr
 rename_i shs obs x xs lu jh;split at hr
 case h_2=>cases hr
 rename_i m j ver l6 eL;split at hr
 case h_2=>cases hr
 rename_i T e eo;cases hb:(Nat.beq ver (S.ver j)&&(Nat.beq T m.1&&Ty.beq e m.2.1))<;>simp only[hb,cond_true,cond_false] at hr
 ·cases hr
 simp only[aj] at hb;have dO:=aw hb.1;have hT:=aw hb.2.1;have he:=Ty.beq_eq _ _ hb.2.2;simp only[ao] at hr;obtain⟨u,hu,hr⟩:=hr;cases bG:Ty.subs u.1 m.2.2<;>simp only[bG,cond_true,cond_false] at hr
 ·cases hr
 cases hr;intro ρ' af K Q hK;have CS:holds ([]:List (Nat×Bool)) ρ=true:=rfl;simp only[PI.runs,PI.run,CS,cond_true,ao,ax] at af;obtain⟨ρ1,⟨d,bh,rfl⟩,ρ2,g2,ρ3,g3,g4⟩:=af;cases g2;cases g3;cases g4;have hfn:=(hΦ f _ d bh s hs).2 shs obs lu;unfold gY at hfn;rw[l6] at hfn;simp only at hfn;rw[←hT,←he] at hfn;have cl:=(rL h (gs:=[]) rfl x).1;rw[eL] at cl;have cl:=cl.2 dO;have aY:=h.objs j;rw[eo] at aY;obtain⟨cells,ys,h1,h2,h3,h4⟩:=aY;have kc:args.map a.eval=(a.eval x::xs.map a.eval).toArray:=by apply rS;rw[vI,jh];rfl
 refine BE hd (E8 aS hs ho) ?_;rw[kc,cl];have aC:=h.below.size
 have pR:=hfn w0.heap.size σ w (hv j) (xs.map a.eval) ys cells (PE.evs ρ u.2) (by simp[PE.evs,PE.ev,h1]) h.ok (hC.mono h.le) aC h2 h3 (fun k hk=>by
  have:=h.owns k j (h4 k hk);exact this.2) (A6 h hC rfl hu bG)
 refine pR.mono fun e' w' hh=>?_;obtain⟨v',kQ,dB,rfl,rfl,CF,CX,ajF,aiB,Ww⟩:=hh;refine hK _ _ ?_ (size_put _ _ _);have ib:(fun u=>A u∨o.dst=some u)=(fun u=>A u∨u=dst):=by funext u;rw[hd];simp[eq_comm]
 rw[ib]
 have Om:=h.updO j (.row T e) (.list kQ) v' (fun k=>decide (v'.ownBlock=some k)) CF (fun k hk ay=>CX k hk (fun e=>ay (h4 k e))) (fun k hk=>by
  have cj:v'.ownBlock=some k:=by simpa using hk
  exact⟨(Ww k cj).1.imp (h4 k) id,(Ww k cj).2⟩)
  ⟨dB,kQ,by simp[Env.setO,aK],by rw[aK];exact ajF,aiB,fun k hk=>by rw[aK] at hk;simp[fV,hk]⟩
 have h9:=Om.setObj ht (j:=j) (v:=v') (aK _ _ _) ae;have e1:(S.newO j (.row T e)).ver j=S.ver j+1:=aK _ _ _;rw[e1] at h9;have eρ:((ρ.setR dst (.list kQ)).setO j ((PE.r dst).ev (ρ.setR dst (.list kQ)))).setR dst ((PE.con D.none).ev ((ρ.setR dst (.list kQ)).setO j ((PE.r dst).ev (ρ.setR dst (.list kQ)))))=(ρ.setO j (.list kQ)).setR dst .none:=by
  have:∀d1 d2:D,bV (bV ρ.r dst d1) dst d2=bV ρ.r dst d2:=by
   intro d1 d2;funext i;simp only[fK];split<;>rfl
  simp[Env.setR,Env.setO,PE.ev,aK,this]
 show Good C w0 σ0 _ _ _ _ _;rw[eρ];exact⟨_,_,_,h9⟩
end
def iY:Nat:=1000000013
abbrev nX:=Sh×Option (Ty×PE)
def FX (C:Ctx)(S:St)(x:Operand):nX:=(fp S [] x,use C S [] x)
def UX (c:Nat×Nat):nX:=(.ptr c.1 c.2 0,none)
def cM:List Nat→List Nat→Nat→Option Nat
 |i::is,j::js,k=>bif Nat.beq i k then some j else cM is js k
 |_,_,_=>none
def anl:Sh→Sh→List (Nat×Nat)
 |.obj i _,.obj j _=>[(i,j)]
 |.ptr i _ _,.ptr j _ _=>[(i,j)]
 |.fclo _ a,.fclo _ b=>(a.zip b).map fun x=>(x.1.1,x.2.1)
 |_,_=>[]
def PN:List Sh→List Sh→List (Nat×Nat)
 |a::aa,b::bs=>anl a b++PN aa bs
 |_,_=>[]
def ank:Ob→Ob→List (Nat×Nat)
 |.box _ a,.box _ b=>PN a b
 |_,_=>[]
def Yo:List (Nat×Nat)→Nat→Nat
 |[],_=>iY
 |x::l,i=>bif Nat.beq x.1 i then x.2 else Yo l i
def ama (S:St)(obs:List (Nat×Ob))(p:List (Nat×Nat)):List (Nat×Nat):=p++p.flatMap fun x=>ank (eN obs x.1) (S.o x.2)
def VF (S:St)(shs:List Sh)(obs:List (Nat×Ob))(acts:List nX):List Nat:=obs.map fun o=>Yo (ama S obs (PN shs (acts.map (·.1)))) o.1
section
variable (ver:Nat→Nat) (is js:List Nat)
def E5:List (Nat×Nat)→Option (List (Nat×Nat))
 |[]=>some []
 |x::l=>bif Nat.beq x.2 0 then(cM is js x.1).bind fun j=>(E5 l).map fun r=>(j,ver j)::r else none
def kL:Sh→Option Sh
 |.dat t=>some (.dat t)
 |.none=>some .none
 |.obj i v=>bif Nat.beq v 0 then(cM is js i).map fun j=>.obj j (ver j) else none
 |.ptr i v off=>bif Nat.beq v 0 then(cM is js i).map fun j=>.ptr j (ver j) off else none
 |.fclo f caps=>(E5 ver is js caps).map (.fclo f)
 |_=>none
def E6:List Sh→Option (List Sh)
 |[]=>some []
 |s::l=>(kL ver is js s).bind fun a=>(E6 l).map (a::·)
def qA:Ob→Option Ob
 |.row T e=>some (.row T e)
 |.mp a b=>some (.mp a b)
 |.box ag shs=>(E6 ver is js shs).map (.box ag)
 |_=>none
end
def Cj (c:Sh):Sh→Bool
 |.none=>true
 |.dat b=>match c with|.dat a=>Ty.sub a b|_=>false
 |x=>Sh.beq c x
def zj:List Sh→List Sh→Bool
 |[],[]=>true
 |a::aa,b::bs=>Cj a b&&zj aa bs
 |_,_=>false
def zi:Ob→Ob→Bool
 |.box x a,.box y b=>(x==y)&&zj a b
 |.row T a,.row U b=>Nat.beq T U&&Ty.beq a b
 |.mp a b,.mp c d=>Ty.beq a c&&Ty.beq b d
 |_,_=>false
def q6 (S:St)(is js:List Nat):List (Nat×Ob)→List Nat→Bool
 |[],[]=>true
 |o::obs,j::jl=>(match qA S.ver is js o.2 with|some x=>zi (S.o j) x|none=>false)&&q6 S is js obs jl
 |_,_=>false
def Ci (S:St)(is js:List Nat)(a:nX)(s:Sh):Option PE:=
 match s with
 |.dat t=>(match a.2 with|some x=>bif Ty.sub x.1 t then some x.2 else none|none=>none)
 |.none=>some (.con .none)
 |s=>(match kL S.ver is js s with|some x=>bif Sh.beq a.1 x then some (.con .none) else none|none=>none)
def uh (S:St)(is js:List Nat):List nX→List Sh→Option (List PE)
 |[],[]=>some []
 |a::aa,s::ss=>(Ci S is js a s).bind fun e=>(uh S is js aa ss).map (e::·)
 |_,_=>none
def pC:List Sh→List Nat
 |[]=>[]
 |.obj i _::l=>i::pC l
 |.ptr i _ _::l=>i::pC l
 |.fclo _ c::l=>c.map (·.1)++pC l
 |_::l=>pC l
def aD (l:List Nat)(x:Nat):Bool:=l.any (Nat.beq x)
def vC (ver:Nat→Nat)(shs:List Sh)(is js:List Nat):Nat→Nat:=fun j=>match cM js is j with|some i=>bif aD (pC shs) i then ver j else ver j+1|none=>ver j
def St.handed (S:St)(shs:List Sh)(obs:List (Nat×Ob))(is js:List Nat):St:=
 ⟨S.r,fun j=>match cM js is j with|some i=>(match qA (vC S.ver shs is js) is js (eN obs i) with|some o=>o|none=>.dead)|none=>S.o j,vC S.ver shs is js⟩
def zm (S:St):List Operand→List Sh→List Nat
 |x::xs,s::ss=>(bif nJ s then bR S [] [x] else[])++zm S xs ss
 |_,_=>[]
def Fg:List Nat→Nat→List PI
 |[],_=>[]
 |j::js,k=>.setO j (.tget (.o iY) k)::Fg js (k+1)
def Mi (S:St)(res:Ty)(f:Nat)(shs:List Sh)(obs:List (Nat×Ob))(acts:List nX)(is js:List Nat):Option (St×Ty×List PI):=
 (uh S is js acts shs).bind fun es=>
    bif xn shs obs&&(gS is&&gS js&&q6 S is js obs js&&oL (S.o iY)&& !aD js iY) then some (S.handed shs obs is js,res,.mcall iY f (es++js.map .o)::Fg js 1) else none
def Mj (C:Ctx)(S:St)(res:Ty)(f:Nat)(shs:List Sh)(obs:List (Nat×Ob))(acts:List nX):Option (St×Ty×List PI):=
 Mi S res f shs obs acts (obs.map (·.1)) (VF S shs obs acts)
def qW (C:Ctx)(S:St)(f:Nat)(args:List Operand)(caps:List (Nat×Nat)):Option (St×Ty×List PI):=
 (C.sig f).bind fun s=>
    match s.mode with
    |.ob shs obs=>Mj C (S.fzs (zm S args shs)) s.res f shs obs (args.map (FX C (S.fzs (zm S args shs)))++caps.map UX)
    |_=>none
theorem XP {l:List Nat}{x:Nat}:aD l x=true↔x∈l:=by
 unfold aD;rw[vM];exact⟨fun⟨y,hy,h⟩=>by rw[aw h];exact hy,fun h=>⟨x,h,iI x⟩⟩
theorem Yj:∀{is js:List Nat} {i j:Nat},cM is js i=some j→∃k:Nat,is[k]?=some i∧js[k]?=some j
 |[],_,i,j,h=>by cases h
 |_::_,[],i,j,h=>by cases h
 |x::is,y::js,i,j,h=>by
  simp only[cM] at h;cases hb:Nat.beq x i<;>simp only[hb,cond_true,cond_false] at h
  ·obtain⟨k,h1,h2⟩:=Yj h;exact⟨k+1,h1,h2⟩
  ·cases h;exact⟨0,by rw[aw hb];rfl,rfl⟩
theorem IV:∀{is js:List Nat} {i j k:Nat},is.Nodup→is[k]?=some i→js[k]?=some j→cM is js i=some j
 |[],_,i,j,k,_,h,_=>by simp at h
 |_::_,[],i,j,k,_,_,h=>by simp at h
 |x::is,y::js,i,j,k,hn,h1,h2=>by
  simp only[cM];cases k with
  |zero=>simp at h1 h2;subst h1 h2;rw[iI];rfl
  |succ k=>
   simp at h1 h2;have ay:x≠i:=fun e=>by subst e;exact(np.1 hn).1 (kl h1)
   rw[fu ay];exact IV (np.1 hn).2 h1 h2
theorem IW {is js:List Nat}(h2:js.Nodup){i j:Nat}(h:cM is js i=some j):cM js is j=some i:=by
 obtain⟨k,g1,g2⟩:=Yj h;exact IV h2 g2 g1
theorem akX (obs:List (Nat×Ob))(f:Nat→D):∀{is js:List Nat} {i j:Nat},is=obs.map (·.1)→cM is js i=some j→nM obs (js.map f) i=f j:=by
 induction obs with
 |nil=>intro is js i j h1 h2;subst h1;cases h2
 |cons x l ih=>
  intro is js i j h1 h2;subst h1;cases js with
  |nil=>cases h2
  |cons y js=>
   simp only[gG,cM] at h2;simp only[gG,nM];cases hb:Nat.beq x.1 i<;>simp only[hb,cond_true,cond_false] at h2 ⊢
   ·exact ih rfl h2
   ·cases h2;rfl
theorem Yg:∀{obs:List (Nat×Ob)} {js:List Nat} {os:List D} {i j:Nat},os.length=obs.length→cM (obs.map (·.1)) js i=some j→∃k:Nat,js[k]?=some j∧nM obs os i=os.getD k .none
 |[],_,_,i,j,_,h=>by cases h
 |_::_,[],_,i,j,_,h=>by cases h
 |_::_,_::_,[],i,j,hl,h=>by simp at hl
 |x::obs,y::js,o::os,i,j,hl,h=>by
  simp only[gG,cM] at h;simp only[nM];cases hb:Nat.beq x.1 i<;>simp only[hb,cond_true,cond_false] at h ⊢
  ·obtain⟨k,h1,h2⟩:=Yg (obs:=obs) (js:=js) (os:=os) (by simpa using hl) h;exact⟨k+1,h1,by simpa using h2⟩
  ·cases h;exact⟨0,rfl,rfl⟩
theorem Ym:∀{obs:List (Nat×Ob)} {js:List Nat} {i:Nat},js.length=obs.length→cM (obs.map (·.1)) js i=none→eN obs i=.dead
 |[],_,i,_,_=>rfl
 |x::obs,[],i,hl,h=>by simp at hl
 |x::obs,y::js,i,hl,h=>by
  simp only[gG,cM] at h;simp only[eN];cases hb:Nat.beq x.1 i<;>simp only[hb,cond_true,cond_false] at h ⊢
  ·exact Ym (by simpa using hl) h
  ·cases h
theorem VO {S:St}{is js:List Nat}:∀{obs:List (Nat×Ob)} {jl:List Nat},q6 S is js obs jl=true→jl.length=obs.length
 |[],[],_=>rfl
 |[],_::_,h=>by simp[q6] at h
 |_::_,[],h=>by simp[q6] at h
 |o::obs,j::jl,h=>by simp only[q6,aj] at h;simp[VO h.2]
theorem VN {S:St}{is js:List Nat}:∀{obs:List (Nat×Ob)} {jl:List Nat},q6 S is js obs jl=true→∀{i j:Nat},cM (obs.map (·.1)) jl i=some j→∃x,qA S.ver is js (eN obs i)=some x∧zi (S.o j) x=true
 |[],_,_,i,j,h=>by cases h
 |_::_,[],_,i,j,h=>by cases h
 |o::obs,y::jl,hf,i,j,h=>by
  simp only[q6,aj] at hf;simp only[gG,cM] at h;simp only[eN];cases hb:Nat.beq o.1 i<;>simp only[hb,cond_true,cond_false] at h ⊢
  ·exact VN hf.2 h
  ·cases h;have h1:=hf.1;split at h1
   ·rename_i x hx;exact⟨x,hx,h1⟩
   ·cases h1
theorem VP:∀{a b:List Sh},zj a b=true→a.length=b.length∧∀(i:Nat) (y:Sh),b[i]?=some y→∃x,a[i]?=some x∧Cj x y=true
 |[],[],_=>⟨rfl,fun i y h=>by simp at h⟩
 |[],_::_,h=>by simp[zj] at h
 |_::_,[],h=>by simp[zj] at h
 |a::aa,b::bs,h=>by
  simp only[zj,aj] at h;obtain⟨g1,g2⟩:=VP h.2;refine⟨by simp[g1],fun i y hy=>?_⟩;cases i with
  |zero=>simp at hy;subst hy;exact⟨a,rfl,h.1⟩
  |succ i=>simp at hy;simpa using g2 i y hy
theorem Rc {ver:Nat→Nat}{is js:List Nat}:∀{a b:List Sh},E6 ver is js a=some b→b.length=a.length∧∀(i:Nat) (x:Sh),a[i]?=some x→∃y,b[i]?=some y∧kL ver is js x=some y
 |[],b,h=>by simp only[E6,aR] at h;subst h;exact⟨rfl,fun i x h=>by simp at h⟩
 |s::l,b,h=>by
  simp only[E6,ao,ax] at h;obtain⟨y,hy,r,hr,rfl⟩:=h;obtain⟨g1,g2⟩:=Rc hr;refine⟨by simp[g1],fun i x hx=>?_⟩;cases i with
  |zero=>simp at hx;subst hx;exact⟨y,rfl,hy⟩
  |succ i=>simp at hx;simpa using g2 i x hx
theorem Kb {ver:Nat→Nat}{is js:List Nat}:∀{a b:List (Nat×Nat)},E5 ver is js a=some b→b.length=a.length∧∀(i x v:Nat),a[i]?=some (x,v)→∃j,b[i]?=some (j,ver j)∧cM is js x=some j∧v=0
 |[],b,h=>by simp only[E5,aR] at h;subst h;exact⟨rfl,fun i x v h=>by simp at h⟩
 |s::l,b,h=>by
  simp only[E5] at h;cases hb:Nat.beq s.2 0<;>simp only[hb,cond_true,cond_false] at h
  ·cases h
  simp only[ao,ax] at h;obtain⟨y,hy,r,hr,rfl⟩:=h;obtain⟨g1,g2⟩:=Kb hr;refine⟨by simp[g1],fun i x v hx=>?_⟩;cases i with
  |zero=>simp at hx;subst hx;exact⟨y,rfl,hy,aw hb⟩
  |succ i=>simp at hx;simpa using g2 i x v hx
theorem Rb {ver:Nat→Nat}{is js:List Nat}{s x:Sh}(h:kL ver is js s=some x):(∀gs s',s≠.opt gs s')∧∀gs s',x≠.opt gs s':=by
 cases s<;>simp only[kL] at h
 case none=>cases h;exact⟨(fun _ _ e=>by cases e),(fun _ _ e=>by cases e)⟩
 case dat=>cases h;exact⟨(fun _ _ e=>by cases e),(fun _ _ e=>by cases e)⟩
 case obj i v=>
  cases hb:Nat.beq v 0<;>simp only[hb,cond_true,cond_false] at h
  ·cases h
  simp only[ax] at h;obtain⟨j,_,rfl⟩:=h;exact⟨(fun _ _ e=>by cases e),(fun _ _ e=>by cases e)⟩
 case ptr i v off=>
  cases hb:Nat.beq v 0<;>simp only[hb,cond_true,cond_false] at h
  ·cases h
  simp only[ax] at h;obtain⟨j,_,rfl⟩:=h;exact⟨(fun _ _ e=>by cases e),(fun _ _ e=>by cases e)⟩
 case fclo f caps=>
  simp only[ax] at h;obtain⟨j,_,rfl⟩:=h;exact⟨(fun _ _ e=>by cases e),(fun _ _ e=>by cases e)⟩
 all_goals cases h
section
variable {C:Ctx} {S S1:St} {ρ ρ1:Env} {σ σ1:Im} {own dF:Nat→Option Nat} {hv aQ:Nat→Value} {w0:World} {σ0:Base} {A:Nat→Prop} {a:Act} {w w1:World} {Φ:aV} {dst:Nat}
 {is js:List Nat} {shs:List Sh} {obs:List (Nat×Ob)} {ρf:Env}
theorem abz (hσ:Im.leR C.cap σ σ1){fi:Nat→Value}(gh:∀i j,cM is js i=some j→fi i=hv j){s x:Sh}(hr:kL S.ver is js s=some x){v:Value}{d:D}(h:aE C S ρ σ hv x v d):aE C (gj shs obs) ρf σ1 fi s v d:=by
 cases s<;>simp only[kL] at hr
 case none=>trivial
 case dat=>cases hr;exact hσ.rep h
 case obj i ver=>
  cases hb:Nat.beq ver 0<;>simp only[hb,cond_true,cond_false] at hr
  ·cases hr
  simp only[ax] at hr;obtain⟨j,hj,rfl⟩:=hr;exact⟨by rw[aw hb];exact oc _,fun _=>by rw[gh i j hj];exact h.2 rfl⟩
 case ptr i ver off=>
  cases hb:Nat.beq ver 0<;>simp only[hb,cond_true,cond_false] at hr
  ·cases hr
  simp only[ax] at hr;obtain⟨j,hj,rfl⟩:=hr;exact⟨by rw[aw hb];exact oc _,fun _=>by rw[gh i j hj];exact h.2 rfl⟩
 case fclo f caps=>
  simp only[ax] at hr;obtain⟨c,hc,rfl⟩:=hr;obtain⟨g1,g2⟩:=Kb hc;obtain⟨vs,h1,h2,h3⟩:=h;refine⟨vs,h1,by omega,fun i x ver hi=>?_⟩;obtain⟨j,e1,e2,e3⟩:=g2 i x ver hi;exact⟨by rw[e3];exact oc _,fun _=>by rw[gh x j e2];exact(h3 i j _ e1).2 rfl⟩
 all_goals cases hr
theorem aot (hσ:σ.le σ1){fi:Nat→Value}(gh:∀i j,cM is js i=some j→fi i=aQ j){s x:Sh}(hr:kL S1.ver is js s=some x){v:Value}{d:D}(h:aE C (gj shs obs) ρf σ fi s v d):aE C S1 ρ1 σ1 aQ x v d:=by
 cases s<;>simp only[kL] at hr
 case none=>cases hr;trivial
 case dat=>cases hr;exact Rep.mono hσ h
 case obj i ver=>
  cases hb:Nat.beq ver 0<;>simp only[hb,cond_true,cond_false] at hr
  ·cases hr
  simp only[ax] at hr;obtain⟨j,hj,rfl⟩:=hr;exact⟨aX _,fun _=>by rw[←gh i j hj];exact h.2 (aw hb)⟩
 case ptr i ver off=>
  cases hb:Nat.beq ver 0<;>simp only[hb,cond_true,cond_false] at hr
  ·cases hr
  simp only[ax] at hr;obtain⟨j,hj,rfl⟩:=hr;exact⟨aX _,fun _=>by rw[←gh i j hj];exact h.2 (aw hb)⟩
 case fclo f caps=>
  simp only[ax] at hr;obtain⟨c,hc,rfl⟩:=hr;obtain⟨g1,g2⟩:=Kb hc;obtain⟨vs,h1,h2,h3⟩:=h;refine⟨vs,h1,by omega,fun i j ver hi=>?_⟩;have ae:i<caps.length:=by have:=(eE.1 hi).1;omega
  obtain⟨j',e1,e2,e3⟩:=g2 i _ _ (bu ae);rw[hi] at e1;cases e1;exact⟨aX _,fun _=>by rw[←gh _ j e2];exact(h3 i _ _ (bu ae)).2 e3⟩
 all_goals cases hr
theorem agf {c x:Sh}(hf:Cj c x=true){v:Value}{d:D}(h:aE C S ρ σ hv c v d):aE C S ρ σ hv x v d:=by
 cases x with
 |none=>trivial
 |dat b=>
  simp only[Cj] at hf;split at hf
  ·exact Rep.sub h hf
  ·cases hf
 |_=>simp only[Cj] at hf;rw[Sh.beq_eq _ _ hf] at h;exact h
theorem amz (hσ:Im.leR C.cap σ σ1){fi:Nat→Value}{D2:Nat→Option Nat}(gh:∀i j,cM is js i=some j→fi i=hv j)(aZ:∀k j i,own k=some j→cM js is j=some i→D2 k=some i)(bj:js.Nodup){i j N:Nat}(cD:cM is js i=some j)(hρ:ρf.o i=ρ.o j){ob x:Ob}
 (hr:qA S.ver is js ob=some x) (hf:zi (S.o j) x=true) (h:cC C S ρ σ own hv w N j (S.o j)):cC C (gj shs obs) ρf σ1 D2 fi w N i ob:=by
 have eX:=IW bj cD;cases ob<;>simp only[qA] at hr
 case row T e=>
  cases hr;cases ho:S.o j<;>rw[ho] at hf h<;>simp only[zi,aj] at hf<;>try (cases hf;done)
  obtain⟨cells,xs,h1,h2,h3,h4⟩:=h;rw[aw hf.1,Ty.beq_eq _ _ hf.2] at*;exact⟨cells,xs,by rw[hρ];exact h1,by rw[gh i j cD];exact h2,h3.monoR hσ,fun k hk=>aZ k j i (h4 k (by rw[←gh i j cD];exact hk)) eX⟩
 case mp kt et=>
  cases hr;cases ho:S.o j<;>rw[ho] at hf h<;>simp only[zi,aj] at hf<;>try (cases hf;done)
  obtain⟨k,arr,clock,es,h1,h2,h3,h4,h5,h6,h7⟩:=h;rw[Ty.beq_eq _ _ hf.1,Ty.beq_eq _ _ hf.2] at*;exact⟨k,arr,clock,es,by rw[gh i j cD];exact h1,aZ k j i h2 eX,h3,by rw[hρ];exact h4,h5,h6,fun n e p he hp=>⟨hσ.rep (h7 n e p he hp).1,hσ.rep (h7 n e p he hp).2⟩⟩
 case box ag cs=>
  simp only[ax] at hr;obtain⟨gJ,dL,rfl⟩:=hr;cases ho:S.o j<;>rw[ho] at hf h<;>simp only[zi,aj] at hf<;>try (cases hf;done)
  obtain⟨k,vs,T,ds,h1,h2,h3,h4,h5,h6,h7⟩:=h;obtain⟨l1,g1⟩:=VP hf.2;obtain⟨l2,g2⟩:=Rc dL;refine⟨k,vs,T,ds,by rw[gh i j cD];exact h1,aZ k j i h2 eX,h3,by omega,by rw[hρ];exact h5,by omega,fun n s hs=>?_⟩;obtain⟨y,hy,Dq⟩:=g2 n s hs;obtain⟨z,hz,sN⟩:=g1 n y hy;exact⟨(Rb Dq).1,abz hσ gh Dq (agf sN (h7 n z hz).2)⟩
 all_goals cases hr
theorem amA (hσ:σ.le σ1){fi:Nat→Value}{D2:Nat→Option Nat}(gh:∀i j,cM is js i=some j→fi i=aQ j)(aZ:∀k i j,D2 k=some i→cM is js i=some j→dF k=some j){i j N:Nat}(cD:cM is js i=some j)(hρ:ρ1.o j=ρf.o i){ob x:Ob}
 (hr:qA S1.ver is js ob=some x) (h:cC C (gj shs obs) ρf σ D2 fi w N i ob):cC C S1 ρ1 σ1 dF aQ w N j x:=by
 cases ob<;>simp only[qA] at hr
 case row T e=>
  cases hr;obtain⟨cells,xs,h1,h2,h3,h4⟩:=h;exact⟨cells,xs,by rw[hρ];exact h1,by rw[←gh i j cD];exact h2,h3.mono hσ,fun k hk=>aZ k i j (h4 k (by rw[gh i j cD];exact hk)) cD⟩
 case mp kt et=>
  cases hr;obtain⟨k,arr,clock,es,h1,h2,h3,h4,h5,h6,h7⟩:=h;exact⟨k,arr,clock,es,by rw[←gh i j cD];exact h1,aZ k i j h2 cD,h3,by rw[hρ];exact h4,h5,h6,fun n e p he hp=>⟨(h7 n e p he hp).1.mono hσ,(h7 n e p he hp).2.mono hσ⟩⟩
 case box ag cs=>
  simp only[ax] at hr;obtain⟨gJ,dL,rfl⟩:=hr;obtain⟨k,vs,T,ds,h1,h2,h3,h4,h5,h6,h7⟩:=h;obtain⟨l2,g2⟩:=Rc dL;refine⟨k,vs,T,ds,by rw[←gh i j cD];exact h1,aZ k i j h2 cD,h3,by omega,by rw[hρ];exact h5,by omega,fun n s hs=>?_⟩;have ae:n<cs.length:=by have:=(eE.1 hs).1;omega
  obtain⟨y,hy,Dq⟩:=g2 n _ (bu ae);rw[hs] at hy;cases hy;exact⟨(Rb Dq).2,aot hσ gh Dq (h7 n _ (bu ae)).2⟩
 all_goals cases hr
theorem aos {ver:Nat→Nat}{ob x:Ob}(hr:qA ver is js ob=some x):x≠.tr:=by
 cases ob<;>simp only[qA] at hr
 case row=>cases hr;intro e;cases e
 case mp=>cases hr;intro e;cases e
 case box=>
  simp only[ax] at hr;obtain⟨_,_,rfl⟩:=hr;intro e;cases e
 all_goals cases hr
theorem CtxOK.noM (h:CtxOK C σ):CtxOK C σ.noM:=⟨fun g x hx=>(h.glob g x hx).noM⟩
def Fw (C:Ctx)(S:St)(ρ:Env)(σ:Im)(hv:Nat→Value)(x:nX)(v:Value)(d:D):Prop:=aE C S ρ σ hv x.1 v d∧∀y,x.2=some y→Rep C.cap σ y.1 v (y.2.ev ρ)
theorem VL:∀{acts:List nX} {shs:List Sh} {es:List PE},uh S is js acts shs=some es→acts.length=shs.length∧es.length=shs.length∧∀(t:Nat) (s:Sh),shs[t]?=some s→∃x e,acts[t]?=some x∧es[t]?=some e∧Ci S is js x s=some e
 |[],[],es,h=>by simp only[uh,aR] at h;subst h;exact⟨rfl,rfl,fun t s h=>by simp at h⟩
 |[],_::_,es,h=>by simp[uh] at h
 |_::_,[],es,h=>by simp[uh] at h
 |x::acts,s::shs,es,h=>by
  simp only[uh,ao,ax] at h;obtain⟨e,he,r,hr,rfl⟩:=h;obtain⟨g1,g2,g3⟩:=VL hr;refine⟨by simp[g1],by simp[g2],fun t s' hs=>?_⟩;cases t with
  |zero=>simp at hs;subst hs;exact⟨x,e,rfl,rfl,he⟩
  |succ t=>simp at hs;simpa using g3 t s' hs
theorem agd (hσ:Im.leR C.cap σ σ1){fi:Nat→Value}(gh:∀i j,cM is js i=some j→fi i=hv j){x:nX}{s:Sh}{e:PE}(hf:Ci S is js x s=some e){v:Value}{d:D}(h:Fw C S ρ σ hv x v d):aE C (gj shs obs) ρf σ1 fi s v (e.ev ρ):=by
 have gen:∀s,(match kL S.ver is js s with|some y=>bif Sh.beq x.1 y then some (PE.con .none) else none|none=>none)=some e→nJ s=false→aE C (gj shs obs) ρf σ1 fi s v (e.ev ρ):=by
  intro s hm hd;split at hm
  ·rename_i y hy;cases hb:Sh.beq x.1 y<;>simp only[hb,cond_true,cond_false] at hm
   ·cases hm
   have h1:=h.1;rw[Sh.beq_eq _ _ hb] at h1;have:=abz (shs:=shs) (obs:=obs) (ρf:=ρf) hσ gh hy h1;cases s with
   |dat t=>cases hd
   |opt gs s'=>exact absurd rfl ((Rb hy).1 gs s')
   |eptr j ver size off=>simp[kL] at hy
   |agg l=>simp[kL] at hy
   |_=>exact this
  ·cases hm
 unfold Ci at hf;split at hf
 ·rename_i t;split at hf
  ·rename_i y hy;cases hb:Ty.sub y.1 t<;>simp only[hb,cond_true,cond_false] at hf
   ·cases hf
   cases hf;exact hσ.rep ((h.2 y hy).sub hb)
  ·cases hf
 ·trivial
 ·rename_i l7 p8;refine gen _ hf ?_;cases s<;>first|rfl|exact absurd rfl (l7 _)
theorem ae1 {fi Oo:Nat→Value}{σ σ':Im}{ρf ρf':Env}{args:Nat→Value}{ds ds':Nat→D}(h1:∀(t:Nat) (s:Sh),shs[t]?=some s→aE C (gj shs obs) ρf σ fi s (args t) (ds t))(h2:∀(t:Nat) (s:Sh),shs[t]?=some s→nJ s=false→aE C (gj shs obs) ρf' σ' Oo s (args t) (ds' t))
 (hz:∀s,s∈shs→∃x,kL S.ver is js s=some x) {i:Nat} (hi:i∈pC shs):Oo i=fi i:=by
 have key:∀(l:List Sh),(∀s,s∈l→∃t:Nat,shs[t]?=some s)→i∈pC l→Oo i=fi i:=by
  intro l
  induction l with
  |nil=>intro _ h;cases h
  |cons s l ih=>
   intro hl hi;obtain⟨t,ht⟩:=hl s (dR ..);have p5:∀s,s∈l→∃t:Nat,shs[t]?=some s:=fun s hs=>hl s (dK _ hs);obtain⟨x,hx⟩:=hz s (kl ht);have a1:=h1 t s ht;have a2:=h2 t s ht;cases s<;>simp only[pC] at hi
   case obj j ver=>
        simp only[kL] at hx;cases hb:Nat.beq ver 0<;>simp only[hb,cond_true,cond_false] at hx
        ·cases hx
        rcases cW.1 hi with e|e
        ·subst e;rw[←(a1.2 (aw hb)),←((a2 rfl).2 (aw hb))]
        ·exact ih p5 e
   case ptr j ver off=>
        simp only[kL] at hx;cases hb:Nat.beq ver 0<;>simp only[hb,cond_true,cond_false] at hx
        ·cases hx
        rcases cW.1 hi with e|e
        ·subst e;obtain⟨k1,e1,e2⟩:=a1.2 (aw hb);obtain⟨k2,e3,e4⟩:=(a2 rfl).2 (aw hb);rw[e2] at e4;cases e4;rw[e1,e3]
        ·exact ih p5 e
   case fclo f caps=>
        simp only[kL,ax] at hx;obtain⟨c,hc,_⟩:=hx;obtain⟨_,g2⟩:=Kb hc;rcases cR.1 hi with e|e
        ·obtain⟨y,hy,e1⟩:=ec.1 e;subst e1;obtain⟨m,hm⟩:=yb hy;obtain⟨vs,b1,b2,b3⟩:=a1;obtain⟨A8,c1,c2,c3⟩:=a2 rfl;rw[b1] at c1;have cE:vs=A8:=by simpa using c1
         subst cE;obtain⟨_,_,_,nI⟩:=g2 m y.1 y.2 hm;rw[←(b3 m y.1 y.2 hm).2 nI,←(c3 m y.1 y.2 hm).2 nI]
        ·exact ih p5 e
   all_goals exact ih p5 hi
 exact key shs (fun s hs=>yb hs) hi
end
section
variable {C:Ctx} {S:St} {ρ:Env} {σ:Im} {own:Nat→Option Nat} {hv:Nat→Value} {w0:World} {σ0:Base} {A:Nat→Prop} {a:Act} {w:World} {Φ:aV} {dst:Nat}
 {is js:List Nat} {shs:List Sh} {obs:List (Nat×Ob)}
theorem Below.weak {B:Nat}{w w':World}(h:Below 0 w w')(hk:∀k,k<B→w'.heap[k]?=w.heap[k]?):Below B w w':=⟨h.os,h.tape,h.output,h.size,hk⟩
def oS (js is:List Nat)(own:Nat→Option Nat):Nat→Option Nat:=fun k=>(own k).bind (cM js is)
def D1 (js is:List Nat)(own own':Nat→Option Nat):Nat→Option Nat:=fun k=>
 match own' k with
 |some i=>cM is js i
 |none=>match own k with|some j=>(match cM js is j with|some _=>none|none=>some j)|none=>none
theorem handed (h:Inv C S ρ σ own hv w0 σ0 A a w)(hC:CtxOK C σ0)(ajK:xn shs obs=true)(CW:is=obs.map (·.1))(Xd:is.Nodup)(Il:js.Nodup)(zD:q6 S is js obs js=true){acts:List nX}{es:List PE}(jH:uh S is js acts shs=some es)
 (HX:S.o iY=.dead) (Iy:iY∉js) {vals:List Value} (hvl:vals.length=acts.length) (ah0:∀(t:Nat) (x:nX),acts[t]?=some x→∃d,Fw C S ρ σ hv x (vals.getD t undef) d) {f:Nat} {res:Ty} {d:D}
 (hfn:tM C f shs obs res (es.map (PE.ev ρ)++js.map ρ.o) d):
 Calls C.P f vals.toArray w fun e w'=>∃v dr os,e=.returned v∧d=.tup (dr::os)∧os.length=js.length∧
  ∀ρ':Env,ρ'.r=ρ.r→(∀(k j:Nat),js[k]?=some j→ρ'.o j=os.getD k .none)→(∀j,j∉js→j≠iY→ρ'.o j=ρ.o j)→
   ∃σ1 dF aQ,Inv C (S.handed shs obs is js) ρ' σ1 dF aQ w0 σ0 A a w'∧Rep C.cap σ1 res v dr:=by
 obtain⟨al1,al2,jh⟩:=VL jH;have fD:=VO zD;have uH:w0.heap.size≤w.heap.size:=h.below.size;obtain⟨tr,fx,cx,hf,wV⟩:=h.frame
 let fi:Nat→Value:=fun i=>match cM is js i with|some j=>hv j|none=>undef
 have gh:∀i j,cM is js i=some j→fi i=hv j:=fun i j e=>by simp only[fi,e]
 have WZ:Im.leR C.cap σ σ.noM:=⟨Rep.noM,fun _ _ _ e=>e⟩
 have C7:∀k x,σ.noM.m k=some x→σ.m k=some x∧x≠da:=by
  intro k x e;by_cases hd:σ.m k=some da
  ·simp[Im.noM,hd] at e
  ·simp only[Im.noM,if_neg hd] at e;exact⟨e,fun e2=>hd (by rw[e,e2])⟩
 have pS:(es.map (PE.ev ρ)++js.map ρ.o).drop shs.length=js.map ρ.o:=by rw[List.drop_append];simp[al2]
 have aiO:∀t e,es[t]?=some e→(es.map (PE.ev ρ)++js.map ρ.o).getD t .none=e.ev ρ:=fun t e he=>by
  have ae:=(eE.1 he).1;rw[aH,kT (by simpa using ae),cK,he];rfl
 have ajU:∀s,s∈shs→∃x,kL S.ver is js s=some x:=by
  intro s hs;obtain⟨t,ht⟩:=yb hs;obtain⟨x,e,_,_,he⟩:=jh t s ht;unfold Ci at he;split at he
  ·exact⟨_,rfl⟩
  ·exact⟨_,rfl⟩
  ·split at he
   ·rename_i y hy;exact⟨y,hy⟩
   ·cases he
 have WT:∀t,aE C (gj shs obs) (mX obs (es.map (PE.ev ρ)++js.map ρ.o) ((es.map (PE.ev ρ)++js.map ρ.o).drop shs.length)) σ.noM fi (shs.getD t .none) (vals.toArray.getD t undef) ((es.map (PE.ev ρ)++js.map ρ.o).getD t .none):=by
  intro t;cases hs:shs[t]? with
  |none=>rw[aH,hs];trivial
  |some s=>
   obtain⟨x,e,hx,he,H0⟩:=jh t s hs;obtain⟨d',ah1⟩:=ah0 t x hx;rw[aH (l:=shs),hs,aiO t e he];have e1:vals.toArray.getD t undef=vals.getD t undef:=by simp[eK,aH]
   rw[e1];exact agd WZ gh H0 ah1
 have ai0:∀i,cC C (gj shs obs) (mX obs (es.map (PE.ev ρ)++js.map ρ.o) ((es.map (PE.ev ρ)++js.map ρ.o).drop shs.length)) σ.noM (oS js is own) fi w w0.heap.size i (eN obs i):=by
  intro i;cases cD:cM is js i with
  |none=>subst CW;rw[Ym fD cD];trivial
  |some j=>
   subst CW;obtain⟨x,hx,H2⟩:=VN zD cD;refine amz WZ gh (fun k j' i' hk hl=>by simp only[oS,hk,ko,hl]) Il cD ?_ hx H2 (h.objs j);show nM obs _ i=_;rw[pS];exact akX obs ρ.o rfl cD
 have pR:=hfn w0.heap.size σ.noM (oS js is own) fi w vals.toArray (fun k=>(∃j,own k=some j∧cM js is j=none)∨σ.m k=some da∨(cx k)) ajK ⟨h.ok.c,fun k x e=>h.ok.m k x (C7 k x e).1⟩ ((hC.mono h.le).noM)
  (fun k e=>(C7 k _ e).2 rfl) uH (by simp;omega) (fun k i hk=>by
    simp only[oS,ao] at hk;obtain⟨j,hj,_⟩:=hk;obtain⟨g1,g2,g3,g4⟩:=h.owns k j hj;exact⟨g1,g2,g3,by by_cases e:σ.m k=some da<;>simp[Im.noM,e,g4]⟩) (fun k hk=>by
    rcases hk with⟨j,hj,hn⟩|hk|hk
    ·obtain⟨g1,g2,g3,g4⟩:=h.owns k j hj;exact⟨g2,by simp[oS,hj,hn],g3,by by_cases e:σ.m k=some da<;>simp[Im.noM,e,g4]⟩
    ·have C4:=h.ok.m k _ hk;have hn:own k=none:=by
      cases e:own k with
      |none=>rfl
      |some j=>rw[(h.owns k j e).2.2.2] at hk;cases hk
     refine⟨C4.lt,by simp[oS,hn],fun o=>?_,by simp[Im.noM,hk]⟩;cases e:σ.c k o with
     |none=>exact e
     |some x=>
      have c1:=h.ok.c k o x e;rcases C4 with⟨m1,_⟩|⟨_,m2⟩
      ·exact absurd rfl m1
      ·simp[World.cell?,m2] at c1
    ·have ln:=σ0.sub _ _ _ _ hf.F k hk;have hn:own k=none:=by
      cases e:own k with
      |none=>rfl
      |some j=>exact absurd ln (hf.own k j e)
     refine⟨σ0.lt _ _ _ _ hf.F k ln,by simp[oS,hn],fun o=>?_,?_⟩
     ·cases e:σ.c k o with
      |none=>exact e
      |some x=>exact absurd hk (hf.c k o x e)
     ·cases e:σ.m k with
      |none=>simp[Im.noM,e]
      |some x=>exact absurd hk (hf.m k x e)) WT ai0
 refine pR.mono fun e w' hh=>?_;obtain⟨v,σ',own',hv',dr,os,rfl,hd,NR,hle,az,hb,fh,dp,dq,Ik,Xl,CX,NP,eZ⟩:=hh;refine⟨v,dr,os,rfl,hd,by omega,fun ρ' jm mL wQ=>?_⟩;have Ir:∀k,k<w.heap.size→own k=none→w'.heap[k]?=w.heap[k]?:=fun k hk hn=>fh k hk (by simp[oS,hn]);have ajD:∀k j,own k=some j→cM js is j=none→w'.heap[k]?=w.heap[k]?:=fun k j hk hn=>fh k (h.owns k j hk).2.1 (by simp[oS,hk,hn])
 have aip:∀k o x,σ.c k o=some x→own k=none:=fun k o x e=>by
  cases e1:own k with
  |none=>rfl
  |some j=>rw[(h.owns k j e1).2.2.1 o] at e;cases e
 have Xb:∀k x,σ.m k=some x→own k=none:=fun k x e=>by
  cases e1:own k with
  |none=>rfl
  |some j=>rw[(h.owns k j e1).2.2.2] at e;cases e
 have It:σ.ok w':=⟨fun k o x e=>by rw[World.cell?_of_block (Ir k (h.lt e) (aip k o x e))];exact h.ok.c k o x e,fun k x e=>(h.ok.m k x e).keep (Ir k (h.ltm e) (Xb k x e))⟩
 have l0:σ.le (σ'.plus σ):=Im.plus_le2 az It;have j8:σ'.le (σ'.plus σ):=Im.plus_le1 σ' σ;have dL:∀k o x,(σ'.plus σ).c k o=some x→σ'.c k o=some x:=fun k o x e=>(Im.plus_c e).elim id (fun e=>hle.c k o x e)
 have zK:∀k x,(σ'.plus σ).m k=some x→σ'.m k=some x∨(σ.m k=some x∧x=da):=fun k x e=>(Im.plus_m e).elim .inl (fun e=>by
  by_cases hd:x=da
  ·exact .inr ⟨e,hd⟩
  ·refine .inl (hle.m k x ?_);have:σ.m k≠some da:=fun e2=>hd (by rw[e] at e2;cases e2;rfl);simp only[Im.noM,if_neg this,e])
 let aQ:Nat→Value:=fun j=>match cM js is j with|some i=>hv' i|none=>hv j
 have ako:∀i j,cM is js i=some j→hv' i=aQ j:=fun i j e=>by simp only[aQ,IW Il e]
 have aix:∀i,i∈pC shs→hv' i=fi i:=fun i hi=>ae1 (S:=S) (is:=is) (js:=js) (args:=fun t=>vals.toArray.getD t undef) (ds:=fun t=>(es.map (PE.ev ρ)++js.map ρ.o).getD t .none) (ds':=fun t=>(es.map (PE.ev ρ)++js.map ρ.o).getD t .none) (fun t s hs=>by
  have:=WT t;rw[aH (l:=shs),hs] at this;exact this) (fun t s hs hd=>CX t s hs hd) ajU hi
 have re:Compat S hv (S.handed shs obs is js) aQ:=by
  refine⟨fun j=>?_,fun j e=>?_⟩
  ·show S.ver j≤vC S.ver shs is js j;unfold vC;split
   ·cases aD (pC shs) _<;>simp
   ·exact aX _
  ·change vC S.ver shs is js j=S.ver j at e;show aQ j=hv j;simp only[aQ];unfold vC at e;split at e
   ·rename_i i hi;cases hb:aD (pC shs) i<;>rw[hb] at e
    ·simp at e
    ·try simp only[hi]
     rw[aix i (XP.1 hb),gh i j (IW Xd hi)]
   ·rename_i hi;try simp only[hi]
 have nA:∀k j,D1 js is own own' k=some j→(k<w.heap.size→own k≠none)∧w0.heap.size≤k∧k<w'.heap.size∧(∀o,σ'.c k o=none)∧σ'.m k=none∧σ.m k≠some da:=by
  intro k j hk;simp only[D1] at hk;split at hk
  ·rename_i i hi;obtain⟨g1,g2,g3,g4,g5⟩:=Xl k i hi;have g6:k<w.heap.size→own k≠none:=fun ae e=>g5 ae (by simp[oS,e]);refine⟨g6,g1,g2,g3,g4,fun e=>?_⟩;exact g6 (h.ltm e) (Xb k _ e)
  ·split at hk
   ·rename_i j' bA;split at hk
    ·cases hk
    ·rename_i hn;obtain⟨g1,g2,g3,g4⟩:=h.owns k j' bA;have lj:(∃j,own k=some j∧cM js is j=none)∨σ.m k=some da∨(cx k):=.inl ⟨j',bA,hn⟩;refine⟨fun _ e=>(by rw[bA] at e;cases e),g1,vP g2 hb.size,fun o=>?_,?_,fun e=>?_⟩
     ·cases e:σ'.c k o with
      |none=>rfl
      |some x=>exact absurd lj (dp k o x e).2
     ·cases e:σ'.m k with
      |none=>rfl
      |some x=>exact absurd lj (dq k x e).2
     ·rw[g4] at e;cases e
   ·cases hk
 refine⟨σ'.plus σ,D1 js is own own',aQ,⟨h.defers.mono l0,Im.plus_ok az It,h.le.trans l0,h.old,fun k o x e=>?_,fun k x e=>?_,h.below.trans (Below.weak hb fun k hk=>?_),h.bw,fun k j hk=>?_,fun t=>?_,fun j=>?_,h.opts,?_⟩,eZ.mono j8⟩
 ·rcases(dp k o x (dL k o x e)).1 with e1|e1
  ·exact h.newc k o x e1
  ·exact .inr e1
 ·rcases zK k x e with e1|e1
  ·rcases(dq k x e1).1 with e2|e2
   ·exact h.newm k x (C7 k x e2).1
   ·exact .inr e2
  ·exact h.newm k x e1.1
 ·have bx:k<w0.heap.size:=vP hk h.bw;refine Ir k (by omega) ?_;cases e:own k with
  |none=>rfl
  |some j=>have:=(h.owns k j e).1;omega
 ·obtain⟨_,g1,g2,g3,g4,g5⟩:=nA k j hk;refine⟨g1,g2,fun o=>?_,?_⟩
  ·cases e:(σ'.plus σ).c k o with
   |none=>rfl
   |some x=>have:=dL k o x e;rw[g3 o] at this;cases this
  ·cases e:(σ'.plus σ).m k with
   |none=>rfl
   |some x=>
    rcases zK k x e with e1|e1
    ·rw[g4] at e1;cases e1
    ·exact absurd (by rw[e1.1,e1.2]) g5
 ·show aE C _ ρ' _ aQ (S.r t) _ (ρ'.r t);rw[jm]
  exact aE.mono l0 re (fun gs s e=>by
   unfold holds;rw[jm]) (fun gs s e=>(h.opts t gs s e).2) (h.regs t)
 ·show cC C _ ρ' _ _ aQ w' _ j (match cM js is j with|some i=>(match qA (vC S.ver shs is js) is js (eN obs i) with|some o=>o|none=>.dead)|none=>S.o j);split
  ·rename_i i hi;have cD:=IW Xd hi;split
   ·rename_i x hx;refine amA (S1:=S.handed shs obs is js) j8 ako (fun k i' j' hk hl=>by simp only[D1,hk,hl]) cD ?_ hx (NP i);subst CW;obtain⟨k,bQ,bx⟩:=Yg (os:=os) NR cD;show ρ'.o j=nM obs os i;rw[bx];exact mL k j bQ
   ·trivial
  ·rename_i hn
   have NK:j∉js:=fun hm=>by
        obtain⟨k,hk⟩:=yb hm;have ae:k<is.length:=by
         have:=(eE.1 hk).1;rw[CW,fL];omega
        have:=IV Il hk (bu ae);rw[hn] at this;cases this
   by_cases Ia:j=iY
   ·subst Ia;rw[HX];trivial
   ·refine(h.objs j).mono l0 re (by show aQ j=hv j;simp only[aQ,hn]) (wQ j NK Ia) (fun k hk=>⟨?_,ajD k j hk hn⟩);have:own' k=none:=by
     cases e:own' k with
     |none=>rfl
     |some i=>exact absurd (by simp[oS,hk,hn]) ((Xl k i e).2.2.2.2 (h.owns k j hk).2.1)
    simp only[D1,this,hk,hn]
 ·refine⟨tr,fx,cx,⟨σ0.keep _ _ _ _ _ hf.F hb fun k hk=>?_,fun k j hk ln=>?_,fun k o x e hc=>?_,fun k x e hc=>?_,fun k e hB hk=>?_⟩,fun j hj=>?_⟩
  ·refine Ir k (σ0.lt _ _ _ _ hf.F k hk) ?_;cases e:own k with
   |none=>rfl
   |some j=>exact absurd hk (hf.own k j e)
  ·have ae:=σ0.lt _ _ _ _ hf.F k ln;have:=(nA k j hk).1 ae;cases e:own k with
   |none=>exact this e
   |some j'=>exact hf.own k j' e ln
  ·exact(dp k o x (dL k o x e)).2 (.inr (.inr hc))
  ·rcases zK k x e with e1|e1
   ·exact(dq k x e1).2 (.inr (.inr hc))
   ·exact hf.m k x e1.1 hc
  ·rcases zK k _ e with e1|e1
   ·have ae:=σ0.lt _ _ _ _ hf.F k hk;refine Ik k e1 hB ae ?_;have:own k=none:=by
     cases e:own k with
     |none=>rfl
     |some j=>exact absurd hk (hf.own k j e)
    simp[oS,this]
   ·exact hf.d k e1.1 hB hk
  ·change (match cM js is j with|some i=>(match qA (vC S.ver shs is js) is js (eN obs i) with|some o=>o|none=>.dead)|none=>S.o j)=.tr at hj;split at hj
   ·rename_i i hi;split at hj
    ·rename_i x hx;exact absurd hj (aos hx)
    ·cases hj
   ·rename_i hn
    have NK:j∉js:=fun hm=>by
     obtain⟨k,hk⟩:=yb hm;have ae:k<is.length:=by
         have:=(eE.1 hk).1;rw[CW,fL];omega
     have:=IV Il hk (bu ae);rw[hn] at this;cases this
    have Ia:j≠iY:=fun e=>by subst e;rw[HX] at hj;cases hj
    rw[wQ j NK Ia];exact wV j hj
theorem abW:∀(js:List Nat) (k:Nat) {ρ ρ':Env} {l:List D},PI.runs Φ (Fg js k) ρ=some ρ'→ρ.o iY=.tup l→iY∉js→js.Nodup→
 ρ'.r=ρ.r∧(∀(i j:Nat),js[i]?=some j→ρ'.o j=l.getD (k+i) .none)∧∀j,j∉js→ρ'.o j=ρ.o j
 |[],k,ρ,ρ',l,h,hs,hn,hd=>by
  simp only[Fg,PI.runs,aR] at h;subst h;exact⟨rfl,fun i j e=>by simp at e,fun _ _=>rfl⟩
 |x::js,k,ρ,ρ',l,h,hs,hn,hd=>by
  simp only[Fg,PI.runs,PI.run,ko,PE.ev,hs,D.tget] at h;simp only[cW,not_or] at hn;have ia:=np.1 hd;obtain⟨g1,g2,g3⟩:=abW js (k+1) h (by simp only[Env.setO];rw[bk _ _ hn.1];exact hs) hn.2 ia.2;refine⟨g1,fun i j e=>?_,fun j hj=>?_⟩
  ·cases i with
   |zero=>simp at e;subst e;rw[g3 _ ia.1];simp[Env.setO,aK]
   |succ i=>simp at e;rw[g2 i j e];congr 1;omega
  ·simp only[cW,not_or] at hj;rw[g3 j hj.2];simp only[Env.setO];exact bk _ _ hj.1
theorem ade (h:Inv C S ρ σ own hv w0 σ0 A a w)(hC:CtxOK C σ0)(x:Operand):∃d,Fw C S ρ σ hv (FX C S x) (a.eval x) d:=by
 cases x with
 |tmp t=>
  refine⟨ρ.r t,?_,fun y hy=>cB (gs:=[]) h hC rfl hy⟩;have:=(m8 (gs:=[]) h rfl t).1;simpa [Act.eval,FX,fp] using this
 |_=>exact⟨.none,trivial,fun y hy=>cB (gs:=[]) h hC rfl hy⟩
theorem Vm (h:Inv C S ρ σ own hv w0 σ0 A a w)(hC:CtxOK C σ0)(hΦ:dQ C Φ){f:Nat}{args:List Operand}{caps:List (Nat×Nat)}{vs:List Value}(cE:vs.length=caps.length)
 (fg:∀(i j ver:Nat),caps[i]?=some (j,ver)→ver≤S.ver j∧(ver=S.ver j→vs.getD i undef=hv j)) (aif:∀(i j ver:Nat),caps[i]?=some (j,ver)→ver=S.ver j→∃k,hv j=.pointer (some ⟨k,0,none⟩)) {r:St×Ty×List PI} (hr:qW C S f args caps=some r)
 {ρ1:Env} (af:PI.runs Φ r.2.2 ρ=some ρ1):
 Calls C.P f (args.map a.eval++vs).toArray w fun e w'=>∃v σ1 dF aQ,e=.returned v∧Inv C r.1 ρ1 σ1 dF aQ w0 σ0 A a w'∧Rep C.cap σ1 r.2.1 v ((ρ1.o iY).tget 0):=by
 simp only[qW,ao] at hr;obtain⟨s,hs,hr⟩:=hr;split at hr
 case h_2=>cases hr
 rename_i shs obs lu;obtain⟨σ2,jo,j8,h2⟩:=Inv.fzs (zm S args shs) h;have dO:=(ox (zm S args shs) S).1;generalize S.fzs (zm S args shs)=S2 at hr h2 dO;unfold Mj Mi at hr;generalize VF S2 shs obs (args.map (FX C S2)++caps.map UX)=js at hr;simp only[ao] at hr;obtain⟨es,jH,hr⟩:=hr;cases hb:(xn shs obs&&(gS (obs.map (·.1))&&gS js&&q6 S2 (obs.map (·.1)) js obs js&&oL (S2.o iY)&& !aD js iY))<;>simp only[hb,cond_true,cond_false] at hr
 ·cases hr
 cases hr;simp only[aj,iy] at hb;obtain⟨b0,⟨⟨⟨b1,b2⟩,b3⟩,b4⟩,b5⟩:=hb;have l7:=mW b1;have p8:=mW b2;have HX:S2.o iY=.dead:=by
  cases e:S2.o iY<;>rw[e] at b4<;>first|rfl|cases b4
 have Iy:iY∉js:=fun hm=>by rw[XP.2 hm] at b5;cases b5
 simp only[PI.runs,PI.run,ao,ax] at af;obtain⟨ρ2,⟨d,hd,rfl⟩,af⟩:=af;rw[PE.evs_eq,oa,K3] at hd;have e1:js.map (PE.ev ρ∘PE.o)=js.map ρ.o:=rfl;rw[e1] at hd;have hfn:=((hΦ f _ d hd s hs).2 shs obs lu).plain b0
 have pR:=handed h2 hC b0 rfl l7 p8 b3 jH HX Iy (vals:=args.map a.eval++vs) (by simp[cE]) (fun t x hx=>by
  rw[mw] at hx;split at hx
  ·rename_i ae;rw[fL] at ae;rw[cK,bu ae] at hx;cases hx;have:(args.map a.eval++vs).getD t undef=a.eval args[t]:=by
        rw[aH,kT (by simpa using ae),cK,bu ae];rfl
   rw[this];exact ade h2 hC _
  ·rename_i fP;rw[fL] at fP hx;rw[cK,ax] at hx;obtain⟨c,hc,rfl⟩:=hx;obtain⟨j,ver⟩:=c;have cl:(args.map a.eval++vs).getD t undef=vs.getD (t-args.length) undef:=by
        rw[aH,jx (by simpa using fP),fL,aH]
   obtain⟨g1,g2⟩:=fg _ j ver hc;refine⟨.none,⟨by rw[dO];exact g1,fun e=>?_⟩,fun y hy=>by cases hy⟩;rw[dO] at e;obtain⟨k,hk⟩:=aif _ j ver hc e;exact⟨k,hk,by rw[cl,g2 e,hk]⟩) (hfn:=hfn)
 refine pR.mono fun e w' hh=>?_;obtain⟨v,dr,os,rfl,rfl,NR,iN⟩:=hh;obtain⟨g1,g2,g3⟩:=abW js 1 (l:=dr::os) af (by simp[Env.setO,aK]) Iy p8
 obtain⟨σ1,dF,aQ,hinv,bN⟩:=iN ρ1 g1 (fun k j hk=>by
  have:=g2 k j hk;rw[Bi] at this;simpa using this) (fun j hj ay=>by rw[g3 j hj];simp only[Env.setO];exact bk _ _ ay)
 refine⟨v,σ1,dF,aQ,rfl,hinv,?_⟩;rw[g3 iY Iy];simpa [Env.setO,aK,D.tget] using bN
def qn (S:St)(dst:Option Nat)(r:St×Ty×List PI):St×List PI:=
 match dst with
 |some d=>(r.1.setR d (.dat r.2.1),r.2.2++[.setR d (.tget (.o iY) 0)])
 |none=>(r.1,r.2.2)
theorem aoK {a b:List PI}{ρ:Env}:PI.runs Φ (a++b) ρ=(PI.runs Φ a ρ).bind (PI.runs Φ b):=by
 induction a generalizing ρ with
 |nil=>simp[PI.runs]
 |cons x a ih=>
  simp only[FG,PI.runs];cases x.run Φ ρ with
  |none=>rfl
  |some ρ1=>simp[ih]
theorem UT {o:Oper}{f:Nat}{vals:List Value}(ht:∀d,o.dst=some d→¬A d∧d<a.tmps.size){r:St×Ty×List PI}(hx:(execOp a.eval o).run C.P w=.ok (.enter f vals.toArray) w)
 (hc:∀ρ1,PI.runs Φ r.2.2 ρ=some ρ1→Calls C.P f vals.toArray w fun e w'=>∃v σ1 dF aQ,e=.returned v∧Inv C r.1 ρ1 σ1 dF aQ w0 σ0 A a w'∧Rep C.cap σ1 r.2.1 v ((ρ1.o iY).tget 0)):bW C w0 σ0 Φ S ρ A a w o (qn S o.dst r):=by
 intro ρ' af K Q hK;simp only[Oper.wp,hx,Oper.upon];cases hd:o.dst with
 |none=>
  rw[hd] at af hK;refine(hc ρ' af).mono fun e w' hh=>?_;obtain⟨v,σ1,dF,aQ,rfl,hinv,bN⟩:=hh;refine hK _ _ ⟨σ1,dF,aQ,?_⟩ rfl;have:(fun u=>A u∨(none:Option Nat)=some u)=A:=by funext u;simp
  rw[this];exact hinv
 |some d=>
  rw[hd] at af hK;obtain⟨t1,t2⟩:=ht d hd;simp only[qn,aoK,ao] at af;obtain⟨ρ1,h1,h2⟩:=af;simp[PI.runs,PI.run,PE.ev] at h2;subst h2;refine(hc ρ1 h1).mono fun e w' hh=>?_;obtain⟨v,σ1,dF,aQ,rfl,hinv,bN⟩:=hh;refine hK _ _ ⟨σ1,dF,aQ,?_⟩ (size_put _ _ _);have:(fun u=>A u∨some d=some u)=(fun u=>A u∨u=d):=by funext u;simp[eq_comm]
  rw[this];exact hinv.setReg t1 (s:=.dat r.2.1) bN t2 (fun _ _ e=>by cases e)
theorem Vn (h:Inv C S ρ σ own hv w0 σ0 A a w)(hC:CtxOK C σ0)(aS:eD C)(hΦ:dQ C Φ){f:Nat}{args:Array Operand}{ts:Array TypeId}{r:St×Ty×List PI}{o:Oper}(ht:∀d,o.dst=some d→¬A d∧d<a.tmps.size)
 (hr:qW C S f args.toList []=some r) (ho:o.op=.call {callee:=.value (.func f),args:=args,argTypes:=ts}):bW C w0 σ0 Φ S ρ A a w o (qn S o.dst r):=by
 have hs:∃s,C.sig f=some s:=by
  simp only[qW,ao] at hr;obtain⟨s,hs,_⟩:=hr;exact⟨s,hs⟩
 obtain⟨s,hs⟩:=hs;have hx:=E8 (a:=a) (w:=w) aS hs ho;have kc:args.map a.eval=(args.toList.map a.eval++[]).toArray:=by apply rS;simp
 rw[kc] at hx;exact UT ht hx fun ρ1 af=>Vm h hC hΦ (vs:=[]) rfl (fun i j ver e=>by simp at e) (fun i j ver e=>by simp at e) hr af
def yn (S:St):List (Nat×Nat)→Bool
 |[]=>true
 |c::l=>Nat.beq c.2 (S.ver c.1)&&(match S.o c.1 with|.box ..=>true|_=>false)&&yn S l
theorem UZ (h:Inv C S ρ σ own hv w0 σ0 A a w):∀{l:List (Nat×Nat)},yn S l=true→∀(i j ver:Nat),l[i]?=some (j,ver)→ver=S.ver j∧∃k,hv j=.pointer (some ⟨k,0,none⟩)
 |[],_,i,j,ver,e=>by simp at e
 |c::l,hl,i,j,ver,e=>by
  simp only[yn,aj] at hl;cases i with
  |zero=>
   simp at e;subst e;refine⟨aw hl.1.1,?_⟩;have h1:=hl.1.2;have h2:=h.objs j;split at h1
   ·rename_i ag shs eo;simp only at eo;rw[eo] at h2;obtain⟨k,cs,T,ds,g1,_⟩:=h2;exact⟨k,g1⟩
   ·cases h1
  |succ i=>simp at e;exact UZ h hl.2 i j ver e
def zf (C:Ctx)(S:St)(t:Nat)(args:List Operand):Option (St×Ty×List PI):=
 match kM S [] t with
 |.fclo f caps=>bif yn S caps then qW C S f args caps else none
 |_=>none
theorem Vl (h:Inv C S ρ σ own hv w0 σ0 A a w)(hC:CtxOK C σ0)(aS:eD C)(hΦ:dQ C Φ){t:Nat}{args:Array Operand}{ts:Array TypeId}{r:St×Ty×List PI}{o:Oper}(ht:∀d,o.dst=some d→¬A d∧d<a.tmps.size)
 (hr:zf C S t args.toList=some r) (ho:o.op=.call {callee:=.value (.tmp t),args:=args,argTypes:=ts}):bW C w0 σ0 Φ S ρ A a w o (qn S o.dst r):=by
 unfold zf at hr;split at hr
 case h_2=>cases hr
 rename_i f caps eL;cases hb:yn S caps<;>simp only[hb,cond_true,cond_false] at hr
 ·cases hr
 have gu:=(m8 (gs:=[]) h rfl t).1;rw[eL] at gu;obtain⟨vs,h1,h2,h3⟩:=gu;have hs:∃s,C.sig f=some s:=by
  simp only[qW,ao] at hr;obtain⟨s,hs,_⟩:=hr;exact⟨s,hs⟩
 obtain⟨s,hs⟩:=hs;have hx:=abM (a:=a) (w:=w) (vs:=vs) (x:=.tmp t) aS hs (by simpa [Act.eval] using h1) ho;have kc:args.map a.eval++vs.toArray=(args.toList.map a.eval++vs).toArray:=by apply rS;simp
 rw[kc] at hx;exact UT ht hx fun ρ1 af=>Vm h hC hΦ h2 h3 (fun i j ver e _=>(UZ h hb i j ver e).2) hr af
def BG (S:St):List Operand→Option (List (Nat×Nat))
 |[]=>some []
 |x::xs=>
  match x with
  |.tmp t=>
   match kM S [] t with
   |.ptr j ver off=>bif Nat.beq ver (S.ver j)&&Nat.beq off 0 then(BG S xs).map fun r=>(j,ver)::r else none
   |_=>none
  |_=>none
def B5 (C:Ctx)(S:St)(dst:Nat)(fn:Fn)(first caps:Array Operand):Option (St×List PI):=
 match fn,first.toList with
 |.func f,[]=>
  match C.sig f with
  |some s=>bif qj s.mode then(BG S caps.toList).map fun c=>(S.setR dst (.fclo f c),[.setR dst (.con .none)]) else none
  |none=>none
 |_,_=>none
theorem U0 (h:Inv C S ρ σ own hv w0 σ0 A a w):∀{l:List Operand} {c:List (Nat×Nat)},BG S l=some c→c.length=l.length∧∀(i j ver:Nat),c[i]?=some (j,ver)→ver≤S.ver j∧(ver=S.ver j→(l.map a.eval).getD i undef=hv j)
 |[],c,e=>by simp only[BG,aR] at e;subst e;exact⟨rfl,fun i j ver e=>by simp at e⟩
 |x::xs,c,e=>by
  simp only[BG] at e;split at e
  case h_2=>cases e
  rename_i t;split at e
  case h_2=>cases e
  rename_i j ver off eL;cases hb:(Nat.beq ver (S.ver j)&&Nat.beq off 0)<;>simp only[hb,cond_true,cond_false] at e
  ·cases e
  simp only[aj] at hb;simp only[ax] at e;obtain⟨r,hr,rfl⟩:=e;obtain⟨g1,g2⟩:=U0 h hr;have gu:=(m8 (gs:=[]) h rfl t).1;rw[eL] at gu;refine⟨by simp[g1],fun i j' nj e=>?_⟩;cases i with
  |zero=>
   simp at e;obtain⟨rfl,rfl⟩:=e;refine⟨gu.1,fun e=>?_⟩;obtain⟨k,k1,k2⟩:=gu.2 e;have e0:off=0:=aw hb.2;subst e0;rw[k1,←k2];simp[Act.eval]
  |succ i=>simp at e;simpa using g2 i j' nj e
theorem afy (h:Inv C S ρ σ own hv w0 σ0 A a w)(ht:¬A dst)(ae:dst<a.tmps.size){fn:Fn}{first caps:Array Operand}{r:St×List PI}{o:Oper}(hr:B5 C S dst fn first caps=some r)(hd:o.dst=some dst)(ho:o.op=.makeFunc fn first caps):bW C w0 σ0 Φ S ρ A a w o r:=by
 unfold B5 at hr;split at hr
 case h_2=>cases hr
 rename_i f CR;split at hr
 case h_2=>cases hr
 rename_i s hs;cases hb:qj s.mode<;>simp only[hb,cond_true,cond_false] at hr
 ·cases hr
 simp only[ax] at hr;obtain⟨c,hc,rfl⟩:=hr;obtain⟨g1,g2⟩:=U0 h hc;have CO:first=#[]:=by rw[←tJ];simpa using CR
 refine bW.value hd fun ρ' af=>⟨.func (.func f) #[] (caps.toList.map a.eval).toArray,w,?_,?_⟩
 ·subst CO;have e9:caps.map a.eval=(caps.toList.map a.eval).toArray:=by apply rS;rw[vI]
  simp[execOp,ho,Instr.makeFunc,e9]
 ·have hρ:ρ'=ρ.setR dst .none:=by simp[PI.runs,PI.run,PE.ev] at af;exact af.symm
  subst hρ;exact⟨_,_,_,h.setReg ht (s:=.fclo f c) ⟨_,rfl,by simp[g1],g2⟩ ae (fun _ _ e=>by cases e)⟩
end
end Cx
