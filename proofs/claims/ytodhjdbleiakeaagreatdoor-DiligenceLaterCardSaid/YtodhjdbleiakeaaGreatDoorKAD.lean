/-
  Shared texts of this claim.
-/
import Derived.Test.YtodhjdbleiakeaaGreatDoorKAC
set_option linter.unusedSimpArgs false
set_option linter.unusedVariables false
namespace Cx
open Go Go.RowKit
open Classical in
noncomputable def Im.noM (σ:Im):Im:=⟨σ.c,fun k=>if σ.m k=some cC then none else σ.m k⟩
theorem Rep.noM {cap:Nat→Option CSig}{σ:Im}{t:Ty}{v:Value}{d:D}(h:Rep cap σ t v d):Rep cap σ.noM t v d:=by
 induction h with
 |int k n h1 h2=>exact .int k n h1 h2
 |bool b=>exact .bool b
 |str s h=>exact .str s h
 |agg ts vs ds h1 h2 _ ho ih=>exact .agg ts vs ds h1 h2 ih ho
 |tup ts vs ds h1 h2 _ ih=>exact .tup ts vs ds h1 h2 ih
 |nil e=>exact .nil e
 |emp e a=>exact .emp e a
 |nils e=>exact .nils e
 |nsl0 e=>exact .nsl0 e
 |nsl e k o n c xs _ hx ih=>exact .nsl e k o n c xs ih hx
 |slice e k o n c xs vs hn hc hm _ hv ih=>exact .slice e k o n c xs vs hn hc hm ih hv
 |mapnil kt et=>exact .mapnil kt et
 |map kt et r ij es hm hl hx hk _ jn BF=>
  refine .map kt et r ij es ?_ hl hx jn BF;have aD:σ.m r≠some cC:=fun e=>by rw[hm] at e;cases e;exact BU hl hk rfl
  simp only[Im.noM,if_neg aD,hm]
 |ref t k o v d _ hv ih=>exact .ref t k o v d ih hv
 |fn f cs vs ds hc h1 h2 _ ih=>exact .fn f cs vs ds hc h1 h2 ih
 |fnnil aa r=>exact .fnnil aa r
def Im.plus (σ τ:Im):Im:=⟨fun k o=>(σ.c k o).or (τ.c k o),fun k=>(σ.m k).or (τ.m k)⟩
theorem Im.plus_le1 (σ τ:Im):σ.le (σ.plus τ):=⟨fun k o v h=>by simp[Im.plus,h],fun k v h=>by simp[Im.plus,h]⟩
theorem pq.det {w:World}{k:Nat}{x y:List (Value×Value)}(h:pq w k x)(g:pq w k y):x=y:=by
 rcases h with⟨_,a,c,h1,h2⟩|⟨h1,h2⟩<;>rcases g with⟨_,a',c',g1,g2⟩|⟨g1,g2⟩
 ·rw[h1] at g1;cases g1;rw[←h2,←g2]
 ·rw[h1] at g2;cases g2
 ·rw[h2] at g1;cases g1
 ·rw[h1,g1]
theorem Im.plus_le2 {σ τ:Im}{w:World}(h:σ.ok w)(g:τ.ok w):τ.le (σ.plus τ):=by
 refine⟨fun k o v e=>?_,fun k v e=>?_⟩
 ·show(σ.c k o).or (τ.c k o)=some v;cases hc:σ.c k o with
  |none=>simpa using e
  |some u=>have:=(h.c k o u hc).symm.trans (g.c k o v e);simpa using this
 ·show(σ.m k).or (τ.m k)=some v;cases hc:σ.m k with
  |none=>simpa using e
  |some u=>simpa using(h.m k u hc).det (g.m k v e)
theorem Im.plus_ok {σ τ:Im}{w:World}(h:σ.ok w)(g:τ.ok w):(σ.plus τ).ok w:=by
 refine⟨fun k o v e=>?_,fun k v e=>?_⟩
 ·change (σ.c k o).or (τ.c k o)=some v at e;cases hc:σ.c k o with
  |none=>rw[hc] at e;exact g.c k o v (by simpa using e)
  |some u=>rw[hc] at e;simp at e;subst e;exact h.c k o u hc
 ·change (σ.m k).or (τ.m k)=some v at e;cases hc:σ.m k with
  |none=>rw[hc] at e;exact g.m k v (by simpa using e)
  |some u=>rw[hc] at e;simp at e;subst e;exact h.m k u hc
theorem Im.plus_c {σ τ:Im}{k o:Nat}{v:Value}(h:(σ.plus τ).c k o=some v):σ.c k o=some v∨τ.c k o=some v:=by
 change (σ.c k o).or (τ.c k o)=some v at h;cases hc:σ.c k o with
 |none=>rw[hc] at h;exact .inr (by simpa using h)
 |some u=>rw[hc] at h;exact .inl (by simpa using h)
theorem Im.plus_m {σ τ:Im}{k:Nat}{v:List (Value×Value)}(h:(σ.plus τ).m k=some v):σ.m k=some v∨τ.m k=some v:=by
 change (σ.m k).or (τ.m k)=some v at h;cases hc:σ.m k with
 |none=>rw[hc] at h;exact .inr (by simpa using h)
 |some u=>rw[hc] at h;exact .inl (by simpa using h)
def Ty.pureT:Ty→Bool
 |.int _|.bool|.str|.nils _=>true
 |_=>false
def Ty.pure:Ty→Bool
 |.tup ts=>ts.all Ty.pureT
 |.agg ts=>ts.all Ty.pureT
 |t=>Ty.pureT t
theorem Rep.pureT {cap:Nat→Option CSig}{σ τ:Im}{t:Ty}{v:Value}{d:D}(h:Rep cap σ t v d)(hp:t.pureT=true):Rep cap τ t v d:=by
 cases h<;>simp[Ty.pureT] at hp<;>constructor<;>assumption
theorem Rep.pure {cap:Nat→Option CSig}{σ τ:Im}{t:Ty}{v:Value}{d:D}(h:Rep cap σ t v d)(hp:t.pure=true):Rep cap τ t v d:=by
 cases h with
 |agg ts vs ds h1 h2 h ho=>exact .agg ts vs ds h1 h2 (fun i t hi=>(h i t hi).pureT (List.all_eq_true.1 hp t (List.mem_of_getElem? hi))) ho
 |tup ts vs ds h1 h2 h=>exact .tup ts vs ds h1 h2 (fun i t hi=>(h i t hi).pureT (List.all_eq_true.1 hp t (List.mem_of_getElem? hi)))
 |int k n h1 h2=>exact .int k n h1 h2
 |bool b=>exact .bool b
 |str s h=>exact .str s h
 |nils e=>exact .nils e
 |_=>simp[Ty.pure,Ty.pureT] at hp
def oG (C:Ctx)(s:Sig)(σ':Im)(w w':World)(v:Value)(d:D):Prop:=
 match s.mode with
 |.dat=>Rep C.cap σ' s.res v d
 |.it _=>True
 |.ob ..=>True
 |.row T e=>∃cells xs,d=.list xs∧w'.ownsRow w.heap.size T e.size v xs.length cells∧fU C.cap σ' e cells xs∧∀k,v.ownBlock=some k→(∀o,σ'.c k o=none)∧σ'.m k=none
def oF (C:Ctx)(σ:Im)(ts:List Ty)(args:List Value)(ds:List D):Prop:=
 args.length=ts.length∧ds.length=ts.length∧∀(i:Nat) (t:Ty),ts[i]?=some t→Rep C.cap σ t (args.getD i undef) (ds.getD i .none)
def kC (C:Ctx)(f:Nat)(s:Sig)(ds:List D)(d:D):Prop:=
 ∀(σ:Im) (w:World) (args:Array Value),σ.ok w→CtxOK C σ→oF C σ s.args args.toList ds→
  Calls C.P f args w fun e w'=>∃v σ',e=.returned v∧σ.le σ'∧σ'.ok w'∧Below w.heap.size w w'∧
   (∀k o x,σ'.c k o=some x→σ.c k o=some x∨w.heap.size≤k)∧(∀k x,σ'.m k=some x→σ.m k=some x∨w.heap.size≤k)∧oG C s σ' w w' v d
def dI:List (Nat×Ob)→Nat→Ob
 |[],_=>.dead
 |x::l,j=>bif Nat.beq x.1 j then x.2 else dI l j
def l5:List (Nat×Ob)→List D→Nat→D
 |x::l,d::ds,j=>bif Nat.beq x.1 j then d else l5 l ds j
 |_,_,_=>.none
def eY (shs:List Sh)(obs:List (Nat×Ob)):St:=⟨fun t=>shs.getD t .none,fun j=>dI obs j,fun _=>0⟩
def kV (obs:List (Nat×Ob))(ds os:List D):Env:=⟨fun t=>ds.getD t .none,fun j=>l5 obs os j⟩
def lW:Sh→Bool
 |.dat _=>true
 |_=>false
def pv:Mode→Bool
 |.ob ..=>true
 |_=>false
def qJ:Sh→Bool
 |.none|.dat _|.obj ..|.ptr ..|.fclo ..=>true
 |_=>false
def Ke:Ob→Bool
 |.row ..|.mp ..=>true
 |.box _ shs=>shs.all qJ
 |_=>false
def BZ (shs:List Sh)(obs:List (Nat×Ob)):Bool:=shs.all qJ&&obs.all fun x=>Ke x.2
def kD (C:Ctx)(f:Nat)(shs:List Sh)(obs:List (Nat×Ob))(res:Ty)(ds:List D)(d:D):Prop:=
 ∀(N:Nat) (σ:Im) (own:Nat→Option Nat) (hv:Nat→Value) (w:World) (args:Array Value) (cx:Nat→Prop),BZ shs obs=true→σ.ok w→CtxOK C σ→(∀k,σ.m k≠some cC)→N≤w.heap.size→args.size=shs.length→
  (∀k j,own k=some j→N≤k∧k<w.heap.size∧(∀o,σ.c k o=none)∧σ.m k=none)→
  (∀k,cx k→k<w.heap.size∧own k=none∧(∀o,σ.c k o=none)∧σ.m k=none)→
  (∀t,aK C (eY shs obs) (kV obs ds (ds.drop shs.length)) σ hv (shs.getD t .none) (args.getD t undef) (ds.getD t .none))→
  (∀j,bT C (eY shs obs) (kV obs ds (ds.drop shs.length)) σ own hv w N j (dI obs j))→
  Calls C.P f args w fun e w'=>∃v σ' own' hv' dr os,e=.returned v∧d=.tup (dr::os)∧os.length=obs.length∧σ.le σ'∧σ'.ok w'∧Below 0 w w'∧
   (∀k,k<w.heap.size→own k=none→w'.heap[k]?=w.heap[k]?)∧
   (∀k o x,σ'.c k o=some x→(σ.c k o=some x∨N≤k)∧¬cx k)∧(∀k x,σ'.m k=some x→(σ.m k=some x∨N≤k)∧¬cx k)∧(∀k,σ'.m k=some cC→N≤k→k<w.heap.size→own k≠none)∧
   (∀k j,own' k=some j→N≤k∧k<w'.heap.size∧(∀o,σ'.c k o=none)∧σ'.m k=none∧(k<w.heap.size→own k≠none))∧
   (∀(t:Nat) (sh:Sh),shs[t]?=some sh→lW sh=false→aK C (eY shs obs) (kV obs ds os) σ' hv' sh (args.getD t undef) (ds.getD t .none))∧
   (∀j,bT C (eY shs obs) (kV obs ds os) σ' own' hv' w' N j (dI obs j))∧Rep C.cap σ' res v dr
theorem aK.ctx {C C':Ctx}(jC:C'.cap=C.cap){S:St}{ρ:Env}{σ:Im}{hv:Nat→Value}{s:Sh}(hp:qJ s=true){v:Value}{d:D}(h:aK C S ρ σ hv s v d):aK C' S ρ σ hv s v d:=by
 cases s with
 |dat t=>show Rep C'.cap σ t v d;rw[jC];exact h
 |opt gs s=>cases hp
 |eptr j ver a b=>cases hp
 |yv=>cases hp
 |_=>exact h
theorem bT.ctx {C C':Ctx}(jC:C'.cap=C.cap){S:St}{ρ:Env}{σ:Im}{own:Nat→Option Nat}{hv:Nat→Value}{w:World}{N j:Nat}{ob:Ob}(hp:Ke ob=true∨ob=.dead)(h:bT C S ρ σ own hv w N j ob):bT C' S ρ σ own hv w N j ob:=by
 rcases hp with hp|rfl
 ·cases ob with
  |row T e=>obtain⟨cells,xs,h1,h2,h3,h4⟩:=h;exact⟨cells,xs,h1,h2,by rw[jC];exact h3,h4⟩
  |mp kt et=>obtain⟨k,arr,clock,es,h1,h2,h3,h4,h5,h6,h7⟩:=h;exact⟨k,arr,clock,es,h1,h2,h3,h4,h5,h6,by rw[jC];exact h7⟩
  |box ag shs=>
   obtain⟨k,cs,T,ds,h1,h2,h3,h4,h5,h6,h7⟩:=h;exact⟨k,cs,T,ds,h1,h2,h3,h4,h5,h6,fun i s hs=>⟨(h7 i s hs).1,(h7 i s hs).2.ctx jC (List.all_eq_true.1 hp s (List.mem_of_getElem? hs))⟩⟩
  |_=>cases hp
 ·trivial
theorem Ze {obs:List (Nat×Ob)}(h:(obs.all fun x=>Ke x.2)=true)(j:Nat):Ke (dI obs j)=true∨dI obs j=.dead:=by
 induction obs with
 |nil=>exact .inr rfl
 |cons x l ih=>
  simp only[List.all_cons,Bool.and_eq_true] at h;simp only[dI];cases hb:Nat.beq x.1 j
  ·exact ih h.2
  ·exact .inl h.1
theorem kD.ctx {C C':Ctx}{f:Nat}{shs:List Sh}{obs:List (Nat×Ob)}{res:Ty}{ds:List D}{d:D}(h:kD C f shs obs res ds d)(hP:C'.P=C.P)(jC:C'.cap=C.cap)(NS:C'.glob=C.glob):kD C' f shs obs res ds d:=by
 intro N σ own hv w args cx hp aA hC bh hN aL bN jF h1 h2;have aR:=hp;simp only[BZ,Bool.and_eq_true] at aR;have qw:∀t s,shs[t]?=some s→qJ s=true:=fun t s hs=>List.all_eq_true.1 aR.1 s (List.mem_of_getElem? hs);have hC':CtxOK C σ:=⟨fun g x hx=>by have:=hC.glob g x (by rw[NS];exact hx);rwa [jC] at this⟩
 have:=h N σ own hv w args cx hp aA hC' bh hN aL bN jF (fun t=>by
  cases hs:shs[t]? with
  |none=>rw[List.getD_eq_getElem?_getD,hs];trivial
  |some s=>have:=h1 t;rw[List.getD_eq_getElem?_getD,hs] at this ⊢;exact this.ctx jC.symm (qw t s hs)) (fun j=>(h2 j).ctx jC.symm (Ze aR.2 j))
 rw[hP];refine this.mono fun e w' hh=>?_;obtain⟨v,σ',own',hv',dr,os,g1,g2,g3,g4,g5,g6,g7,g8,g9,g10,g11,g12,g13,g14⟩:=hh;exact⟨v,σ',own',hv',dr,os,g1,g2,g3,g4,g5,g6,g7,g8,g9,g10,g11,fun t sh hs hd=>(g12 t sh hs hd).ctx jC (qw t sh hs),fun j=>(g13 j).ctx jC (Ze aR.2 j),by rw[jC];exact g14⟩
def cS (C:Ctx)(Φ:aT):Prop:=∀f ds d,Φ f ds=some d→∀s,C.sig f=some s→(pv s.mode=false→kC C f s ds d)∧∀shs obs,s.mode=.ob shs obs→kD C f shs obs s.res ds d
def kS:List Ty→Ty→Option (List Ty)
 |[.fn ys .bool],.tup []=>some ys
 |_,_=>none
def dp (C:Ctx):Prop:=(∀f cs,C.cap f=some cs→kS cs.args cs.res=none→C.sig f=some ⟨cs.args++cs.caps,cs.res,.dat⟩)∧∀f s,C.sig f=some s→∃fn,C.P.funcs[f]?=some fn∧fn.body.isSome=true∧(fn.name== "runtime.NumGoroutine")=false
def bV (S:St)(gs:List (Nat×Bool)):List Operand→List Nat
 |[]=>[]
 |x::xs=>
  match fG S gs x with
  |.obj j ver=>bif Nat.beq ver (S.ver j)&&lX (S.o j) then j::bV S gs xs else bV S gs xs
  |_=>bV S gs xs
def gK (gs:List (Nat×Bool))(s:Sh):Sh:=
 match gs with
 |[]=>s
 |_=>.opt gs s
def St.fzs (S:St)(js:List Nat):St:=js.foldl St.fz S
def nz (C:Ctx)(S:St)(gs:List (Nat×Bool))(dst:Nat)(f:Nat)(args:List Operand):Option (St×Sh×List PI):=
 (C.sig f).bind fun s=>
    match s.mode with
    |.dat=>
     (kz C (S.fzs (bV S gs args)) gs args).bind fun u=>
       bif Ty.subs u.1 s.args then some (bif s.res.pure then S else S.fzs (bV S gs args),.dat s.res,[.call gs dst f u.2]) else Option.none
    |_=>Option.none
def Ak (C:Ctx)(S:St)(dst:Nat)(f:Nat)(args:List Operand):kB:=
 (C.sig f).bind fun s=>
    match s.mode with
    |.row T e=>
     (kz C (S.fzs (bV S [] args)) [] args).bind fun u=>
       bif Ty.subs u.1 s.args then some (mkObj (bif e.pure then S else S.fzs (bV S [] args)) dst (.row T e),[.call [] dst f u.2,.setO dst (.r dst),.setR dst (.con .none)]) else Option.none
    |_=>Option.none
def my (C:Ctx)(S:St)(gs:List (Nat×Bool))(dst:Nat)(x:Operand)(args:List Operand):Option (St×Sh×List PI):=
 match use C S gs x with
 |some (.fn aa r,e)=>
  match kS aa r with
  |some _=>Option.none
  |Option.none=>
  (kz C (S.fzs (bV S gs args)) gs args).bind fun u=>
    bif Ty.subs u.1 aa then some (bif r.pure then S else S.fzs (bV S gs args),.dat r,[.callc gs dst e u.2]) else Option.none
 |_=>Option.none
theorem oV:∀(js:List Nat) (S:St),(S.fzs js).ver=S.ver∧(S.fzs js).r=S.r
 |[],S=>⟨rfl,rfl⟩
 |j::js,S=>by
  obtain⟨h1,h2⟩:=oV js (S.fz j);obtain⟨k1,k2⟩:=FX S j;exact⟨h1.trans k1,h2.trans k2⟩
section
variable {C:Ctx} {S:St} {ρ:Env} {σ:Im} {own:Nat→Option Nat} {hv:Nat→Value} {w0:World} {σ0:Base} {A:Nat→Prop} {a:Act} {w:World} {gs:List (Nat×Bool)} {Φ:aT} {dst:Nat}
theorem Inv.fzs:∀(js:List Nat) {S:St} {σ:Im} {own:Nat→Option Nat},Inv C S ρ σ own hv w0 σ0 A a w→∃σ' own',σ.le σ'∧Inv C (S.fzs js) ρ σ' own' hv w0 σ0 A a w
 |[],S,σ,own,h=>⟨σ,own,.refl σ,h⟩
 |j::js,S,σ,own,h=>by
  obtain⟨σ1,dk,hle,h1⟩:=h.fz j;obtain⟨σ2,gC,kN,h2⟩:=Inv.fzs js h1;exact⟨σ2,gC,hle.trans kN,h2⟩
theorem Inv.world (h:Inv C S ρ σ own hv w0 σ0 A a w){σ':Im}{w':World}(hle:σ.le σ')(aA:σ'.ok w')(hb:Below w.heap.size w w')(db:∀k o x,σ'.c k o=some x→σ.c k o=some x∨w.heap.size≤k)
 (cP:∀k x,σ'.m k=some x→σ.m k=some x∨w.heap.size≤k):Inv C S ρ σ' own hv w0 σ0 A a w':=by
 have aL:=h.below.size;refine h.step (fun _=>False) rfl hle aA (fun k o x hx=>(db k o x hx).imp id (fun e=>⟨by omega,.inr e⟩)) (fun k x hx=>(cP k x hx).imp id (fun e=>⟨by omega,.inr e⟩)) (hb.mono aL) (.refl S hv) (fun j _=>⟨rfl,rfl,rfl,fun k hk=>⟨hk,hb.block k (h.owns k j hk).2.1⟩⟩) (fun _ hf=>hf.elim) (fun k j hk=>?_) (fun _=>id) (fun t=>.inl ⟨rfl,rfl,rfl⟩) (fun _ _=>rfl) (fun k hk _=>hb.block k hk) (fun k i hk=>.inl ⟨i,hk⟩) (fun _ hf=>hf.elim);obtain⟨g1,g2,g3,g4⟩:=h.owns k j hk;refine⟨g1,by have:=hb.size;omega,fun o=>?_,?_⟩
 ·cases hc:σ'.c k o with
  |none=>rfl
  |some x=>rcases db k o x hc with e|e
           ·rw[g3 o] at e;cases e
           ·omega
 ·cases hc:σ'.m k with
  |none=>rfl
  |some x=>rcases cP k x hc with e|e
           ·rw[g4] at e;cases e
           ·omega
theorem CtxOK.mono {C:Ctx}{σ σ':Im}(h:CtxOK C σ)(hle:σ.le σ'):CtxOK C σ':=⟨fun g x hx=>(h.glob g x hx).mono hle⟩
theorem LF (h:Inv C S ρ σ own hv w0 σ0 A a w)(hC:CtxOK C σ0)(hg:holds gs ρ=true){xs:List Operand}{u:List Ty×List PE}{ts:List Ty}(hu:kz C S gs xs=some u)(hs:Ty.subs u.1 ts=true):oF C σ ts (xs.map a.eval) (PE.evs ρ u.2):=by
 obtain⟨l1,l2,aP⟩:=afB h hC hg _ _ hu;have hl:=Ty.subs_len _ _ hs;refine⟨by rw[List.length_map];omega,by rw[PE.evs_eq,List.length_map];omega,fun i t hi=>?_⟩;obtain⟨s,dU,cv⟩:=Ty.subs_get _ _ hs i t hi;exact(aP i s dU).sub cv
theorem Se {o:Oper}{f:Nat}{args:Array Operand}{ts:Array TypeId}(bf:dp C){s:Sig}(hs:C.sig f=some s)(ho:o.op=.call {callee:=.value (.func f),args:=args,argTypes:=ts}):
 (execOp a.eval o).run C.P w=.ok (.enter f (args.map a.eval)) w:=by
 obtain⟨fn,h1,h2,h3⟩:=bf.2 f s hs;obtain⟨bd,jc⟩:=Option.isSome_iff_exists.1 h2;have h4:¬fn.name= "runtime.NumGoroutine" :=by simpa using h3
 simp[execOp,ho,resolve,Act.eval,Deferred.ofValue,invoke,callFunc,h1,jc,h4]
theorem aeT {o:Oper}{x:Operand}{f:Nat}{vs:List Value}{args:Array Operand}{ts:Array TypeId}(bf:dp C){s:Sig}(hs:C.sig f=some s)(hx:a.eval x=.func (.func f) #[] vs.toArray)(ho:o.op=.call {callee:=.value x,args:=args,argTypes:=ts}):
 (execOp a.eval o).run C.P w=.ok (.enter f (args.map a.eval++vs.toArray)) w:=by
 obtain⟨fn,h1,h2,h3⟩:=bf.2 f s hs;obtain⟨bd,jc⟩:=Option.isSome_iff_exists.1 h2;have h4:¬fn.name= "runtime.NumGoroutine" :=by simpa using h3
 simp[execOp,ho,resolve,hx,Deferred.ofValue,invoke,callFunc,h1,jc,h4]
theorem VV (h:Inv C S ρ σ own hv w0 σ0 A a w)(hC:CtxOK C σ0)(ht:¬A dst)(ah:dst<a.tmps.size)(du:∀g,g∈gs→A g.1)(hg:holds gs ρ=true){f:Nat}{s:Sig}{js:List Nat}{vals:List Value}{ds:List D}{d:D}(nM:s.mode=.dat)(hfn:kC C f s ds d)
 (iz:∀σ1 dk,σ.le σ1→Inv C (S.fzs js) ρ σ1 dk hv w0 σ0 A a w→oF C σ1 s.args vals ds) {K:Act→World→Prop} {Q:Exit→Act→World→Prop}
 (hK:∀a' w',Good C w0 σ0 ((bif s.res.pure then S else S.fzs js).setR dst (gK gs (.dat s.res))) (ρ.setR dst d) (fun u=>A u∨u=dst) a' w'→a'.tmps.size=a.tmps.size→K a' w'):
 Calls C.P f vals.toArray w (fun e jy=>match e with|.returned v=>K (a.put (some dst) v) jy|.panicked chain=>Q (.panic chain) a jy|.outgrown=>LetsOut Q):=by
 obtain⟨σ1,dk,kM,h1⟩:=Inv.fzs js h;have tM:=hfn σ1 w vals.toArray h1.ok (hC.mono h1.le) (by simpa using iz σ1 dk kM h1);refine tM.mono fun e w' hh=>?_;obtain⟨v,σ',rfl,hle,aA,hb,db,cP,kg⟩:=hh;simp only[oG,nM] at kg;refine hK _ _ ?_ (size_put _ _ _);have hh:holds gs (ρ.setR dst d)=true:=by rw[Bl (t:=dst) (d:=d) fun g hm e=>ht (by rw[←e];exact du g hm)];exact hg
 have put:∀{S2:St} {σ2:Im} {gC:Nat→Option Nat},Inv C S2 ρ σ2 gC hv w0 σ0 A a w'→Rep C.cap σ2 s.res v d→Good C w0 σ0 (S2.setR dst (gK gs (.dat s.res))) (ρ.setR dst d) (fun u=>A u∨u=dst) (a.put (some dst) v) w':=by
  intro S2 σ2 gC h2 hr;cases gs with
  |nil=>exact⟨_,_,_,h2.setReg ht (s:=.dat s.res) hr ah (fun _ _ e=>by cases e)⟩
  |cons g bC=>
   refine⟨_,_,_,h2.setReg ht (s:=.opt (g::bC) (.dat s.res)) ⟨fun _=>hr,fun e=>absurd (hh.symm.trans e) (by decide)⟩ ah (fun gs s e=>?_)⟩;cases e;exact⟨du,fun _ _ e=>by cases e⟩
 cases hp:s.res.pure with
 |true=>
  simp only[cond_true];exact put (h.world (.refl σ) (h.ok.below hb) hb (fun _ _ _ hx=>.inl hx) (fun _ _ hx=>.inl hx)) (kg.pure hp)
 |false=>
  simp only[cond_false];exact put (h1.world hle aA hb db cP) kg
theorem MA {o:Oper}{f:Nat}{args:Array Value}{K:Act→World→Prop}{Q:Exit→Act→World→Prop}(hd:o.dst=some dst)(hx:(execOp a.eval o).run C.P w=.ok (.enter f args) w)
 (h:Calls C.P f args w (fun e jy=>match e with|.returned v=>K (a.put (some dst) v) jy|.panicked chain=>Q (.panic chain) a jy|.outgrown=>LetsOut Q)):o.wp C.P a w K Q:=by
 simp only[Oper.wp,hx,Oper.upon,hd];refine h.mono fun e jy hh=>?_;cases e<;>exact hh
theorem amH (h:Inv C S ρ σ own hv w0 σ0 A a w)(hC:CtxOK C σ0)(bf:dp C)(hΦ:cS C Φ)(ht:¬A dst)(ah:dst<a.tmps.size)(du:∀g,g∈gs→A g.1)(hg:holds gs ρ=true){f:Nat}{args:Array Operand}{ts:Array TypeId}{r:St×Sh×List PI}
 (hr:nz C S gs dst f args.toList=some r) {o:Oper} (hd:o.dst=some dst) (ho:o.op=.call {callee:=.value (.func f),args:=args,argTypes:=ts}):bO C w0 σ0 Φ S ρ A a w o (r.1.setR dst (gK gs r.2.1),r.2.2):=by
 simp only[nz,Option.bind_eq_some_iff] at hr;obtain⟨s,hs,hr⟩:=hr;split at hr
 case h_2=>cases hr
 rename_i nM;simp only[Option.bind_eq_some_iff] at hr;obtain⟨u,hu,hr⟩:=hr;cases bW:Ty.subs u.1 s.args<;>simp only[bW,cond_true,cond_false] at hr
 ·cases hr
 cases hr;intro ρ' ao K Q hK;simp only[PI.runs,PI.run,hg,cond_true,Option.bind_eq_some_iff,Option.map_eq_some_iff] at ao;obtain⟨ρ1,⟨d,bj,rfl⟩,ao⟩:=ao;cases ao;have hfn:=(hΦ f _ d bj s hs).1 (by rw[nM];rfl);refine MA hd (Se bf hs ho) ?_;have kO:args.map a.eval=(args.toList.map a.eval).toArray:=by apply Array.ext';rw[Array.toList_map]
 rw[kO];have iJ:(fun u=>A u∨o.dst=some u)=(fun u=>A u∨u=dst):=by funext u;rw[hd];simp[eq_comm]
 rw[iJ] at hK;exact VV h hC ht ah du hg (js:=bV S gs args.toList) nM hfn (fun σ1 dk _ h1=>LF h1 hC hg hu bW) hK
theorem amC (h:Inv C S ρ σ own hv w0 σ0 A a w)(hC:CtxOK C σ0)(bf:dp C)(hΦ:cS C Φ)(ht:¬A dst)(ah:dst<a.tmps.size)(du:∀g,g∈gs→A g.1)(hg:holds gs ρ=true){x:Operand}{args:Array Operand}{ts:Array TypeId}{r:St×Sh×List PI}
 (hr:my C S gs dst x args.toList=some r) {o:Oper} (hd:o.dst=some dst) (ho:o.op=.call {callee:=.value x,args:=args,argTypes:=ts}):bO C w0 σ0 Φ S ρ A a w o (r.1.setR dst (gK gs r.2.1),r.2.2):=by
 unfold my at hr;split at hr
 case h_2=>cases hr
 rename_i aa r0 e OT;split at hr
 case h_1=>cases hr
 rename_i NU;simp only[Option.bind_eq_some_iff] at hr;obtain⟨u,hu,hr⟩:=hr;cases bW:Ty.subs u.1 aa<;>simp only[bW,cond_true,cond_false] at hr
 ·cases hr
 cases hr;have hx:=bR h hC hg OT;intro ρ' ao K Q hK;simp only[PI.runs,PI.run,hg,cond_true,Option.bind_eq_some_iff] at ao;obtain⟨ρ1,rO,ao⟩:=ao;cases ao;split at rO
 case h_2=>cases rO
 rename_i f caps bF;simp only[Option.map_eq_some_iff] at rO;obtain⟨d,bj,rfl⟩:=rO;rw[bF] at hx;generalize ff:a.eval x=xv at hx;generalize ba:Ty.fn aa r0=ty at hx;cases hx with
 |fn f cs vs ds hc h1 h2 aP=>
  cases ba;have hs:=bf.1 f cs hc NU;have hfn:=(hΦ f _ d bj _ hs).1 rfl;refine MA hd (aeT bf hs ff ho) ?_;have kO:args.map a.eval++vs.toArray=(args.toList.map a.eval++vs).toArray:=by apply Array.ext';simp
  rw[kO];have iJ:(fun u=>A u∨o.dst=some u)=(fun u=>A u∨u=dst):=by funext u;rw[hd];simp[eq_comm]
  rw[iJ] at hK;refine VV h hC ht ah du hg (js:=bV S gs args.toList) (s:=⟨cs.args++cs.caps,cs.res,.dat⟩) rfl hfn (fun σ1 dk kM i1=>?_) hK;obtain⟨g1,g2,g3⟩:=LF i1 hC hg hu bW;refine⟨by simp only[List.length_append,g1,h1],by simp only[List.length_append,g2,h2],fun i t hi=>?_⟩;rw[List.getElem?_append] at hi;split at hi
  ·rename_i ah;have:=g3 i t hi;rw[List.getD_eq_getElem?_getD,List.getD_eq_getElem?_getD,List.getElem?_append_left (by omega),List.getElem?_append_left (by omega)];simpa [List.getD_eq_getElem?_getD] using this
  ·rename_i dS;have:=(aP _ t hi).mono kM;rw[List.getD_eq_getElem?_getD,List.getD_eq_getElem?_getD,List.getElem?_append_right (by omega),List.getElem?_append_right (by omega),g1,g2];simpa [List.getD_eq_getElem?_getD] using this
theorem amE (h:Inv C S ρ σ own hv w0 σ0 A a w)(hC:CtxOK C σ0)(bf:dp C)(hΦ:cS C Φ)(ht:¬A dst)(ah:dst<a.tmps.size){f:Nat}{args:Array Operand}{ts:Array TypeId}{r:St×List PI}
 (hr:Ak C S dst f args.toList=some r) {o:Oper} (hd:o.dst=some dst) (ho:o.op=.call {callee:=.value (.func f),args:=args,argTypes:=ts}):bO C w0 σ0 Φ S ρ A a w o r:=by
 simp only[Ak,Option.bind_eq_some_iff] at hr;obtain⟨s,hs,hr⟩:=hr;split at hr
 case h_2=>cases hr
 rename_i T e nM;simp only[Option.bind_eq_some_iff] at hr;obtain⟨u,hu,hr⟩:=hr;cases bW:Ty.subs u.1 s.args<;>simp only[bW,cond_true,cond_false] at hr
 ·cases hr
 cases hr;intro ρ' ao K Q hK;have hgt:holds ([]:List (Nat×Bool)) ρ=true:=rfl;simp only[PI.runs,PI.run,hgt,cond_true,Option.bind_eq_some_iff,Option.map_eq_some_iff] at ao;obtain⟨ρ1,⟨d,bj,rfl⟩,ρ2,g2,ρ3,g3,g4⟩:=ao;cases g2;cases g3;cases g4;have hfn:=(hΦ f _ d bj s hs).1 (by rw[nM];rfl);obtain⟨σ1,dk,kM,h1⟩:=Inv.fzs (bV S [] args.toList) h;have kO:args.map a.eval=(args.toList.map a.eval).toArray:=by apply Array.ext';rw[Array.toList_map]
 refine MA hd (Se bf hs ho) ?_;rw[kO];have tM:=hfn σ1 w (args.toList.map a.eval).toArray h1.ok (hC.mono h1.le) (by simpa using LF h1 hC rfl hu bW);refine tM.mono fun e' w' hh=>?_;obtain⟨v,σ',rfl,hle,aA,hb,db,cP,kg⟩:=hh;simp only[oG,nM] at kg;obtain⟨cells,xs,rfl,bN,gN,lM⟩:=kg;refine hK _ _ ?_ (size_put _ _ _);have iJ:(fun u=>A u∨o.dst=some u)=(fun u=>A u∨u=dst):=by funext u;rw[hd];simp[eq_comm]
 rw[iJ];have main:∀{S2:St} {σ1 σ2:Im} {gC:Nat→Option Nat},Inv C S2 ρ σ1 gC hv w0 σ0 A a w→σ1.le σ2→σ2.ok w'→(∀k o x,σ2.c k o=some x→σ1.c k o=some x∨w.heap.size≤k)→(∀k x,σ2.m k=some x→σ1.m k=some x∨w.heap.size≤k)→fU C.cap σ2 e cells xs→(∀k,v.ownBlock=some k→(∀o,σ2.c k o=none)∧σ2.m k=none)→
  Good C w0 σ0 (mkObj S2 dst (.row T e)) ((ρ.setO dst (.list xs)).setR dst .none) (fun u=>A u∨u=dst) (a.put (some dst) v) w':=by
  intro S2 σ1 σ2 gC h2 kN Ok ar1 ar3 arc ari;have aL:=h1.below.size
  have ke:=h2.newOσ dst (.row T e) (.list xs) v (fun k=>decide (v.ownBlock=some k)) kN Ok ar1 ar3 hb (fun k hk=>bN.lt k (by simpa using hk)) (fun k hk=>ari k (by simpa using hk)) ⟨cells,xs,by simp[Env.setO,aQ],by
        rw[aQ];refine⟨bN.1,?_⟩;rcases bN.2 with e1|⟨g,cap,cur,e1,e2,e3⟩
        ·exact .inl e1
        ·exact .inr ⟨g,cap,cur,e1,by omega,e3⟩,arc,fun k hk=>by rw[aQ] at hk;simp[fl,hk]⟩
  have Yf:=ke.setObj ht (j:=dst) (v:=v) (aQ _ _ _) ah;have e:(S2.newO dst (.row T e)).ver dst=S2.ver dst+1:=aQ _ _ _;rw[e] at Yf;exact⟨_,_,_,Yf⟩
 have eρ:((ρ.setR dst (.list xs)).setO dst ((PE.r dst).ev (ρ.setR dst (.list xs)))).setR dst ((PE.con D.none).ev ((ρ.setR dst (.list xs)).setO dst ((PE.r dst).ev (ρ.setR dst (.list xs)))))=(ρ.setO dst (.list xs)).setR dst .none:=by
  have:∀d1 d2:D,bQ (bQ ρ.r dst d1) dst d2=bQ ρ.r dst d2:=by
   intro d1 d2;funext i;simp only[fq];split<;>rfl
  simp[Env.setR,Env.setO,PE.ev,aQ,this]
 show Good C w0 σ0 _ _ _ _ _;rw[eρ];cases hp:e.pure with
 |true=>
  simp only[cond_true];refine main h (.refl σ) (h.ok.below hb) (fun _ _ _ hx=>.inl hx) (fun _ _ hx=>.inl hx) ?_ (fun k hk=>?_)
  ·obtain⟨vs,k1,k2⟩:=gN;exact⟨vs,fun i x hx=>(k1 i x hx).pure hp,k2⟩
  ·obtain⟨f1,f2⟩:=lM k hk;refine⟨fun o=>?_,?_⟩
   ·cases hc:σ.c k o with
    |none=>rfl
    |some x=>have:=hle.c _ _ _ (kM.c _ _ _ hc);rw[f1 o] at this;cases this
   ·cases hc:σ.m k with
    |none=>rfl
    |some x=>have:=hle.m _ _ (kM.m _ _ hc);rw[f2] at this;cases this
 |false=>
  simp only[cond_false];exact main h1 hle aA db cP gN lM
end
def gn:Nat:=1000000013
abbrev mm:=Sh×Option (Ty×PE)
def DV (C:Ctx)(S:St)(x:Operand):mm:=(fG S [] x,use C S [] x)
def VX (c:Nat×Nat):mm:=(.ptr c.1 c.2 0,none)
def cl:List Nat→List Nat→Nat→Option Nat
 |i::is,j::js,k=>bif Nat.beq i k then some j else cl is js k
 |_,_,_=>none
def awm:Sh→Sh→List (Nat×Nat)
 |.obj i _,.obj j _=>[(i,j)]
 |.ptr i _ _,.ptr j _ _=>[(i,j)]
 |.fclo _ a,.fclo _ b=>(a.zip b).map fun x=>(x.1.1,x.2.1)
 |_,_=>[]
def QB:List Sh→List Sh→List (Nat×Nat)
 |a::aa,b::bs=>awm a b++QB aa bs
 |_,_=>[]
def awl:Ob→Ob→List (Nat×Nat)
 |.box _ a,.box _ b=>QB a b
 |_,_=>[]
def Zf:List (Nat×Nat)→Nat→Nat
 |[],_=>gn
 |x::l,i=>bif Nat.beq x.1 i then x.2 else Zf l i
def ava (S:St)(obs:List (Nat×Ob))(p:List (Nat×Nat)):List (Nat×Nat):=p++p.flatMap fun x=>awl (dI obs x.1) (S.o x.2)
def WG (S:St)(shs:List Sh)(obs:List (Nat×Ob))(acts:List mm):List Nat:=obs.map fun o=>Zf (ava S obs (QB shs (acts.map (·.1)))) o.1
section
variable (ver:Nat→Nat) (is js:List Nat)
def Dn:List (Nat×Nat)→Option (List (Nat×Nat))
 |[]=>some []
 |x::l=>bif Nat.beq x.2 0 then(cl is js x.1).bind fun j=>(Dn l).map fun r=>(j,ver j)::r else none
def jX:Sh→Option Sh
 |.dat t=>some (.dat t)
 |.none=>some .none
 |.obj i v=>bif Nat.beq v 0 then(cl is js i).map fun j=>.obj j (ver j) else none
 |.ptr i v off=>bif Nat.beq v 0 then(cl is js i).map fun j=>.ptr j (ver j) off else none
 |.fclo f caps=>(Dn ver is js caps).map (.fclo f)
 |_=>none
def Dp:List Sh→Option (List Sh)
 |[]=>some []
 |s::l=>(jX ver is js s).bind fun a=>(Dp l).map (a::·)
def oy:Ob→Option Ob
 |.row T e=>some (.row T e)
 |.mp a b=>some (.mp a b)
 |.box ag shs=>(Dp ver is js shs).map (.box ag)
 |_=>none
end
def AA (c:Sh):Sh→Bool
 |.none=>true
 |.dat b=>match c with|.dat a=>Ty.sub a b|_=>false
 |x=>Sh.beq c x
def v7:List Sh→List Sh→Bool
 |[],[]=>true
 |a::aa,b::bs=>AA a b&&v7 aa bs
 |_,_=>false
def v5:Ob→Ob→Bool
 |.box x a,.box y b=>(x==y)&&v7 a b
 |.row T a,.row U b=>Nat.beq T U&&Ty.beq a b
 |.mp a b,.mp c d=>Ty.beq a c&&Ty.beq b d
 |_,_=>false
def oU (S:St)(is js:List Nat):List (Nat×Ob)→List Nat→Bool
 |[],[]=>true
 |o::obs,j::jl=>(match oy S.ver is js o.2 with|some x=>v5 (S.o j) x|none=>false)&&oU S is js obs jl
 |_,_=>false
def Ay (S:St)(is js:List Nat)(a:mm)(s:Sh):Option PE:=
 match s with
 |.dat t=>(match a.2 with|some x=>bif Ty.sub x.1 t then some x.2 else none|none=>none)
 |.none=>some (.con .none)
 |s=>(match jX S.ver is js s with|some x=>bif Sh.beq a.1 x then some (.con .none) else none|none=>none)
def rq (S:St)(is js:List Nat):List mm→List Sh→Option (List PE)
 |[],[]=>some []
 |a::aa,s::ss=>(Ay S is js a s).bind fun e=>(rq S is js aa ss).map (e::·)
 |_,_=>none
def ny:List Sh→List Nat
 |[]=>[]
 |.obj i _::l=>i::ny l
 |.ptr i _ _::l=>i::ny l
 |.fclo _ c::l=>c.map (·.1)++ny l
 |_::l=>ny l
def aw (l:List Nat)(x:Nat):Bool:=l.any (Nat.beq x)
def sS (ver:Nat→Nat)(shs:List Sh)(is js:List Nat):Nat→Nat:=fun j=>match cl js is j with|some i=>bif aw (ny shs) i then ver j else ver j+1|none=>ver j
def St.handed (S:St)(shs:List Sh)(obs:List (Nat×Ob))(is js:List Nat):St:=
 ⟨S.r,fun j=>match cl js is j with|some i=>(match oy (sS S.ver shs is js) is js (dI obs i) with|some o=>o|none=>.dead)|none=>S.o j,sS S.ver shs is js⟩
def v9 (S:St):List Operand→List Sh→List Nat
 |x::xs,s::ss=>(bif lW s then bV S [] [x] else[])++v9 S xs ss
 |_,_=>[]
def Dv:List Nat→Nat→List PI
 |[],_=>[]
 |j::js,k=>.setO j (.tget (.o gn) k)::Dv js (k+1)
def MU (S:St)(res:Ty)(f:Nat)(shs:List Sh)(obs:List (Nat×Ob))(acts:List mm)(is js:List Nat):Option (St×Ty×List PI):=
 (rq S is js acts shs).bind fun es=>
    bif BZ shs obs&&(iQ is&&iQ js&&oU S is js obs js&&mP (S.o gn)&& !aw js gn) then some (S.handed shs obs is js,res,.mcall gn f (es++js.map .o)::Dv js 1) else none
def MV (C:Ctx)(S:St)(res:Ty)(f:Nat)(shs:List Sh)(obs:List (Nat×Ob))(acts:List mm):Option (St×Ty×List PI):=
 MU S res f shs obs acts (obs.map (·.1)) (WG S shs obs acts)
def oP (C:Ctx)(S:St)(f:Nat)(args:List Operand)(caps:List (Nat×Nat)):Option (St×Ty×List PI):=
 (C.sig f).bind fun s=>
    match s.mode with
    |.ob shs obs=>MV C (S.fzs (v9 S args shs)) s.res f shs obs (args.map (DV C (S.fzs (v9 S args shs)))++caps.map VX)
    |_=>none
theorem YA {l:List Nat}{x:Nat}:aw l x=true↔x∈l:=by
 unfold aw;rw[List.any_eq_true];exact⟨fun⟨y,hy,h⟩=>by rw[Nat.eq_of_beq_eq_true h];exact hy,fun h=>⟨x,h,Nat.beq_refl x⟩⟩
theorem Za:∀{is js:List Nat} {i j:Nat},cl is js i=some j→∃k:Nat,is[k]?=some i∧js[k]?=some j
 |[],_,i,j,h=>by cases h
 |_::_,[],i,j,h=>by cases h
 |x::is,y::js,i,j,h=>by
  simp only[cl] at h;cases hb:Nat.beq x i<;>simp only[hb,cond_true,cond_false] at h
  ·obtain⟨k,h1,h2⟩:=Za h;exact⟨k+1,h1,h2⟩
  ·cases h;exact⟨0,by rw[Nat.eq_of_beq_eq_true hb];rfl,rfl⟩
theorem G4:∀{is js:List Nat} {i j k:Nat},is.Nodup→is[k]?=some i→js[k]?=some j→cl is js i=some j
 |[],_,i,j,k,_,h,_=>by simp at h
 |_::_,[],i,j,k,_,_,h=>by simp at h
 |x::is,y::js,i,j,k,hn,h1,h2=>by
  simp only[cl];cases k with
  |zero=>simp at h1 h2;subst h1 h2;rw[Nat.beq_refl];rfl
  |succ k=>
   simp at h1 h2;have aD:x≠i:=fun e=>by subst e;exact(List.nodup_cons.1 hn).1 (List.mem_of_getElem? h1)
   rw[dR aD];exact G4 (List.nodup_cons.1 hn).2 h1 h2
theorem G5 {is js:List Nat}(h2:js.Nodup){i j:Nat}(h:cl is js i=some j):cl js is j=some i:=by
 obtain⟨k,g1,g2⟩:=Za h;exact G4 h2 g2 g1
theorem atz (obs:List (Nat×Ob))(f:Nat→D):∀{is js:List Nat} {i j:Nat},is=obs.map (·.1)→cl is js i=some j→l5 obs (js.map f) i=f j:=by
 induction obs with
 |nil=>intro is js i j h1 h2;subst h1;cases h2
 |cons x l ih=>
  intro is js i j h1 h2;subst h1;cases js with
  |nil=>cases h2
  |cons y js=>
   simp only[List.map_cons,cl] at h2;simp only[List.map_cons,l5];cases hb:Nat.beq x.1 i<;>simp only[hb,cond_true,cond_false] at h2 ⊢
   ·exact ih rfl h2
   ·cases h2;rfl
theorem YX:∀{obs:List (Nat×Ob)} {js:List Nat} {os:List D} {i j:Nat},os.length=obs.length→cl (obs.map (·.1)) js i=some j→∃k:Nat,js[k]?=some j∧l5 obs os i=os.getD k .none
 |[],_,_,i,j,_,h=>by cases h
 |_::_,[],_,i,j,_,h=>by cases h
 |_::_,_::_,[],i,j,hl,h=>by simp at hl
 |x::obs,y::js,o::os,i,j,hl,h=>by
  simp only[List.map_cons,cl] at h;simp only[l5];cases hb:Nat.beq x.1 i<;>simp only[hb,cond_true,cond_false] at h ⊢
  ·obtain⟨k,h1,h2⟩:=YX (obs:=obs) (js:=js) (os:=os) (by simpa using hl) h;exact⟨k+1,h1,by simpa using h2⟩
  ·cases h;exact⟨0,rfl,rfl⟩
theorem Zd:∀{obs:List (Nat×Ob)} {js:List Nat} {i:Nat},js.length=obs.length→cl (obs.map (·.1)) js i=none→dI obs i=.dead
 |[],_,i,_,_=>rfl
 |x::obs,[],i,hl,h=>by simp at hl
 |x::obs,y::js,i,hl,h=>by
  simp only[List.map_cons,cl] at h;simp only[dI];cases hb:Nat.beq x.1 i<;>simp only[hb,cond_true,cond_false] at h ⊢
  ·exact Zd (by simpa using hl) h
  ·cases h
theorem WR {S:St}{is js:List Nat}:∀{obs:List (Nat×Ob)} {jl:List Nat},oU S is js obs jl=true→jl.length=obs.length
 |[],[],_=>rfl
 |[],_::_,h=>by simp[oU] at h
 |_::_,[],h=>by simp[oU] at h
 |o::obs,j::jl,h=>by simp only[oU,Bool.and_eq_true] at h;simp[WR h.2]
theorem WQ {S:St}{is js:List Nat}:∀{obs:List (Nat×Ob)} {jl:List Nat},oU S is js obs jl=true→∀{i j:Nat},cl (obs.map (·.1)) jl i=some j→∃x,oy S.ver is js (dI obs i)=some x∧v5 (S.o j) x=true
 |[],_,_,i,j,h=>by cases h
 |_::_,[],_,i,j,h=>by cases h
 |o::obs,y::jl,hf,i,j,h=>by
  simp only[oU,Bool.and_eq_true] at hf;simp only[List.map_cons,cl] at h;simp only[dI];cases hb:Nat.beq o.1 i<;>simp only[hb,cond_true,cond_false] at h ⊢
  ·exact WQ hf.2 h
  ·cases h;have h1:=hf.1;split at h1
   ·rename_i x hx;exact⟨x,hx,h1⟩
   ·cases h1
theorem WS:∀{a b:List Sh},v7 a b=true→a.length=b.length∧∀(i:Nat) (y:Sh),b[i]?=some y→∃x,a[i]?=some x∧AA x y=true
 |[],[],_=>⟨rfl,fun i y h=>by simp at h⟩
 |[],_::_,h=>by simp[v7] at h
 |_::_,[],h=>by simp[v7] at h
 |a::aa,b::bs,h=>by
  simp only[v7,Bool.and_eq_true] at h;obtain⟨g1,g2⟩:=WS h.2;refine⟨by simp[g1],fun i y hy=>?_⟩;cases i with
  |zero=>simp at hy;subst hy;exact⟨a,rfl,h.1⟩
  |succ i=>simp at hy;simpa using g2 i y hy
theorem R7 {ver:Nat→Nat}{is js:List Nat}:∀{a b:List Sh},Dp ver is js a=some b→b.length=a.length∧∀(i:Nat) (x:Sh),a[i]?=some x→∃y,b[i]?=some y∧jX ver is js x=some y
 |[],b,h=>by simp only[Dp,Option.some.injEq] at h;subst h;exact⟨rfl,fun i x h=>by simp at h⟩
 |s::l,b,h=>by
  simp only[Dp,Option.bind_eq_some_iff,Option.map_eq_some_iff] at h;obtain⟨y,hy,r,hr,rfl⟩:=h;obtain⟨g1,g2⟩:=R7 hr;refine⟨by simp[g1],fun i x hx=>?_⟩;cases i with
  |zero=>simp at hx;subst hx;exact⟨y,rfl,hy⟩
  |succ i=>simp at hx;simpa using g2 i x hx
theorem K4 {ver:Nat→Nat}{is js:List Nat}:∀{a b:List (Nat×Nat)},Dn ver is js a=some b→b.length=a.length∧∀(i x v:Nat),a[i]?=some (x,v)→∃j,b[i]?=some (j,ver j)∧cl is js x=some j∧v=0
 |[],b,h=>by simp only[Dn,Option.some.injEq] at h;subst h;exact⟨rfl,fun i x v h=>by simp at h⟩
 |s::l,b,h=>by
  simp only[Dn] at h;cases hb:Nat.beq s.2 0<;>simp only[hb,cond_true,cond_false] at h
  ·cases h
  simp only[Option.bind_eq_some_iff,Option.map_eq_some_iff] at h;obtain⟨y,hy,r,hr,rfl⟩:=h;obtain⟨g1,g2⟩:=K4 hr;refine⟨by simp[g1],fun i x v hx=>?_⟩;cases i with
  |zero=>simp at hx;subst hx;exact⟨y,rfl,hy,Nat.eq_of_beq_eq_true hb⟩
  |succ i=>simp at hx;simpa using g2 i x v hx
theorem R6 {ver:Nat→Nat}{is js:List Nat}{s x:Sh}(h:jX ver is js s=some x):(∀gs s',s≠.opt gs s')∧∀gs s',x≠.opt gs s':=by
 cases s<;>simp only[jX] at h
 case none=>cases h;exact⟨(fun _ _ e=>by cases e),(fun _ _ e=>by cases e)⟩
 case dat=>cases h;exact⟨(fun _ _ e=>by cases e),(fun _ _ e=>by cases e)⟩
 case obj i v=>
  cases hb:Nat.beq v 0<;>simp only[hb,cond_true,cond_false] at h
  ·cases h
  simp only[Option.map_eq_some_iff] at h;obtain⟨j,_,rfl⟩:=h;exact⟨(fun _ _ e=>by cases e),(fun _ _ e=>by cases e)⟩
 case ptr i v off=>
  cases hb:Nat.beq v 0<;>simp only[hb,cond_true,cond_false] at h
  ·cases h
  simp only[Option.map_eq_some_iff] at h;obtain⟨j,_,rfl⟩:=h;exact⟨(fun _ _ e=>by cases e),(fun _ _ e=>by cases e)⟩
 case fclo f caps=>
  simp only[Option.map_eq_some_iff] at h;obtain⟨j,_,rfl⟩:=h;exact⟨(fun _ _ e=>by cases e),(fun _ _ e=>by cases e)⟩
 all_goals cases h
section
variable {C:Ctx} {S S1:St} {ρ ρ1:Env} {σ σ1:Im} {own dk:Nat→Option Nat} {hv aS:Nat→Value} {w0:World} {σ0:Base} {A:Nat→Prop} {a:Act} {w w1:World} {Φ:aT} {dst:Nat}
 {is js:List Nat} {shs:List Sh} {obs:List (Nat×Ob)} {ρf:Env}
theorem aeH (hσ:Im.leR C.cap σ σ1){dW:Nat→Value}(eW:∀i j,cl is js i=some j→dW i=hv j){s x:Sh}(hr:jX S.ver is js s=some x){v:Value}{d:D}(h:aK C S ρ σ hv x v d):aK C (eY shs obs) ρf σ1 dW s v d:=by
 cases s<;>simp only[jX] at hr
 case none=>trivial
 case dat=>cases hr;exact hσ.rep h
 case obj i ver=>
  cases hb:Nat.beq ver 0<;>simp only[hb,cond_true,cond_false] at hr
  ·cases hr
  simp only[Option.map_eq_some_iff] at hr;obtain⟨j,hj,rfl⟩:=hr;exact⟨by rw[Nat.eq_of_beq_eq_true hb];exact Nat.zero_le _,fun _=>by rw[eW i j hj];exact h.2 rfl⟩
 case ptr i ver off=>
  cases hb:Nat.beq ver 0<;>simp only[hb,cond_true,cond_false] at hr
  ·cases hr
  simp only[Option.map_eq_some_iff] at hr;obtain⟨j,hj,rfl⟩:=hr;exact⟨by rw[Nat.eq_of_beq_eq_true hb];exact Nat.zero_le _,fun _=>by rw[eW i j hj];exact h.2 rfl⟩
 case fclo f caps=>
  simp only[Option.map_eq_some_iff] at hr;obtain⟨c,hc,rfl⟩:=hr;obtain⟨g1,g2⟩:=K4 hc;obtain⟨vs,h1,h2,h3⟩:=h;refine⟨vs,h1,by omega,fun i x ver hi=>?_⟩;obtain⟨j,e1,e2,e3⟩:=g2 i x ver hi;exact⟨by rw[e3];exact Nat.zero_le _,fun _=>by rw[eW x j e2];exact(h3 i j _ e1).2 rfl⟩
 all_goals cases hr
theorem axC (hσ:σ.le σ1){dW:Nat→Value}(eW:∀i j,cl is js i=some j→dW i=aS j){s x:Sh}(hr:jX S1.ver is js s=some x){v:Value}{d:D}(h:aK C (eY shs obs) ρf σ dW s v d):aK C S1 ρ1 σ1 aS x v d:=by
 cases s<;>simp only[jX] at hr
 case none=>cases hr;trivial
 case dat=>cases hr;exact Rep.mono hσ h
 case obj i ver=>
  cases hb:Nat.beq ver 0<;>simp only[hb,cond_true,cond_false] at hr
  ·cases hr
  simp only[Option.map_eq_some_iff] at hr;obtain⟨j,hj,rfl⟩:=hr;exact⟨Nat.le_refl _,fun _=>by rw[←eW i j hj];exact h.2 (Nat.eq_of_beq_eq_true hb)⟩
 case ptr i ver off=>
  cases hb:Nat.beq ver 0<;>simp only[hb,cond_true,cond_false] at hr
  ·cases hr
  simp only[Option.map_eq_some_iff] at hr;obtain⟨j,hj,rfl⟩:=hr;exact⟨Nat.le_refl _,fun _=>by rw[←eW i j hj];exact h.2 (Nat.eq_of_beq_eq_true hb)⟩
 case fclo f caps=>
  simp only[Option.map_eq_some_iff] at hr;obtain⟨c,hc,rfl⟩:=hr;obtain⟨g1,g2⟩:=K4 hc;obtain⟨vs,h1,h2,h3⟩:=h;refine⟨vs,h1,by omega,fun i j ver hi=>?_⟩;have ah:i<caps.length:=by have:=(List.getElem?_eq_some_iff.1 hi).1;omega
  obtain⟨j',e1,e2,e3⟩:=g2 i _ _ (List.getElem?_eq_getElem ah);rw[hi] at e1;cases e1;exact⟨Nat.le_refl _,fun _=>by rw[←eW _ j e2];exact(h3 i _ _ (List.getElem?_eq_getElem ah)).2 e3⟩
 all_goals cases hr
theorem anx {c x:Sh}(hf:AA c x=true){v:Value}{d:D}(h:aK C S ρ σ hv c v d):aK C S ρ σ hv x v d:=by
 cases x with
 |none=>trivial
 |dat b=>
  simp only[AA] at hf;split at hf
  ·exact Rep.sub h hf
  ·cases hf
 |_=>simp only[AA] at hf;rw[Sh.beq_eq _ _ hf] at h;exact h
theorem avy (hσ:Im.leR C.cap σ σ1){dW:Nat→Value}{B3:Nat→Option Nat}(eW:∀i j,cl is js i=some j→dW i=hv j)(bN:∀k j i,own k=some j→cl js is j=some i→B3 k=some i)(bh:js.Nodup){i j N:Nat}(cG:cl is js i=some j)(hρ:ρf.o i=ρ.o j){ob x:Ob}
 (hr:oy S.ver is js ob=some x) (hf:v5 (S.o j) x=true) (h:bT C S ρ σ own hv w N j (S.o j)):bT C (eY shs obs) ρf σ1 B3 dW w N i ob:=by
 have ga:=G5 bh cG;cases ob<;>simp only[oy] at hr
 case row T e=>
  cases hr;cases ho:S.o j<;>rw[ho] at hf h<;>simp only[v5,Bool.and_eq_true] at hf<;>try (cases hf;done)
  obtain⟨cells,xs,h1,h2,h3,h4⟩:=h;rw[Nat.eq_of_beq_eq_true hf.1,Ty.beq_eq _ _ hf.2] at*;exact⟨cells,xs,by rw[hρ];exact h1,by rw[eW i j cG];exact h2,h3.monoR hσ,fun k hk=>bN k j i (h4 k (by rw[←eW i j cG];exact hk)) ga⟩
 case mp kt et=>
  cases hr;cases ho:S.o j<;>rw[ho] at hf h<;>simp only[v5,Bool.and_eq_true] at hf<;>try (cases hf;done)
  obtain⟨k,arr,clock,es,h1,h2,h3,h4,h5,h6,h7⟩:=h;rw[Ty.beq_eq _ _ hf.1,Ty.beq_eq _ _ hf.2] at*;exact⟨k,arr,clock,es,by rw[eW i j cG];exact h1,bN k j i h2 ga,h3,by rw[hρ];exact h4,h5,h6,fun n e p he hp=>⟨hσ.rep (h7 n e p he hp).1,hσ.rep (h7 n e p he hp).2⟩⟩
 case box ag cs=>
  simp only[Option.map_eq_some_iff] at hr;obtain⟨cs',eE,rfl⟩:=hr;cases ho:S.o j<;>rw[ho] at hf h<;>simp only[v5,Bool.and_eq_true] at hf<;>try (cases hf;done)
  obtain⟨k,vs,T,ds,h1,h2,h3,h4,h5,h6,h7⟩:=h;obtain⟨l1,g1⟩:=WS hf.2;obtain⟨l2,g2⟩:=R7 eE;refine⟨k,vs,T,ds,by rw[eW i j cG];exact h1,bN k j i h2 ga,h3,by omega,by rw[hρ];exact h5,by omega,fun n s hs=>?_⟩;obtain⟨y,hy,Bw⟩:=g2 n s hs;obtain⟨z,hz,A6⟩:=g1 n y hy;exact⟨(R6 Bw).1,aeH hσ eW Bw (anx A6 (h7 n z hz).2)⟩
 all_goals cases hr
theorem avz (hσ:σ.le σ1){dW:Nat→Value}{B3:Nat→Option Nat}(eW:∀i j,cl is js i=some j→dW i=aS j)(bN:∀k i j,B3 k=some i→cl is js i=some j→dk k=some j){i j N:Nat}(cG:cl is js i=some j)(hρ:ρ1.o j=ρf.o i){ob x:Ob}
 (hr:oy S1.ver is js ob=some x) (h:bT C (eY shs obs) ρf σ B3 dW w N i ob):bT C S1 ρ1 σ1 dk aS w N j x:=by
 cases ob<;>simp only[oy] at hr
 case row T e=>
  cases hr;obtain⟨cells,xs,h1,h2,h3,h4⟩:=h;exact⟨cells,xs,by rw[hρ];exact h1,by rw[←eW i j cG];exact h2,h3.mono hσ,fun k hk=>bN k i j (h4 k (by rw[eW i j cG];exact hk)) cG⟩
 case mp kt et=>
  cases hr;obtain⟨k,arr,clock,es,h1,h2,h3,h4,h5,h6,h7⟩:=h;exact⟨k,arr,clock,es,by rw[←eW i j cG];exact h1,bN k i j h2 cG,h3,by rw[hρ];exact h4,h5,h6,fun n e p he hp=>⟨(h7 n e p he hp).1.mono hσ,(h7 n e p he hp).2.mono hσ⟩⟩
 case box ag cs=>
  simp only[Option.map_eq_some_iff] at hr;obtain⟨cs',eE,rfl⟩:=hr;obtain⟨k,vs,T,ds,h1,h2,h3,h4,h5,h6,h7⟩:=h;obtain⟨l2,g2⟩:=R7 eE;refine⟨k,vs,T,ds,by rw[←eW i j cG];exact h1,bN k i j h2 cG,h3,by omega,by rw[hρ];exact h5,by omega,fun n s hs=>?_⟩;have ah:n<cs.length:=by have:=(List.getElem?_eq_some_iff.1 hs).1;omega
  obtain⟨y,hy,Bw⟩:=g2 n _ (List.getElem?_eq_getElem ah);rw[hs] at hy;cases hy;exact⟨(R6 Bw).2,axC hσ eW Bw (h7 n _ (List.getElem?_eq_getElem ah)).2⟩
 all_goals cases hr
theorem axB {ver:Nat→Nat}{ob x:Ob}(hr:oy ver is js ob=some x):x≠.tr:=by
 cases ob<;>simp only[oy] at hr
 case row=>cases hr;intro e;cases e
 case mp=>cases hr;intro e;cases e
 case box=>
  simp only[Option.map_eq_some_iff] at hr;obtain⟨_,_,rfl⟩:=hr;intro e;cases e
 all_goals cases hr
theorem CtxOK.noM (h:CtxOK C σ):CtxOK C σ.noM:=⟨fun g x hx=>(h.glob g x hx).noM⟩
def yy (C:Ctx)(S:St)(ρ:Env)(σ:Im)(hv:Nat→Value)(x:mm)(v:Value)(d:D):Prop:=aK C S ρ σ hv x.1 v d∧∀y,x.2=some y→Rep C.cap σ y.1 v (y.2.ev ρ)
theorem WN:∀{acts:List mm} {shs:List Sh} {es:List PE},rq S is js acts shs=some es→acts.length=shs.length∧es.length=shs.length∧∀(t:Nat) (s:Sh),shs[t]?=some s→∃x e,acts[t]?=some x∧es[t]?=some e∧Ay S is js x s=some e
 |[],[],es,h=>by simp only[rq,Option.some.injEq] at h;subst h;exact⟨rfl,rfl,fun t s h=>by simp at h⟩
 |[],_::_,es,h=>by simp[rq] at h
 |_::_,[],es,h=>by simp[rq] at h
 |x::acts,s::shs,es,h=>by
  simp only[rq,Option.bind_eq_some_iff,Option.map_eq_some_iff] at h;obtain⟨e,he,r,hr,rfl⟩:=h;obtain⟨g1,g2,g3⟩:=WN hr;refine⟨by simp[g1],by simp[g2],fun t s' hs=>?_⟩;cases t with
  |zero=>simp at hs;subst hs;exact⟨x,e,rfl,rfl,he⟩
  |succ t=>simp at hs;simpa using g3 t s' hs
theorem anv (hσ:Im.leR C.cap σ σ1){dW:Nat→Value}(eW:∀i j,cl is js i=some j→dW i=hv j){x:mm}{s:Sh}{e:PE}(hf:Ay S is js x s=some e){v:Value}{d:D}(h:yy C S ρ σ hv x v d):aK C (eY shs obs) ρf σ1 dW s v (e.ev ρ):=by
 have gen:∀s,(match jX S.ver is js s with|some y=>bif Sh.beq x.1 y then some (PE.con .none) else none|none=>none)=some e→lW s=false→aK C (eY shs obs) ρf σ1 dW s v (e.ev ρ):=by
  intro s hm hd;split at hm
  ·rename_i y hy;cases hb:Sh.beq x.1 y<;>simp only[hb,cond_true,cond_false] at hm
   ·cases hm
   have h1:=h.1;rw[Sh.beq_eq _ _ hb] at h1;have:=aeH (shs:=shs) (obs:=obs) (ρf:=ρf) hσ eW hy h1;cases s with
   |dat t=>cases hd
   |opt gs s'=>exact absurd rfl ((R6 hy).1 gs s')
   |eptr j ver size off=>simp[jX] at hy
   |_=>exact this
  ·cases hm
 unfold Ay at hf;split at hf
 ·rename_i t;split at hf
  ·rename_i y hy;cases hb:Ty.sub y.1 t<;>simp only[hb,cond_true,cond_false] at hf
   ·cases hf
   cases hf;exact hσ.rep ((h.2 y hy).sub hb)
  ·cases hf
 ·trivial
 ·rename_i kc nN;refine gen _ hf ?_;cases s<;>first|rfl|exact absurd rfl (kc _)
theorem aml {dW OV:Nat→Value}{σ σ':Im}{ρf ρf':Env}{args:Nat→Value}{ds ds':Nat→D}(h1:∀(t:Nat) (s:Sh),shs[t]?=some s→aK C (eY shs obs) ρf σ dW s (args t) (ds t))(h2:∀(t:Nat) (s:Sh),shs[t]?=some s→lW s=false→aK C (eY shs obs) ρf' σ' OV s (args t) (ds' t))
 (hz:∀s,s∈shs→∃x,jX S.ver is js s=some x) {i:Nat} (hi:i∈ny shs):OV i=dW i:=by
 have key:∀(l:List Sh),(∀s,s∈l→∃t:Nat,shs[t]?=some s)→i∈ny l→OV i=dW i:=by
  intro l
  induction l with
  |nil=>intro _ h;cases h
  |cons s l ih=>
   intro hl hi;obtain⟨t,ht⟩:=hl s (List.mem_cons_self ..);have wG:∀s,s∈l→∃t:Nat,shs[t]?=some s:=fun s hs=>hl s (List.mem_cons_of_mem _ hs);obtain⟨x,hx⟩:=hz s (List.mem_of_getElem? ht);have a1:=h1 t s ht;have a2:=h2 t s ht;cases s<;>simp only[ny] at hi
   case obj j ver=>
        simp only[jX] at hx;cases hb:Nat.beq ver 0<;>simp only[hb,cond_true,cond_false] at hx
        ·cases hx
        rcases List.mem_cons.1 hi with e|e
        ·subst e;rw[←(a1.2 (Nat.eq_of_beq_eq_true hb)),←((a2 rfl).2 (Nat.eq_of_beq_eq_true hb))]
        ·exact ih wG e
   case ptr j ver off=>
        simp only[jX] at hx;cases hb:Nat.beq ver 0<;>simp only[hb,cond_true,cond_false] at hx
        ·cases hx
        rcases List.mem_cons.1 hi with e|e
        ·subst e;obtain⟨k1,e1,e2⟩:=a1.2 (Nat.eq_of_beq_eq_true hb);obtain⟨k2,e3,e4⟩:=(a2 rfl).2 (Nat.eq_of_beq_eq_true hb);rw[e2] at e4;cases e4;rw[e1,e3]
        ·exact ih wG e
   case fclo f caps=>
        simp only[jX,Option.map_eq_some_iff] at hx;obtain⟨c,hc,_⟩:=hx;obtain⟨_,g2⟩:=K4 hc;rcases List.mem_append.1 hi with e|e
        ·obtain⟨y,hy,e1⟩:=List.mem_map.1 e;subst e1;obtain⟨m,hm⟩:=List.getElem?_of_mem hy;obtain⟨vs,b1,b2,b3⟩:=a1;obtain⟨yt,c1,c2,c3⟩:=a2 rfl;rw[b1] at c1;have gh:vs=yt:=by simpa using c1
         subst gh;obtain⟨_,_,_,wV⟩:=g2 m y.1 y.2 hm;rw[←(b3 m y.1 y.2 hm).2 wV,←(c3 m y.1 y.2 hm).2 wV]
        ·exact ih wG e
   all_goals exact ih wG hi
 exact key shs (fun s hs=>List.getElem?_of_mem hs) hi
end
section
variable {C:Ctx} {S:St} {ρ:Env} {σ:Im} {own:Nat→Option Nat} {hv:Nat→Value} {w0:World} {σ0:Base} {A:Nat→Prop} {a:Act} {w:World} {Φ:aT} {dst:Nat}
 {is js:List Nat} {shs:List Sh} {obs:List (Nat×Ob)}
theorem Below.weak {B:Nat}{w w':World}(h:Below 0 w w')(hk:∀k,k<B→w'.heap[k]?=w.heap[k]?):Below B w w':=⟨h.os,h.tape,h.output,h.size,hk⟩
def mV (js is:List Nat)(own:Nat→Option Nat):Nat→Option Nat:=fun k=>(own k).bind (cl js is)
def B2 (js is:List Nat)(own own':Nat→Option Nat):Nat→Option Nat:=fun k=>
 match own' k with
 |some i=>cl is js i
 |none=>match own k with|some j=>(match cl js is j with|some _=>none|none=>some j)|none=>none
theorem handed (h:Inv C S ρ σ own hv w0 σ0 A a w)(hC:CtxOK C σ0)(asl:BZ shs obs=true)(A9:is=obs.map (·.1))(X4:is.Nodup)(GF:js.Nodup)(Gp:oU S is js obs js=true){acts:List mm}{es:List PE}(gO:rq S is js acts shs=some es)
 (Gl:S.o gn=.dead) (GQ:gn∉js) {vals:List Value} (hvl:vals.length=acts.length) (aqA:∀(t:Nat) (x:mm),acts[t]?=some x→∃d,yy C S ρ σ hv x (vals.getD t undef) d) {f:Nat} {res:Ty} {d:D}
 (hfn:kD C f shs obs res (es.map (PE.ev ρ)++js.map ρ.o) d):
 Calls C.P f vals.toArray w fun e w'=>∃v dr os,e=.returned v∧d=.tup (dr::os)∧os.length=js.length∧
  ∀ρ':Env,ρ'.r=ρ.r→(∀(k j:Nat),js[k]?=some j→ρ'.o j=os.getD k .none)→(∀j,j∉js→j≠gn→ρ'.o j=ρ.o j)→
   ∃σ1 dk aS,Inv C (S.handed shs obs is js) ρ' σ1 dk aS w0 σ0 A a w'∧Rep C.cap σ1 res v dr:=by
 obtain⟨al1,al2,iz⟩:=WN gO;have fh:=WR Gp;have rQ:w0.heap.size≤w.heap.size:=h.below.size;obtain⟨tr,fx,cx,hf,qx⟩:=h.frame
 let dW:Nat→Value:=fun i=>match cl is js i with|some j=>hv j|none=>undef
 have eW:∀i j,cl is js i=some j→dW i=hv j:=fun i j e=>by simp only[dW,e]
 have XV:Im.leR C.cap σ σ.noM:=⟨Rep.noM,fun _ _ _ e=>e⟩
 have Bj:∀k x,σ.noM.m k=some x→σ.m k=some x∧x≠cC:=by
  intro k x e;by_cases hd:σ.m k=some cC
  ·simp[Im.noM,hd] at e
  ·simp only[Im.noM,if_neg hd] at e;exact⟨e,fun e2=>hd (by rw[e,e2])⟩
 have tP:(es.map (PE.ev ρ)++js.map ρ.o).drop shs.length=js.map ρ.o:=by rw[List.drop_append];simp[al2]
 have aro:∀t e,es[t]?=some e→(es.map (PE.ev ρ)++js.map ρ.o).getD t .none=e.ev ρ:=fun t e he=>by
  have ah:=(List.getElem?_eq_some_iff.1 he).1;rw[List.getD_eq_getElem?_getD,List.getElem?_append_left (by simpa using ah),List.getElem?_map,he];rfl
 have asw:∀s,s∈shs→∃x,jX S.ver is js s=some x:=by
  intro s hs;obtain⟨t,ht⟩:=List.getElem?_of_mem hs;obtain⟨x,e,_,_,he⟩:=iz t s ht;unfold Ay at he;split at he
  ·exact⟨_,rfl⟩
  ·exact⟨_,rfl⟩
  ·split at he
   ·rename_i y hy;exact⟨y,hy⟩
   ·cases he
 have XP:∀t,aK C (eY shs obs) (kV obs (es.map (PE.ev ρ)++js.map ρ.o) ((es.map (PE.ev ρ)++js.map ρ.o).drop shs.length)) σ.noM dW (shs.getD t .none) (vals.toArray.getD t undef) ((es.map (PE.ev ρ)++js.map ρ.o).getD t .none):=by
  intro t;cases hs:shs[t]? with
  |none=>rw[List.getD_eq_getElem?_getD,hs];trivial
  |some s=>
   obtain⟨x,e,hx,he,Gn⟩:=iz t s hs;obtain⟨d',aqB⟩:=aqA t x hx;rw[List.getD_eq_getElem?_getD (l:=shs),hs,aro t e he];have e1:vals.toArray.getD t undef=vals.getD t undef:=by simp[Array.getD_eq_getD_getElem?,List.getD_eq_getElem?_getD]
   rw[e1];exact anv XV eW Gn aqB
 have arD:∀i,bT C (eY shs obs) (kV obs (es.map (PE.ev ρ)++js.map ρ.o) ((es.map (PE.ev ρ)++js.map ρ.o).drop shs.length)) σ.noM (mV js is own) dW w w0.heap.size i (dI obs i):=by
  intro i;cases cG:cl is js i with
  |none=>subst A9;rw[Zd fh cG];trivial
  |some j=>
   subst A9;obtain⟨x,hx,Gq⟩:=WQ Gp cG;refine avy XV eW (fun k j' i' hk hl=>by simp only[mV,hk,Option.bind_some,hl]) GF cG ?_ hx Gq (h.objs j);show l5 obs _ i=_;rw[tP];exact atz obs ρ.o rfl cG
 have tM:=hfn w0.heap.size σ.noM (mV js is own) dW w vals.toArray (fun k=>(∃j,own k=some j∧cl js is j=none)∨σ.m k=some cC∨(cx k)) asl ⟨h.ok.c,fun k x e=>h.ok.m k x (Bj k x e).1⟩ ((hC.mono h.le).noM)
  (fun k e=>(Bj k _ e).2 rfl) rQ (by simp;omega) (fun k i hk=>by
    simp only[mV,Option.bind_eq_some_iff] at hk;obtain⟨j,hj,_⟩:=hk;obtain⟨g1,g2,g3,g4⟩:=h.owns k j hj;exact⟨g1,g2,g3,by by_cases e:σ.m k=some cC<;>simp[Im.noM,e,g4]⟩) (fun k hk=>by
    rcases hk with⟨j,hj,hn⟩|hk|hk
    ·obtain⟨g1,g2,g3,g4⟩:=h.owns k j hj;exact⟨g2,by simp[mV,hj,hn],g3,by by_cases e:σ.m k=some cC<;>simp[Im.noM,e,g4]⟩
    ·have Bg:=h.ok.m k _ hk;have hn:own k=none:=by
      cases e:own k with
      |none=>rfl
      |some j=>rw[(h.owns k j e).2.2.2] at hk;cases hk
     refine⟨Bg.lt,by simp[mV,hn],fun o=>?_,by simp[Im.noM,hk]⟩;cases e:σ.c k o with
     |none=>exact e
     |some x=>
      have c1:=h.ok.c k o x e;rcases Bg with⟨m1,_⟩|⟨_,m2⟩
      ·exact absurd rfl m1
      ·simp[World.cell?,m2] at c1
    ·have jH:=σ0.sub _ _ _ _ hf.F k hk;have hn:own k=none:=by
      cases e:own k with
      |none=>rfl
      |some j=>exact absurd jH (hf.own k j e)
     refine⟨σ0.lt _ _ _ _ hf.F k jH,by simp[mV,hn],fun o=>?_,?_⟩
     ·cases e:σ.c k o with
      |none=>exact e
      |some x=>exact absurd hk (hf.c k o x e)
     ·cases e:σ.m k with
      |none=>simp[Im.noM,e]
      |some x=>exact absurd hk (hf.m k x e)) XP arD
 refine tM.mono fun e w' hh=>?_;obtain⟨v,σ',own',hv',dr,os,rfl,hd,Ol,hle,aA,hb,gR,db,cP,GD,Yc,NV,Oj,kg⟩:=hh;refine⟨v,dr,os,rfl,hd,by omega,fun ρ' gz nQ ub=>?_⟩;have GI:∀k,k<w.heap.size→own k=none→w'.heap[k]?=w.heap[k]?:=fun k hk hn=>gR k hk (by simp[mV,hn]);have asf:∀k j,own k=some j→cl js is j=none→w'.heap[k]?=w.heap[k]?:=fun k j hk hn=>gR k (h.owns k j hk).2.1 (by simp[mV,hk,hn])
 have aq1:∀k o x,σ.c k o=some x→own k=none:=fun k o x e=>by
  cases e1:own k with
  |none=>rfl
  |some j=>rw[(h.owns k j e1).2.2.1 o] at e;cases e
 have X2:∀k x,σ.m k=some x→own k=none:=fun k x e=>by
  cases e1:own k with
  |none=>rfl
  |some j=>rw[(h.owns k j e1).2.2.2] at e;cases e
 have GK:σ.ok w':=⟨fun k o x e=>by rw[World.cell?_of_block (GI k (h.lt e) (aq1 k o x e))];exact h.ok.c k o x e,fun k x e=>(h.ok.m k x e).keep (GI k (h.ltm e) (X2 k x e))⟩
 have kM:σ.le (σ'.plus σ):=Im.plus_le2 aA GK;have kN:σ'.le (σ'.plus σ):=Im.plus_le1 σ' σ;have eE:∀k o x,(σ'.plus σ).c k o=some x→σ'.c k o=some x:=fun k o x e=>(Im.plus_c e).elim id (fun e=>hle.c k o x e)
 have wI:∀k x,(σ'.plus σ).m k=some x→σ'.m k=some x∨(σ.m k=some x∧x=cC):=fun k x e=>(Im.plus_m e).elim .inl (fun e=>by
  by_cases hd:x=cC
  ·exact .inr ⟨e,hd⟩
  ·refine .inl (hle.m k x ?_);have:σ.m k≠some cC:=fun e2=>hd (by rw[e] at e2;cases e2;rfl);simp only[Im.noM,if_neg this,e])
 let aS:Nat→Value:=fun j=>match cl js is j with|some i=>hv' i|none=>hv j
 have as5:∀i j,cl is js i=some j→hv' i=aS j:=fun i j e=>by simp only[aS,G5 GF e]
 have aq8:∀i,i∈ny shs→hv' i=dW i:=fun i hi=>aml (S:=S) (is:=is) (js:=js) (args:=fun t=>vals.toArray.getD t undef) (ds:=fun t=>(es.map (PE.ev ρ)++js.map ρ.o).getD t .none) (ds':=fun t=>(es.map (PE.ev ρ)++js.map ρ.o).getD t .none) (fun t s hs=>by
  have:=XP t;rw[List.getD_eq_getElem?_getD (l:=shs),hs] at this;exact this) (fun t s hs hd=>NV t s hs hd) asw hi
 have rB:Compat S hv (S.handed shs obs is js) aS:=by
  refine⟨fun j=>?_,fun j e=>?_⟩
  ·show S.ver j≤sS S.ver shs is js j;unfold sS;split
   ·cases aw (ny shs) _<;>simp
   ·exact Nat.le_refl _
  ·change sS S.ver shs is js j=S.ver j at e;show aS j=hv j;simp only[aS];unfold sS at e;split at e
   ·rename_i i hi;cases hb:aw (ny shs) i<;>rw[hb] at e
    ·simp at e
    ·try simp only[hi]
     rw[aq8 i (YA.1 hb),eW i j (G5 X4 hi)]
   ·rename_i hi;try simp only[hi]
 have lM:∀k j,B2 js is own own' k=some j→(k<w.heap.size→own k≠none)∧w0.heap.size≤k∧k<w'.heap.size∧(∀o,σ'.c k o=none)∧σ'.m k=none∧σ.m k≠some cC:=by
  intro k j hk;simp only[B2] at hk;split at hk
  ·rename_i i hi;obtain⟨g1,g2,g3,g4,g5⟩:=Yc k i hi;have g6:k<w.heap.size→own k≠none:=fun ah e=>g5 ah (by simp[mV,e]);refine⟨g6,g1,g2,g3,g4,fun e=>?_⟩;exact g6 (h.ltm e) (X2 k _ e)
  ·split at hk
   ·rename_i j' bB;split at hk
    ·cases hk
    ·rename_i hn;obtain⟨g1,g2,g3,g4⟩:=h.owns k j' bB;have jF:(∃j,own k=some j∧cl js is j=none)∨σ.m k=some cC∨(cx k):=.inl ⟨j',bB,hn⟩;refine⟨fun _ e=>(by rw[bB] at e;cases e),g1,Nat.lt_of_lt_of_le g2 hb.size,fun o=>?_,?_,fun e=>?_⟩
     ·cases e:σ'.c k o with
      |none=>rfl
      |some x=>exact absurd jF (db k o x e).2
     ·cases e:σ'.m k with
      |none=>rfl
      |some x=>exact absurd jF (cP k x e).2
     ·rw[g4] at e;cases e
   ·cases hk
 refine⟨σ'.plus σ,B2 js is own own',aS,⟨h.defers.mono kM,Im.plus_ok aA GK,h.le.trans kM,h.old,fun k o x e=>?_,fun k x e=>?_,h.below.trans (Below.weak hb fun k hk=>?_),h.bw,fun k j hk=>?_,fun t=>?_,fun j=>?_,h.opts,?_⟩,kg.mono kN⟩
 ·rcases(db k o x (eE k o x e)).1 with e1|e1
  ·exact h.newc k o x e1
  ·exact .inr e1
 ·rcases wI k x e with e1|e1
  ·rcases(cP k x e1).1 with e2|e2
   ·exact h.newm k x (Bj k x e2).1
   ·exact .inr e2
  ·exact h.newm k x e1.1
 ·have cq:k<w0.heap.size:=Nat.lt_of_lt_of_le hk h.bw;refine GI k (by omega) ?_;cases e:own k with
  |none=>rfl
  |some j=>have:=(h.owns k j e).1;omega
 ·obtain⟨_,g1,g2,g3,g4,g5⟩:=lM k j hk;refine⟨g1,g2,fun o=>?_,?_⟩
  ·cases e:(σ'.plus σ).c k o with
   |none=>rfl
   |some x=>have:=eE k o x e;rw[g3 o] at this;cases this
  ·cases e:(σ'.plus σ).m k with
   |none=>rfl
   |some x=>
    rcases wI k x e with e1|e1
    ·rw[g4] at e1;cases e1
    ·exact absurd (by rw[e1.1,e1.2]) g5
 ·show aK C _ ρ' _ aS (S.r t) _ (ρ'.r t);rw[gz]
  exact aK.mono kM rB (fun gs s e=>by
   unfold holds;rw[gz]) (fun gs s e=>(h.opts t gs s e).2) (h.regs t)
 ·show bT C _ ρ' _ _ aS w' _ j (match cl js is j with|some i=>(match oy (sS S.ver shs is js) is js (dI obs i) with|some o=>o|none=>.dead)|none=>S.o j);split
  ·rename_i i hi;have cG:=G5 X4 hi;split
   ·rename_i x hx;refine avz (S1:=S.handed shs obs is js) kN as5 (fun k i' j' hk hl=>by simp only[B2,hk,hl]) cG ?_ hx (Oj i);subst A9;obtain⟨k,bt,cq⟩:=YX (os:=os) Ol cG;show ρ'.o j=l5 obs os i;rw[cq];exact nQ k j bt
   ·trivial
  ·rename_i hn
   have Oa:j∉js:=fun hm=>by
        obtain⟨k,hk⟩:=List.getElem?_of_mem hm;have ah:k<is.length:=by
         have:=(List.getElem?_eq_some_iff.1 hk).1;rw[A9,List.length_map];omega
        have:=G4 GF hk (List.getElem?_eq_getElem ah);rw[hn] at this;cases this
   by_cases Gw:j=gn
   ·subst Gw;rw[Gl];trivial
   ·refine(h.objs j).mono kM rB (by show aS j=hv j;simp only[aS,hn]) (ub j Oa Gw) (fun k hk=>⟨?_,asf k j hk hn⟩);have:own' k=none:=by
     cases e:own' k with
     |none=>rfl
     |some i=>exact absurd (by simp[mV,hk,hn]) ((Yc k i e).2.2.2.2 (h.owns k j hk).2.1)
    simp only[B2,this,hk,hn]
 ·refine⟨tr,fx,cx,⟨σ0.keep _ _ _ _ _ hf.F hb fun k hk=>?_,fun k j hk jH=>?_,fun k o x e hc=>?_,fun k x e hc=>?_,fun k e hB hk=>?_⟩,fun j hj=>?_⟩
  ·refine GI k (σ0.lt _ _ _ _ hf.F k hk) ?_;cases e:own k with
   |none=>rfl
   |some j=>exact absurd hk (hf.own k j e)
  ·have ah:=σ0.lt _ _ _ _ hf.F k jH;have:=(lM k j hk).1 ah;cases e:own k with
   |none=>exact this e
   |some j'=>exact hf.own k j' e jH
  ·exact(db k o x (eE k o x e)).2 (.inr (.inr hc))
  ·rcases wI k x e with e1|e1
   ·exact(cP k x e1).2 (.inr (.inr hc))
   ·exact hf.m k x e1.1 hc
  ·rcases wI k _ e with e1|e1
   ·have ah:=σ0.lt _ _ _ _ hf.F k hk;refine GD k e1 hB ah ?_;have:own k=none:=by
     cases e:own k with
     |none=>rfl
     |some j=>exact absurd hk (hf.own k j e)
    simp[mV,this]
   ·exact hf.d k e1.1 hB hk
  ·change (match cl js is j with|some i=>(match oy (sS S.ver shs is js) is js (dI obs i) with|some o=>o|none=>.dead)|none=>S.o j)=.tr at hj;split at hj
   ·rename_i i hi;split at hj
    ·rename_i x hx;exact absurd hj (axB hx)
    ·cases hj
   ·rename_i hn
    have Oa:j∉js:=fun hm=>by
     obtain⟨k,hk⟩:=List.getElem?_of_mem hm;have ah:k<is.length:=by
         have:=(List.getElem?_eq_some_iff.1 hk).1;rw[A9,List.length_map];omega
     have:=G4 GF hk (List.getElem?_eq_getElem ah);rw[hn] at this;cases this
    have Gw:j≠gn:=fun e=>by subst e;rw[Gl] at hj;cases hj
    rw[ub j Oa Gw];exact qx j hj
theorem ae2:∀(js:List Nat) (k:Nat) {ρ ρ':Env} {l:List D},PI.runs Φ (Dv js k) ρ=some ρ'→ρ.o gn=.tup l→gn∉js→js.Nodup→
 ρ'.r=ρ.r∧(∀(i j:Nat),js[i]?=some j→ρ'.o j=l.getD (k+i) .none)∧∀j,j∉js→ρ'.o j=ρ.o j
 |[],k,ρ,ρ',l,h,hs,hn,hd=>by
  simp only[Dv,PI.runs,Option.some.injEq] at h;subst h;exact⟨rfl,fun i j e=>by simp at e,fun _ _=>rfl⟩
 |x::js,k,ρ,ρ',l,h,hs,hn,hd=>by
  simp only[Dv,PI.runs,PI.run,Option.bind_some,PE.ev,hs,D.tget] at h;simp only[List.mem_cons,not_or] at hn;have cT:=List.nodup_cons.1 hd;obtain⟨g1,g2,g3⟩:=ae2 js (k+1) h (by simp only[Env.setO];rw[bo _ _ hn.1];exact hs) hn.2 cT.2;refine⟨g1,fun i j e=>?_,fun j hj=>?_⟩
  ·cases i with
   |zero=>simp at e;subst e;rw[g3 _ cT.1];simp[Env.setO,aQ]
   |succ i=>simp at e;rw[g2 i j e];congr 1;omega
  ·simp only[List.mem_cons,not_or] at hj;rw[g3 j hj.2];simp only[Env.setO];exact bo _ _ hj.1
theorem agb (h:Inv C S ρ σ own hv w0 σ0 A a w)(hC:CtxOK C σ0)(x:Operand):∃d,yy C S ρ σ hv (DV C S x) (a.eval x) d:=by
 cases x with
 |tmp t=>
  refine⟨ρ.r t,?_,fun y hy=>bR (gs:=[]) h hC rfl hy⟩;have:=(na (gs:=[]) h rfl t).1;simpa [Act.eval,DV,fG] using this
 |_=>exact⟨.none,trivial,fun y hy=>bR (gs:=[]) h hC rfl hy⟩
theorem Wo (h:Inv C S ρ σ own hv w0 σ0 A a w)(hC:CtxOK C σ0)(hΦ:cS C Φ){f:Nat}{args:List Operand}{caps:List (Nat×Nat)}{vs:List Value}(gh:vs.length=caps.length)
 (jC:∀(i j ver:Nat),caps[i]?=some (j,ver)→ver≤S.ver j∧(ver=S.ver j→vs.getD i undef=hv j)) (aqP:∀(i j ver:Nat),caps[i]?=some (j,ver)→ver=S.ver j→∃k,hv j=.pointer (some ⟨k,0,none⟩)) {r:St×Ty×List PI} (hr:oP C S f args caps=some r)
 {ρ1:Env} (ao:PI.runs Φ r.2.2 ρ=some ρ1):
 Calls C.P f (args.map a.eval++vs).toArray w fun e w'=>∃v σ1 dk aS,e=.returned v∧Inv C r.1 ρ1 σ1 dk aS w0 σ0 A a w'∧Rep C.cap σ1 r.2.1 v ((ρ1.o gn).tget 0):=by
 simp only[oP,Option.bind_eq_some_iff] at hr;obtain⟨s,hs,hr⟩:=hr;split at hr
 case h_2=>cases hr
 rename_i shs obs nM;obtain⟨σ2,gC,kN,h2⟩:=Inv.fzs (v9 S args shs) h;have dG:=(oV (v9 S args shs) S).1;generalize S.fzs (v9 S args shs)=S2 at hr h2 dG;unfold MV MU at hr;generalize WG S2 shs obs (args.map (DV C S2)++caps.map VX)=js at hr;simp only[Option.bind_eq_some_iff] at hr;obtain⟨es,gO,hr⟩:=hr;cases hb:(BZ shs obs&&(iQ (obs.map (·.1))&&iQ js&&oU S2 (obs.map (·.1)) js obs js&&mP (S2.o gn)&& !aw js gn))<;>simp only[hb,cond_true,cond_false] at hr
 ·cases hr
 cases hr;simp only[Bool.and_eq_true,Bool.not_eq_true'] at hb;obtain⟨b0,⟨⟨⟨b1,b2⟩,b3⟩,b4⟩,b5⟩:=hb;have kc:=l7 b1;have nN:=l7 b2;have Gl:S2.o gn=.dead:=by
  cases e:S2.o gn<;>rw[e] at b4<;>first|rfl|cases b4
 have GQ:gn∉js:=fun hm=>by rw[YA.2 hm] at b5;cases b5
 simp only[PI.runs,PI.run,Option.bind_eq_some_iff,Option.map_eq_some_iff] at ao;obtain⟨ρ2,⟨d,hd,rfl⟩,ao⟩:=ao;rw[PE.evs_eq,List.map_append,List.map_map] at hd;have e1:js.map (PE.ev ρ∘PE.o)=js.map ρ.o:=rfl;rw[e1] at hd;have hfn:=(hΦ f _ d hd s hs).2 shs obs nM
 have tM:=handed h2 hC b0 rfl kc nN b3 gO Gl GQ (vals:=args.map a.eval++vs) (by simp[gh]) (fun t x hx=>by
  rw[List.getElem?_append] at hx;split at hx
  ·rename_i ah;rw[List.length_map] at ah;rw[List.getElem?_map,List.getElem?_eq_getElem ah] at hx;cases hx;have:(args.map a.eval++vs).getD t undef=a.eval args[t]:=by
        rw[List.getD_eq_getElem?_getD,List.getElem?_append_left (by simpa using ah),List.getElem?_map,List.getElem?_eq_getElem ah];rfl
   rw[this];exact agb h2 hC _
  ·rename_i dS;rw[List.length_map] at dS hx;rw[List.getElem?_map,Option.map_eq_some_iff] at hx;obtain⟨c,hc,rfl⟩:=hx;obtain⟨j,ver⟩:=c;have cr:(args.map a.eval++vs).getD t undef=vs.getD (t-args.length) undef:=by
        rw[List.getD_eq_getElem?_getD,List.getElem?_append_right (by simpa using dS),List.length_map,List.getD_eq_getElem?_getD]
   obtain⟨g1,g2⟩:=jC _ j ver hc;refine⟨.none,⟨by rw[dG];exact g1,fun e=>?_⟩,fun y hy=>by cases hy⟩;rw[dG] at e;obtain⟨k,hk⟩:=aqP _ j ver hc e;exact⟨k,hk,by rw[cr,g2 e,hk]⟩) (hfn:=hfn)
 refine tM.mono fun e w' hh=>?_;obtain⟨v,dr,os,rfl,rfl,Ol,lL⟩:=hh;obtain⟨g1,g2,g3⟩:=ae2 js 1 (l:=dr::os) ao (by simp[Env.setO,aQ]) GQ nN
 obtain⟨σ1,dk,aS,hinv,bK⟩:=lL ρ1 g1 (fun k j hk=>by
  have:=g2 k j hk;rw[Nat.add_comm] at this;simpa using this) (fun j hj aD=>by rw[g3 j hj];simp only[Env.setO];exact bo _ _ aD)
 refine⟨v,σ1,dk,aS,rfl,hinv,?_⟩;rw[g3 gn GQ];simpa [Env.setO,aQ,D.tget] using bK
def nX (S:St)(dst:Option Nat)(r:St×Ty×List PI):St×List PI:=
 match dst with
 |some d=>(r.1.setR d (.dat r.2.1),r.2.2++[.setR d (.tget (.o gn) 0)])
 |none=>(r.1,r.2.2)
theorem axR {a b:List PI}{ρ:Env}:PI.runs Φ (a++b) ρ=(PI.runs Φ a ρ).bind (PI.runs Φ b):=by
 induction a generalizing ρ with
 |nil=>simp[PI.runs]
 |cons x a ih=>
  simp only[List.cons_append,PI.runs];cases x.run Φ ρ with
  |none=>rfl
  |some ρ1=>simp[ih]
theorem VU {o:Oper}{f:Nat}{vals:List Value}(ht:∀d,o.dst=some d→¬A d∧d<a.tmps.size){r:St×Ty×List PI}(hx:(execOp a.eval o).run C.P w=.ok (.enter f vals.toArray) w)
 (hc:∀ρ1,PI.runs Φ r.2.2 ρ=some ρ1→Calls C.P f vals.toArray w fun e w'=>∃v σ1 dk aS,e=.returned v∧Inv C r.1 ρ1 σ1 dk aS w0 σ0 A a w'∧Rep C.cap σ1 r.2.1 v ((ρ1.o gn).tget 0)):bO C w0 σ0 Φ S ρ A a w o (nX S o.dst r):=by
 intro ρ' ao K Q hK;simp only[Oper.wp,hx,Oper.upon];cases hd:o.dst with
 |none=>
  rw[hd] at ao hK;refine(hc ρ' ao).mono fun e w' hh=>?_;obtain⟨v,σ1,dk,aS,rfl,hinv,bK⟩:=hh;refine hK _ _ ⟨σ1,dk,aS,?_⟩ rfl;have:(fun u=>A u∨(none:Option Nat)=some u)=A:=by funext u;simp
  rw[this];exact hinv
 |some d=>
  rw[hd] at ao hK;obtain⟨t1,t2⟩:=ht d hd;simp only[nX,axR,Option.bind_eq_some_iff] at ao;obtain⟨ρ1,h1,h2⟩:=ao;simp[PI.runs,PI.run,PE.ev] at h2;subst h2;refine(hc ρ1 h1).mono fun e w' hh=>?_;obtain⟨v,σ1,dk,aS,rfl,hinv,bK⟩:=hh;refine hK _ _ ⟨σ1,dk,aS,?_⟩ (size_put _ _ _);have:(fun u=>A u∨some d=some u)=(fun u=>A u∨u=d):=by funext u;simp[eq_comm]
  rw[this];exact hinv.setReg t1 (s:=.dat r.2.1) bK t2 (fun _ _ e=>by cases e)
theorem Wp (h:Inv C S ρ σ own hv w0 σ0 A a w)(hC:CtxOK C σ0)(bf:dp C)(hΦ:cS C Φ){f:Nat}{args:Array Operand}{ts:Array TypeId}{r:St×Ty×List PI}{o:Oper}(ht:∀d,o.dst=some d→¬A d∧d<a.tmps.size)
 (hr:oP C S f args.toList []=some r) (ho:o.op=.call {callee:=.value (.func f),args:=args,argTypes:=ts}):bO C w0 σ0 Φ S ρ A a w o (nX S o.dst r):=by
 have hs:∃s,C.sig f=some s:=by
  simp only[oP,Option.bind_eq_some_iff] at hr;obtain⟨s,hs,_⟩:=hr;exact⟨s,hs⟩
 obtain⟨s,hs⟩:=hs;have hx:=Se (a:=a) (w:=w) bf hs ho;have kO:args.map a.eval=(args.toList.map a.eval++[]).toArray:=by apply Array.ext';simp
 rw[kO] at hx;exact VU ht hx fun ρ1 ao=>Wo h hC hΦ (vs:=[]) rfl (fun i j ver e=>by simp at e) (fun i j ver e=>by simp at e) hr ao
def vO (S:St):List (Nat×Nat)→Bool
 |[]=>true
 |c::l=>Nat.beq c.2 (S.ver c.1)&&(match S.o c.1 with|.box ..=>true|_=>false)&&vO S l
theorem VZ (h:Inv C S ρ σ own hv w0 σ0 A a w):∀{l:List (Nat×Nat)},vO S l=true→∀(i j ver:Nat),l[i]?=some (j,ver)→ver=S.ver j∧∃k,hv j=.pointer (some ⟨k,0,none⟩)
 |[],_,i,j,ver,e=>by simp at e
 |c::l,hl,i,j,ver,e=>by
  simp only[vO,Bool.and_eq_true] at hl;cases i with
  |zero=>
   simp at e;subst e;refine⟨Nat.eq_of_beq_eq_true hl.1.1,?_⟩;have h1:=hl.1.2;have h2:=h.objs j;split at h1
   ·rename_i ag shs eo;simp only at eo;rw[eo] at h2;obtain⟨k,cs,T,ds,g1,_⟩:=h2;exact⟨k,g1⟩
   ·cases h1
  |succ i=>simp at e;exact VZ h hl.2 i j ver e
def vV (C:Ctx)(S:St)(t:Nat)(args:List Operand):Option (St×Ty×List PI):=
 match jY S [] t with
 |.fclo f caps=>bif vO S caps then oP C S f args caps else none
 |_=>none
theorem Wn (h:Inv C S ρ σ own hv w0 σ0 A a w)(hC:CtxOK C σ0)(bf:dp C)(hΦ:cS C Φ){t:Nat}{args:Array Operand}{ts:Array TypeId}{r:St×Ty×List PI}{o:Oper}(ht:∀d,o.dst=some d→¬A d∧d<a.tmps.size)
 (hr:vV C S t args.toList=some r) (ho:o.op=.call {callee:=.value (.tmp t),args:=args,argTypes:=ts}):bO C w0 σ0 Φ S ρ A a w o (nX S o.dst r):=by
 unfold vV at hr;split at hr
 case h_2=>cases hr
 rename_i f caps jK;cases hb:vO S caps<;>simp only[hb,cond_true,cond_false] at hr
 ·cases hr
 have iO:=(na (gs:=[]) h rfl t).1;rw[jK] at iO;obtain⟨vs,h1,h2,h3⟩:=iO;have hs:∃s,C.sig f=some s:=by
  simp only[oP,Option.bind_eq_some_iff] at hr;obtain⟨s,hs,_⟩:=hr;exact⟨s,hs⟩
 obtain⟨s,hs⟩:=hs;have hx:=aeT (a:=a) (w:=w) (vs:=vs) (x:=.tmp t) bf hs (by simpa [Act.eval] using h1) ho;have kO:args.map a.eval++vs.toArray=(args.toList.map a.eval++vs).toArray:=by apply Array.ext';simp
 rw[kO] at hx;exact VU ht hx fun ρ1 ao=>Wo h hC hΦ h2 h3 (fun i j ver e _=>(VZ h hb i j ver e).2) hr ao
def y8 (S:St):List Operand→Option (List (Nat×Nat))
 |[]=>some []
 |x::xs=>
  match x with
  |.tmp t=>
   match jY S [] t with
   |.ptr j ver off=>bif Nat.beq ver (S.ver j)&&Nat.beq off 0 then(y8 S xs).map fun r=>(j,ver)::r else none
   |_=>none
  |_=>none
def An (C:Ctx)(S:St)(dst:Nat)(fn:Fn)(first caps:Array Operand):Option (St×List PI):=
 match fn,first.toList with
 |.func f,[]=>
  match C.sig f with
  |some s=>bif pv s.mode then(y8 S caps.toList).map fun c=>(S.setR dst (.fclo f c),[.setR dst (.con .none)]) else none
  |none=>none
 |_,_=>none
theorem V0 (h:Inv C S ρ σ own hv w0 σ0 A a w):∀{l:List Operand} {c:List (Nat×Nat)},y8 S l=some c→c.length=l.length∧∀(i j ver:Nat),c[i]?=some (j,ver)→ver≤S.ver j∧(ver=S.ver j→(l.map a.eval).getD i undef=hv j)
 |[],c,e=>by simp only[y8,Option.some.injEq] at e;subst e;exact⟨rfl,fun i j ver e=>by simp at e⟩
 |x::xs,c,e=>by
  simp only[y8] at e;split at e
  case h_2=>cases e
  rename_i t;split at e
  case h_2=>cases e
  rename_i j ver off jK;cases hb:(Nat.beq ver (S.ver j)&&Nat.beq off 0)<;>simp only[hb,cond_true,cond_false] at e
  ·cases e
  simp only[Bool.and_eq_true] at hb;simp only[Option.map_eq_some_iff] at e;obtain⟨r,hr,rfl⟩:=e;obtain⟨g1,g2⟩:=V0 h hr;have iO:=(na (gs:=[]) h rfl t).1;rw[jK] at iO;refine⟨by simp[g1],fun i j' ni e=>?_⟩;cases i with
  |zero=>
   simp at e;obtain⟨rfl,rfl⟩:=e;refine⟨iO.1,fun e=>?_⟩;obtain⟨k,k1,k2⟩:=iO.2 e;have e0:off=0:=Nat.eq_of_beq_eq_true hb.2;subst e0;rw[k1,←k2];simp[Act.eval]
  |succ i=>simp at e;simpa using g2 i j' ni e
theorem amP (h:Inv C S ρ σ own hv w0 σ0 A a w)(ht:¬A dst)(ah:dst<a.tmps.size){fn:Fn}{first caps:Array Operand}{r:St×List PI}{o:Oper}(hr:An C S dst fn first caps=some r)(hd:o.dst=some dst)(ho:o.op=.makeFunc fn first caps):bO C w0 σ0 Φ S ρ A a w o r:=by
 unfold An at hr;split at hr
 case h_2=>cases hr
 rename_i f A5;split at hr
 case h_2=>cases hr
 rename_i s hs;cases hb:pv s.mode<;>simp only[hb,cond_true,cond_false] at hr
 ·cases hr
 simp only[Option.map_eq_some_iff] at hr;obtain⟨c,hc,rfl⟩:=hr;obtain⟨g1,g2⟩:=V0 h hc;have A2:first=#[]:=by rw[←Array.toList_inj];simpa using A5
 refine bO.value hd fun ρ' ao=>⟨.func (.func f) #[] (caps.toList.map a.eval).toArray,w,?_,?_⟩
 ·subst A2;have e9:caps.map a.eval=(caps.toList.map a.eval).toArray:=by apply Array.ext';rw[Array.toList_map]
  simp[execOp,ho,Instr.makeFunc,e9]
 ·have hρ:ρ'=ρ.setR dst .none:=by simp[PI.runs,PI.run,PE.ev] at ao;exact ao.symm
  subst hρ;exact⟨_,_,_,h.setReg ht (s:=.fclo f c) ⟨_,rfl,by simp[g1],g2⟩ ah (fun _ _ e=>by cases e)⟩
end
end Cx
namespace Cx
open Go Go.RowKit
inductive Gh where
 |fz (j:Nat)|fbox (b:Nat)|rereg (t j:Nat)|recell (b i j:Nat)|home (b i j:Nat) (T:TypeId)
def Gh.run (C:Ctx)(S:St):Gh→Option (St×List PI)
 |.fz j=>some (S.fz j,[])
 |.fbox b=>AI S b
 |.rereg t j=>vi S t j
 |.recell b i j=>Dm S b i j
 |.home b i j T=>Bm C S b i j T
def iy (C:Ctx):List Gh→St→Option (St×List PI)
 |[],S=>some (S,[])
 |g::gs,S=>(g.run C S).bind fun r=>(iy C gs r.1).map fun q=>(q.1,r.2++q.2)
theorem m8 {Φ:aT}:∀{a b:List PI} {ρ:Env},PI.runs Φ (a++b) ρ=(PI.runs Φ a ρ).bind (PI.runs Φ b)
 |[],b,ρ=>by simp[PI.runs]
 |x::a,b,ρ=>by
  simp only[List.cons_append,PI.runs];cases x.run Φ ρ with
  |none=>rfl
  |some ρ1=>simp[m8 (a:=a) (b:=b)]
def nF (S:St)(ops:Array Oper)(o:Oper):Option (List (Nat×Bool)):=
 match o.guard with
 |none=>some []
 |some (j,want)=>
  match(ops[j]?).bind (·.dst) with
  |some t=>
   match S.r t with
   |.dat .bool=>some [(t,want)]
   |.opt gs (.dat .bool)=>some ((t,want)::gs)
   |_=>none
  |none=>none
def sm (S:St)(gs:List (Nat×Bool)):Op→List Nat
 |.build _ ps=>bV S gs (ps.toList.map (·.2))
 |.buildSlice _ _ ps=>bV S gs (ps.toList.map (·.2))
 |.box _ x=>bV S gs [x]
 |.pick _ x y=>bV S gs [x,y]
 |.slice _ x _ _ _=>bV S gs [x]
 |.mapUpdate _ _ k v=>bV S gs [k,v]
 |.insert _ _ k v=>bV S gs [k,v]
 |.store _ x v=>match fG S gs x with|.eptr ..=>bV S gs [v]|_=>[]
 |_=>[]
def y9:List Sh→List Nat
 |[]=>[]
 |.obj j _::r=>j::y9 r
 |_::r=>y9 r
def D8 (S:St)(gs:List (Nat×Bool)):List Operand→List Nat
 |[]=>[]
 |x::xs=>
  match fG S gs x with
  |.ptr j ver off=>bif Nat.beq ver (S.ver j)&&(match S.o j with|.box ..=>true|_=>false) then j::D8 S gs xs else D8 S gs xs
  |_=>D8 S gs xs
def abI (C:Ctx):Fn→Bool
 |.func f=>(match C.sig f with|some s=>pv s.mode|none=>false)
 |_=>false
def pre (C:Ctx)(S:St)(gs:List (Nat×Bool))(op:Op):List Gh:=
 match op with
 |.makeFunc fn _ caps=>
  bif abI C fn then[] else(D8 S gs caps.toList).flatMap fun b=>(match S.o b with|.box _ shs=>(y9 shs).map .fz|_=>[])++[.fbox b]
 |.load T x=>
  match fG S gs x,nS C.P T,C.P.info? T with
  |.ptr j _ off,some true,some inf=>(match S.o j with|.box _ shs=>(y9 ((shs.drop off).take inf.size)).map .fz|_=>[])
  |_,_,_=>[]
 |op=>(sm S gs op).map .fz
def oc (C:Ctx)(S:St)(gs:List (Nat×Bool))(o:Oper):List Gh:=
 match o.op,o.dst with
 |.assign x,some t=>bif C.fr.any (Nat.beq t) then(bV S gs [x]).map .fz else[]
 |_,_=>[]
def MF (P:Program):Nat→TypeId→List (Option TypeId)
 |0,_=>[]
 |n+1,t=>
  match P.underlying t with
  |some (.struct fs)=>fs.toList.flatMap fun f=>MF P n f.type
  |some (.array len e)=>(List.replicate len (MF P n e)).flatten
  |some (.slice e)=>[some e]
  |_=>[none]
def homes (P:Program)(b off:Nat)(T:TypeId):List Gh:=
 ((MF P 12 T).zipIdx).filterMap fun x=>x.1.map fun e=>.home b (off+x.2) (Ya b (off+x.2)) e
def GZ (nh:List Nat)(l:List Gh):List Gh:=l.filter fun g=>match g with|.home _ _ j _=> !(nh.any (Nat.beq j))|_=>true
def aeG (b off n:Nat):List Gh:=(List.range n).map fun i=>.recell b (off+i) (Ya b (off+i))
def post (C:Ctx)(S:St)(o:Oper):List Gh:=
 match o.op,o.dst with
 |.assign _,some t=>[.rereg t t]
 |.alloc T,some t=>GZ C.nh (homes C.P t 0 T)
 |.store T x _,_=>
  match fG S [] x with
  |.ptr j _ off=>GZ C.nh (homes C.P j off T)++aeG j off (match C.P.info? T with|some i=>i.size|none=>0)
  |_=>[]
 |_,_=>[]
def px:Sh→Bool
 |.opt ..=>false
 |_=>true
def rl (C:Ctx)(S:St)(dst:Nat)(T:TypeId)(x:Operand):kB:=
 match x with
 |.const v=>(ng C.P T).bind fun t=>(nj t).bind fun z=>bif il t v then some (S.setR dst (.dat z.1),[.setR dst (.con z.2)]) else none
 |_=>none
def core (C:Ctx)(S:St)(gs:List (Nat×Bool))(o:Oper):Option (St×List PI):=
 match o.dst with
 |some dst=>
  match mT C S gs dst o.op with
  |some r=>bif px r.1 then some (S.setR dst (gK gs r.1),r.2) else none
  |none=>
   match o.op,gs with
   |.assign x,[]=>
    bif C.fr.any (Nat.beq dst) then
          match nY C S [] dst x with
          |some r=>some (S.setR dst r.1,r.2)
          |none=>rl C S dst o.type x
    else
    match Ao C S dst o.type x with
    |some r=>some r
    |none=>
     match nY C S [] dst x with
     |some r=>some (S.setR dst r.1,r.2)
     |none=>rl C S dst o.type x
   |.alloc T,[]=>Ag C S dst T
   |.box T x,[]=>Ai C S dst T x
   |.buildSlice T n ps,gs=>
    match gs with
    |[]=>tz C S [] dst T n ps.toList
    |_=>vW C S gs dst T n ps.toList
   |.makeSlice T l c,[]=>Am C S dst T l c
   |.makeMap T r,[]=>Al C S dst T r
   |.range T x,[]=>Ap C S dst T x
   |.convert T U x,[]=>Aj C S dst T U x
   |.call c,gs=>
    match c.callee,gs with
    |.builtin .append,[]=>
     match c.args.toList,c.argTypes.toList with
     |[s,x],[T,T']=>bif Nat.beq T T' then Ah C S dst T s x else none
     |_,_=>none
    |.value (.func f),gs=>
     match nz C S gs dst f c.args.toList with
     |some r=>some (r.1.setR dst (gK gs r.2.1),r.2.2)
     |none=>
      match gs with
      |[]=>
       match Ak C S dst f c.args.toList with
       |some r=>some r
       |none=>(oP C S f c.args.toList []).map (nX S (some dst))
      |_=>none
    |.value x,gs=>
     match my C S gs dst x c.args.toList with
     |some r=>some (r.1.setR dst (gK gs r.2.1),r.2.2)
     |none=>
      match x,gs with
      |.tmp t,[]=>(vV C S t c.args.toList).map (nX S (some dst))
      |_,_=>none
    |_,_=>none
   |.makeFunc fn first caps,[]=>An C S dst fn first caps
   |_,_=>none
 |none=>
  match o.op,gs with
  |.store T x v,[]=>rk C S T x v
  |.mapUpdate T m k v,[]=>qd C S T m k v
  |.insert T m k v,[]=>qd C S T m k v
  |.panic _,[]=>some (S,[.chk (.nt (.con (.bool true)))])
  |.call c,[]=>
   match c.callee with
   |.value (.func f)=>(oP C S f c.args.toList []).map (nX S none)
   |.value (.tmp t)=>(vV C S t c.args.toList).map (nX S none)
   |_=>none
  |_,_=>none
def adk (dst:Nat)(l:List PI):Bool:=l.all fun p=>p.modR.all (Nat.beq dst)&&p.modO.isEmpty
def gL (gs:List (Nat×Bool))(dst:Option Nat)(l:List PI):Bool:=
 match gs,dst with
 |[],_=>true
 |_,some d=>adk d l
 |_,none=>false
def Ad (C:Ctx)(S:St)(ops:Array Oper)(o:Oper):Option (St×List PI):=
 (nF S ops o).bind fun gs=>
 (iy C (pre C S gs o.op++oc C S gs o) S).bind fun r1=>
 (core C r1.1 gs o).bind fun r2=>
 (iy C (post C r2.1 o) r2.1).bind fun r3=>
 bif gL gs o.dst r2.2 then some (r3.1,r1.2++r2.2++r3.2) else none
def Dz:PI:=.chk (.con (.v (.bool false)))
def vS (C:Ctx)(S:St)(ops:Array Oper)(o:Oper):Option (St×List PI):=
 match Ad C S ops o with
 |some r=>some r
 |none=>some (match o.dst with|some d=>S.setR d .none|none=>S,[Dz])
section
variable {C:Ctx} {S:St} {ρ:Env} {σ:Im} {own:Nat→Option Nat} {hv:Nat→Value} {w0:World} {σ0:Base} {A:Nat→Prop} {a:Act} {w:World} {gs:List (Nat×Bool)} {Φ:aT} {dst:Nat}
theorem Gh.sound {g:Gh}{r:St×List PI}(h:Good C w0 σ0 S ρ A a w)(hr:g.run C S=some r):yA C w0 σ0 Φ S ρ A a w r:=by
 obtain⟨σ,own,hv,h⟩:=h;cases g with
 |fz j=>
  simp only[Gh.run,Option.some.injEq] at hr;subst hr;intro ρ' ao;rw[mf ao];obtain⟨σ',own',_,h'⟩:=h.fz j;exact⟨σ',own',hv,h'⟩
 |fbox b=>exact ap2 h hr
 |rereg t j=>exact axA h hr
 |recell b i j=>exact axz h hr
 |home b i j T=>exact asd h hr
theorem Nk:∀(l:List Gh) {S:St} {ρ ρ':Env} {r:St×List PI},Good C w0 σ0 S ρ A a w→iy C l S=some r→PI.runs Φ r.2 ρ=some ρ'→Good C w0 σ0 r.1 ρ' A a w
 |[],S,ρ,ρ',r,h,hr,ao=>by
  simp only[iy,Option.some.injEq] at hr;subst hr;rw[mf ao];exact h
 |g::l,S,ρ,ρ',r,h,hr,ao=>by
  simp only[iy,Option.bind_eq_some_iff,Option.map_eq_some_iff] at hr;obtain⟨q,hq,q2,gQ,rfl⟩:=hr;simp only[m8,Option.bind_eq_some_iff] at ao;obtain⟨ρ1,h1,h2⟩:=ao;exact Nk (r:=q2) l (Gh.sound (Φ:=Φ) h hq ρ1 h1) gQ h2
theorem W5 (h:Good C w0 σ0 S ρ A a w){ops:Array Oper}{o:Oper}(hg:nF S ops o=some gs):Region.wanted o (yielded ops a.tmps)=holds gs ρ:=by
 obtain⟨σ,own,hv,h⟩:=h;unfold nF at hg;unfold Region.wanted;split at hg
 ·rename_i e;cases hg;simp[e,holds]
 ·rename_i j want e;simp only[e];split at hg
  case h_2=>cases hg
  rename_i t ht;have iO:=h.regs t;have hy:∀v,a.tmps.getD t undef=v→(∀b,v=.bool b→yielded ops a.tmps j=some b)∧(v=undef→yielded ops a.tmps j=none):=by
   intro v hv';unfold yielded;rw[ht];simp only[Option.bind_some];rw[Array.getD_eq_getD_getElem?] at hv';cases mF:a.tmps[t]? with
   |none=>rw[mF] at hv';simp at hv';subst hv';exact⟨fun b e=>absurd e (by simp[undef]),fun _=>rfl⟩
   |some u=>rw[mF] at hv';simp at hv';subst hv';exact⟨fun b e=>by subst e;rfl,fun e=>by subst e;rfl⟩
  split at hg
  ·rename_i es;cases hg;rw[es] at iO;obtain⟨b,iI,dh⟩:=Rep.bool_inv iO;rw[(hy _ iI).1 b rfl];simp[holds,dh,D.b_bool]
  ·rename_i bC es;cases hg;rw[es] at iO;simp only[holds,List.all_cons];cases hh:holds bC ρ with
   |true=>
    obtain⟨b,iI,dh⟩:=Rep.bool_inv (iO.1 hh);rw[(hy _ iI).1 b rfl];unfold holds at hh;rw[hh,dh];simp[D.b_bool]
   |false=>
    rw[(hy _ (iO.2 hh)).2 rfl];unfold holds at hh;rw[hh];simp
  ·cases hg
theorem W4 (h:Good C w0 σ0 S ρ A a w){ops:Array Oper}{o:Oper}(hg:nF S ops o=some gs)(hj:∀j want t,o.guard=some (j,want)→(ops[j]?).bind (·.dst)=some t→A t):∀g,g∈gs→A g.1:=by
 obtain⟨σ,own,hv,h⟩:=h;unfold nF at hg;split at hg
 ·cases hg;simp
 ·rename_i j want e;split at hg
  case h_2=>cases hg
  rename_i t ht;have hA:=hj j want t e ht;split at hg
  ·cases hg;intro g hm;simp at hm;subst hm;exact hA
  ·rename_i bC es;cases hg;intro g hm;rcases List.mem_cons.1 hm with e'|dC
   ·subst e';exact hA
   ·exact(h.opts t bC _ es).1 g dC
  ·cases hg
theorem av4 (h:Inv C S ρ σ own hv w0 σ0 A a w)(hC:CtxOK C σ0)(hg:holds gs ρ=true){o:Oper}{r:Sh×List PI}(hr:mT C S gs dst o.op=some r):dM C S ρ σ hv Φ dst a w o r:=by
 unfold mT at hr;split at hr
 ·rename_i x e;exact ado h hC hg hr (.inl e)
 ·rename_i c x y e;exact av3 h hC hg hr e
 ·rename_i op T x y T' e;exact avE h hC hg hr e
 ·rename_i op T x e;exact av8 h hC hg hr e
 ·rename_i s d x e;exact avI h hC hg hr e
 ·rename_i T x e;exact HJ h hC hg hr e
 ·rename_i T x i e;exact avM h hC hg hr e
 ·rename_i T x i e;exact avO h hC hg hr e
 ·rename_i T x i e;exact avR h hC hg hr e
 ·rename_i T x i e;exact avT h hC hg hr e
 ·rename_i x i e;exact avK h hC hg hr e
 ·rename_i T m k ok e;exact avZ h hC hg hr e
 ·rename_i T x lo hi mx e;exact av6 h hC hg hr e
 ·rename_i f a b e;exact avP h hC hg hr e
 ·rename_i T ps e;exact avG h hC hg hr e
 ·rename_i x e;exact av1 h hC hg hr e
 ·cases hr;intro ρ' ao;have:=(Sg hg ao).1;cases this
 ·rename_i c e;split at hr
  ·rename_i x T hc ha ht;refine avV h hC hg hr ?_;rw[e];cases c with|mk callee args argTypes=>
   simp only at hc ha ht;have h1:args=#[x]:=by rw[←Array.toList_inj];exact ha
   have h2:argTypes=#[T]:=by rw[←Array.toList_inj];exact ht
   rw[hc,h1,h2]
  ·rename_i x y hc ha;refine adm (ts:=c.argTypes) h hC hg hr ?_;rw[e];cases c with|mk callee args argTypes=>
   simp only at hc ha;have h1:args=#[x,y]:=by rw[←Array.toList_inj];exact ha
   rw[hc,h1];rfl
  ·rename_i x y hc ha;refine adm (ts:=c.argTypes) h hC hg hr ?_;rw[e];cases c with|mk callee args argTypes=>
   simp only at hc ha;have h1:args=#[x,y]:=by rw[←Array.toList_inj];exact ha
   rw[hc,h1];rfl
  ·cases hr
 ·cases hr
theorem amX (h:Inv C S ρ σ own hv w0 σ0 A a w)(ht:¬A dst)(ah:dst<a.tmps.size){T:TypeId}{x:Operand}{r:St×List PI}(hr:rl C S dst T x=some r){o:Oper}(hd:o.dst=some dst)(ho:o.op=.assign x):bO C w0 σ0 Φ S ρ A a w o r:=by
 unfold rl at hr;split at hr
 case h_2=>cases hr
 rename_i v;simp only[Option.bind_eq_some_iff] at hr;obtain⟨t,_,z,hz,hr⟩:=hr;cases hc:il t v<;>simp only[hc,cond_true,cond_false] at hr
 ·cases hr
 cases hr;have bK:=(vA (cap:=C.cap) (σ:=σ) hz hc).1;refine bO.value hd fun ρ' ao=>⟨v,w,by simp[execOp,ho,Act.eval],?_⟩
 have hρ:ρ'=ρ.setR dst z.2:=by simp[PI.runs,PI.run,PE.ev] at ao;exact ao.symm
 subst hρ;exact⟨_,_,_,h.setReg ht (s:=.dat z.1) bK ah (fun _ _ e=>by cases e)⟩
theorem alZ (h:Inv C S ρ σ own hv w0 σ0 A a w)(hC:CtxOK C σ0)(bf:dp C)(hΦ:cS C Φ){o:Oper}(ht:∀d,o.dst=some d→¬A d∧d<a.tmps.size)(du:∀g,g∈gs→A g.1)(hg:holds gs ρ=true){r:St×List PI}
 (hr:core C S gs o=some r):bO C w0 σ0 Φ S ρ A a w o r:=by
 unfold core at hr;split at hr
 ·rename_i dst hd;obtain⟨fM,fN⟩:=ht dst hd;split at hr
  ·rename_i q hq;cases dy:px q.1<;>simp only[dy,cond_true,cond_false] at hr
   ·cases hr
   cases hr;have Yg:=av4 (Φ:=Φ) h hC hg hq;cases gs with
   |nil=>exact Yg.eff h fM fN hd
   |cons g bC=>exact Yg.effG h fM fN du hg hd
  ·rename_i Od;clear Od;split at hr
   ·rename_i x e
    have mv:∀r,(match nY C S [] dst x with|some r=>some (S.setR dst r.1,r.2)|none=>rl C S dst o.type x)=some r→bO C w0 σ0 Φ S ρ A a w o r:=by
     intro r hr;split at hr
     ·rename_i q hq;cases hr;exact(ado (Φ:=Φ) h hC hg hq (.inr e)).eff h fM fN hd
     ·exact amX h fM fN hr hd e
    cases cO:C.fr.any (Nat.beq dst)<;>simp only[cO,cond_true,cond_false] at hr
    ·split at hr
     ·rename_i q hq;cases hr;exact amR h hC fM fN hq hd e
     ·exact mv r hr
    ·exact mv r hr
   ·rename_i T e;exact amr h fM fN hr hd e
   ·rename_i T x e;exact amv h hC fM fN hr hd e
   ·rename_i T n ps e;split at hr
    ·exact amx h hC fM fN hr hd e
    ·exact amJ h hC fM fN du hg hr hd e
   ·rename_i T l c e;exact amN h hC fM fN hr hd e
   ·rename_i T m e;exact amL h fM fN hr hd e
   ·rename_i T x e;exact amT h fM fN hr hd e
   ·rename_i T U x e;exact amz h hC fM fN hr hd e
   ·rename_i c e;cases c with|mk callee args argTypes=>
    split at hr
    ·rename_i hc;simp only at hc;split at hr
     ·rename_i s x T T' ha OS;simp only at ha OS;cases hT:Nat.beq T T'<;>simp only[hT,cond_true,cond_false] at hr
      ·cases hr
      have wh:=Nat.eq_of_beq_eq_true hT;subst wh;refine amt h hC fM fN hr hd ?_;have h1:args=#[s,x]:=by rw[←Array.toList_inj];exact ha
      have h2:argTypes=#[T,T]:=by rw[←Array.toList_inj];exact OS
      rw[e,hc,h1,h2]
     ·cases hr
    ·rename_i f hc;simp only at hc;split at hr
     ·rename_i q hq;cases hr;exact amH h hC bf hΦ fM fN du hg hq hd (by rw[e,hc])
     ·split at hr
      ·split at hr
       ·rename_i q hq;cases hr;exact amE h hC bf hΦ fM fN hq hd (by rw[e,hc])
       ·simp only[Option.map_eq_some_iff] at hr;obtain⟨q,hq,rfl⟩:=hr;rw[←hd];exact Wp h hC bf hΦ ht hq (by rw[e,hc])
      ·cases hr
    ·rename_i x N9 hc;simp only at hc;split at hr
     ·rename_i q hq;cases hr;exact amC h hC bf hΦ fM fN du hg hq hd (by rw[e,hc])
     ·split at hr
      ·simp only[Option.map_eq_some_iff] at hr;obtain⟨q,hq,rfl⟩:=hr;rw[←hd];exact Wn h hC bf hΦ ht hq (by rw[e,hc])
      ·cases hr
    ·cases hr
   ·rename_i fn first caps e;exact amP h fM fN hr hd e
   ·cases hr
 ·rename_i hd;split at hr
  ·rename_i T x v e;exact amV h hC hr hd e
  ·rename_i T m k v e;exact Wr h hC hr hd (.inl e)
  ·rename_i T m k v e;exact Wr h hC hr hd (.inr e)
  ·cases hr;intro ρ' ao;simp[PI.runs,PI.run,PE.ev,D.bool,D.b] at ao
  ·rename_i c e;cases c with|mk callee args argTypes=>
   split at hr
   ·rename_i f hc;simp only at hc;simp only[Option.map_eq_some_iff] at hr;obtain⟨q,hq,rfl⟩:=hr;rw[←hd];exact Wp h hC bf hΦ ht hq (by rw[e,hc])
   ·rename_i t hc;simp only at hc;simp only[Option.map_eq_some_iff] at hr;obtain⟨q,hq,rfl⟩:=hr;rw[←hd];exact Wn h hC bf hΦ ht hq (by rw[e,hc])
   ·cases hr
  ·cases hr
theorem alX {g:Nat×Bool}{bC:List (Nat×Bool)}{o:Oper}{r:St×List PI}(hr:core C S (g::bC) o=some r):
 ∃dst S2 s,o.dst=some dst∧r.1=S2.setR dst (.opt (g::bC) s)∧((∃js,S2=S.fzs js)∨∃j,S2=S.newO j .dead)∧(∀gs s',s≠.opt gs s')∧(∀x,o.op≠.assign x)∧(∀T,o.op≠.alloc T)∧∀T x v,o.op≠.store T x v:=by
 unfold core at hr;split at hr
 ·rename_i dst hd;split at hr
  ·rename_i q hq;cases dy:px q.1<;>simp only[dy,cond_true,cond_false] at hr
   ·cases hr
   cases hr;refine⟨dst,S,q.1,hd,rfl,.inl ⟨[],rfl⟩,(fun gs s' e=>by rw[e] at dy;cases dy),fun x e=>?_,fun T e=>?_,fun T x v e=>?_⟩<;>(rw[e] at hq;simp[mT] at hq)
  ·rename_i Od;clear Od;split at hr
   case h_4=>
        rename_i T n ps e;split at hr
        ·rename_i hx;cases hx
        ·unfold vW at hr;split at hr
         case h_2=>cases hr
         simp only[Option.bind_eq_some_iff] at hr;obtain⟨e0,he0,hr⟩:=hr;split at hr
         ·cases hr;exact⟨dst,_,.dat (.slice e0.rol),hd,rfl,.inr ⟨dst,rfl⟩,(fun _ _ e=>by cases e),(fun x e'=>by rw[e] at e';cases e'),(fun x e'=>by rw[e] at e';cases e'),(fun _ _ _ e'=>by rw[e] at e';cases e')⟩
         ·cases hr
   case h_9=>
        rename_i c e;split at hr
        ·rename_i hx;cases hx
        ·rename_i f hc;split at hr
         ·rename_i q hq;cases hr;simp only[nz,Option.bind_eq_some_iff] at hq;obtain⟨s,hs,hq⟩:=hq;split at hq
          case h_2=>cases hq
          simp only[Option.bind_eq_some_iff] at hq;obtain⟨u,hu,hq⟩:=hq;cases bW:Ty.subs u.1 s.args<;>simp only[bW,cond_true,cond_false] at hq
          ·cases hq
          cases hq;refine⟨dst,_,.dat s.res,hd,rfl,?_,(fun _ _ e=>by cases e),(fun x e'=>by rw[e] at e';cases e'),(fun x e'=>by rw[e] at e';cases e'),(fun _ _ _ e'=>by rw[e] at e';cases e')⟩;left;cases s.res.pure
          ·exact⟨_,rfl⟩
          ·exact⟨[],rfl⟩
         ·cases hr
        ·rename_i x N9 hc;have hr:∃q,my C S (g::bC) dst x c.args.toList=some q∧(q.1.setR dst (gK (g::bC) q.2.1),q.2.2)=r:=by
          split at hr
          ·rename_i q hq;cases hr;exact⟨q,hq,rfl⟩
          ·split at hr
           all_goals (first|(cases hr;done)|(rename_i hx;cases hx;done)|(rename_i hx _;cases hx;done)|(rename_i hx _ _;cases hx;done)|(rename_i hx;exact absurd hx (by simp)))
         obtain⟨q,hq,rfl⟩:=hr;unfold my at hq;split at hq
         case h_2=>cases hq
         rename_i aa r0 ee OT;split at hq
         case h_1=>cases hq
         simp only[Option.bind_eq_some_iff] at hq;obtain⟨u,hu,hq⟩:=hq;cases bW:Ty.subs u.1 aa<;>simp only[bW,cond_true,cond_false] at hq
         ·cases hq
         cases hq;refine⟨dst,_,.dat r0,hd,rfl,?_,(fun _ _ e=>by cases e),(fun x e'=>by rw[e] at e';cases e'),(fun x e'=>by rw[e] at e';cases e'),(fun _ _ _ e'=>by rw[e] at e';cases e')⟩;left;cases r0.pure
         ·exact⟨_,rfl⟩
         ·exact⟨[],rfl⟩
        ·cases hr
   all_goals (first|(cases hr;done)|(rename_i hx;cases hx;done)|(rename_i hx _;cases hx;done))
 ·split at hr
  all_goals (first|(cases hr;done)|(rename_i hx;cases hx;done)|(rename_i hx _;cases hx;done))
theorem X9 {ρ ρ1:Env}:∀{l:List (Nat×Bool)},(∀g,g∈l→ρ1.r g.1=ρ.r g.1)→holds l ρ1=holds l ρ
 |[],_=>rfl
 |x::l,h=>by
  have ih:=X9 (l:=l) fun y hy=>h y (List.mem_cons_of_mem _ hy);unfold holds at ih ⊢;simp only[List.all_cons];rw[ih,h x (List.mem_cons_self ..)]
theorem W0:∀(l:List Gh) {S:St} {r:St×List PI},iy C l S=some r→∀t,t∉r.2.flatMap PI.modR
 |[],S,r,hr=>by simp only[iy,Option.some.injEq] at hr;subst hr;simp
 |g::l,S,r,hr=>by
  simp only[iy,Option.bind_eq_some_iff,Option.map_eq_some_iff] at hr;obtain⟨q,hq,q2,gQ,rfl⟩:=hr;have ih:=W0 l gQ;have hg:∀t,t∉q.2.flatMap PI.modR:=by
   cases g with
   |fz j=>simp only[Gh.run,Option.some.injEq] at hq;subst hq;simp
   |fbox b=>
    simp only[Gh.run,AI] at hq;split at hq
    case h_2=>cases hq
    simp only[Option.bind_eq_some_iff] at hq;obtain⟨x,hx,hq⟩:=hq;rename_i ag shs eo;cases ag<;>simp only[cond_true,cond_false] at hq
    ·split at hq
     ·cases hq;simp[PI.modR]
     ·cases hq
    ·cases hq;simp[PI.modR]
   |rereg t j=>
    simp only[Gh.run,vi] at hq;split at hq
    ·rename_i j' ver es;cases hb:(Nat.beq ver (S.ver j')&&lX (S.o j')&& !Nat.beq j' j)<;>simp only[hb,cond_true,cond_false] at hq<;>cases hq<;>simp[PI.modR]
    ·cases hq;simp
   |recell b i j=>
    simp only[Gh.run,Dm] at hq;split at hq
    ·split at hq
     ·rename_i ag shs eo j' ver es;cases hb:(Nat.beq ver (S.ver j')&&lX (S.o j')&& !Nat.beq j' j&& !Nat.beq b j&& !Nat.beq b j')<;>simp only[hb,cond_true,cond_false] at hq<;>cases hq<;>simp[PI.modR]
     ·cases hq;simp
    ·cases hq;simp
   |home b i j T=>
    simp only[Gh.run,Bm] at hq;split at hq
    ·split at hq
     ·cases hb:(!Nat.beq b j)<;>simp only[hb,cond_true,cond_false] at hq<;>cases hq<;>simp[PI.modR]
     ·cases hq;simp
    ·cases hq;simp
  intro t hm;rw[List.flatMap_append,List.mem_append] at hm;exact hm.elim (hg t) (ih t)
theorem alQ (h:Good C w0 σ0 S ρ A a w)(hC:CtxOK C σ0)(bf:dp C)(hΦ:cS C Φ){ops:Array Oper}{o:Oper}(ht:∀d,o.dst=some d→¬A d∧d<a.tmps.size)
 (hj:∀j want t,o.guard=some (j,want)→(ops[j]?).bind (·.dst)=some t→A t) {r:St×List PI} (hr:Ad C S ops o=some r) {ρ':Env} (ao:PI.runs Φ r.2 ρ=some ρ')
 {K:Act→World→Prop} {Q:Exit→Act→World→Prop} (hK:∀a' w',Good C w0 σ0 r.1 ρ' (fun u=>A u∨o.dst=some u) a' w'→a'.tmps.size=a.tmps.size→K a' w'):
 if Region.wanted o (yielded ops a.tmps) then o.wp C.P a w K Q else K (a.put o.dst undef) w:=by
 simp only[Ad,Option.bind_eq_some_iff] at hr;obtain⟨gs,du,r1,gz,r2,nQ,r3,ub,hr⟩:=hr;have wB:=W4 h du hj;rw[W5 h du];cases hc:gL gs o.dst r2.2<;>simp only[hc,cond_true,cond_false] at hr
 ·cases hr
 cases hr;simp only[m8,Option.bind_eq_some_iff] at ao;obtain⟨ρ2,⟨ρ1,hρ1,hρ2⟩,hρ3⟩:=ao;have h1:=Nk _ h gz hρ1;have cg:=h1;obtain⟨σ1,dk,aS,i1⟩:=cg;have Gr:holds gs ρ1=holds gs ρ:=by
  cases gs with
  |nil=>rfl
  |cons g bC=>
   have hb:=(PI.runs_but hρ1).r
   have:∀x,x∈(g::bC)→ρ1.r x.1=ρ.r x.1:=fun x hm=>hb x.1 (by
        intro cJ;exact W0 _ gz x.1 cJ)
   exact X9 this
 cases hh:holds gs ρ with
 |true=>
  simp only[if_true];rw[hh] at Gr;refine alZ i1 hC bf hΦ ht wB Gr nQ ρ2 hρ2 K Q (fun a' w' eT aL=>?_);exact hK a' w' (Nk (r:=r3) _ eT ub hρ3) aL
 |false=>
  simp only[Bool.false_eq_true,if_false];rw[hh] at Gr;cases gs with
  |nil=>simp[holds] at hh
  |cons g bC=>
   obtain⟨dst,S2,s,hd,hS,rz,hns,n1,n2,n3⟩:=alX nQ;obtain⟨t1,t2⟩:=ht dst hd;have ji:post C r2.1 o=[]:=by
        unfold post;split
        ·rename_i x t e _;exact absurd e (n1 x)
        ·rename_i T t e _;exact absurd e (n2 T)
        ·rename_i T x v e;exact absurd e (n3 T x v)
        ·rfl
   rw[ji] at ub;simp only[iy,Option.some.injEq] at ub;subst ub;have:=mf hρ3;subst this;obtain⟨σ2,gC,i2⟩:∃σ2 gC,Inv C S2 ρ1 σ2 gC aS w0 σ0 A a w:=by
        rcases rz with⟨js,rfl⟩|⟨j,rfl⟩
        ·obtain⟨σ2,gC,_,i2⟩:=Inv.fzs js i1;exact⟨σ2,gC,i2⟩
        ·exact⟨σ1,dk,i1.kill j⟩
   have Bp:=i2.passed t1 t2 wB Gr (s:=s) hns (ρ'.r dst);have hρe:ρ1.setR dst (ρ'.r dst)=ρ':=by
        have hb:=PI.runs_but hρ2;simp only[gL,hd] at hc;unfold adk at hc;rw[List.all_eq_true] at hc
        have e1:∀t,t≠dst→ρ'.r t=ρ1.r t:=fun t aD=>hb.r t (fun hm=>by
         obtain⟨p,hp,rK⟩:=List.mem_flatMap.1 hm;have:=hc p hp;simp only[Bool.and_eq_true] at this;have:=List.all_eq_true.1 this.1 t rK;exact aD (Nat.eq_of_beq_eq_true this).symm)
        have e2:∀t,ρ'.o t=ρ1.o t:=fun t=>hb.o t (fun hm=>by
         obtain⟨p,hp,rK⟩:=List.mem_flatMap.1 hm;have:=hc p hp;simp only[Bool.and_eq_true] at this;have h9:=List.isEmpty_iff.1 this.2;rw[h9] at rK;cases rK)
        have r1:bQ ρ1.r dst (ρ'.r dst)=ρ'.r:=by
         funext t;rw[fq];split
         ·rename_i e;subst e;rfl
         ·rename_i aD;exact(e1 t aD).symm
        have r2:ρ1.o=ρ'.o:=funext fun t=>(e2 t).symm;cases ρ' with|mk a b=>simp only[Env.setR] at r1 r2 ⊢;rw[r1,r2]
   rw[hρe] at Bp;have iJ:(fun u=>A u∨o.dst=some u)=(fun u=>A u∨u=dst):=by funext u;rw[hd];simp[eq_comm]
   rw[iJ] at hK;rw[hd];refine hK _ _ ?_ (size_put _ _ _);simp only;rw[hS];exact⟨_,_,_,Bp⟩
theorem alS (h:Good C w0 σ0 S ρ A a w)(hC:CtxOK C σ0)(bf:dp C)(hΦ:cS C Φ){ops:Array Oper}{o:Oper}(ht:∀d,o.dst=some d→¬A d∧d<a.tmps.size)
 (hj:∀j want t,o.guard=some (j,want)→(ops[j]?).bind (·.dst)=some t→A t) {r:St×List PI} (hr:vS C S ops o=some r) {ρ':Env} (ao:PI.runs Φ r.2 ρ=some ρ')
 {K:Act→World→Prop} {Q:Exit→Act→World→Prop} (hK:∀a' w',Good C w0 σ0 r.1 ρ' (fun u=>A u∨o.dst=some u) a' w'→a'.tmps.size=a.tmps.size→K a' w'):
 if Region.wanted o (yielded ops a.tmps) then o.wp C.P a w K Q else K (a.put o.dst undef) w:=by
 unfold vS at hr;split at hr
 ·rename_i q hq;cases hr;exact alQ h hC bf hΦ ht hj hq ao hK
 ·cases hr;simp[PI.runs,PI.run,Dz,PE.ev,D.b_bool] at ao
end
end Cx
