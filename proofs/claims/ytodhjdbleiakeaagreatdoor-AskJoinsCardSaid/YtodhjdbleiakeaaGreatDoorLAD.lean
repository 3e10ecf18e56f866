/-
  Shared texts of this claim.
-/
import Derived.Test.YtodhjdbleiakeaaGreatDoorLAC
set_option linter.unusedSimpArgs false
set_option linter.unusedVariables false
namespace Cx
open Go Go.RowKit
open Classical in
noncomputable def Im.noM (σ:Im):Im:=⟨σ.c,fun k=>if σ.m k=some cu then none else σ.m k⟩
theorem Rep.noM {cap:Nat→Option CSig}{σ:Im}{t:Ty}{v:Value}{d:D}(h:Rep cap σ t v d):Rep cap σ.noM t v d:=by
 induction h with
 |int k n h1 h2=>exact .int k n h1 h2
 |bool b=>exact .bool b
 |str s h=>exact .str s h
 |agg ts vs ds h1 h2 _ ho ih=>exact .agg ts vs ds h1 h2 ih ho
 |tup ts vs ds h1 h2 _ ih=>exact .tup ts vs ds h1 h2 ih
 |nil e=>exact .nil e
 |emp e a=>exact .emp e a
 |nils e=>exact .nils e
 |nsl0 e=>exact .nsl0 e
 |nsl e k o n c xs _ hx ih=>exact .nsl e k o n c xs ih hx
 |slice e k o n c xs vs hn hc hm _ hv ih=>exact .slice e k o n c xs vs hn hc hm ih hv
 |mapnil kt et=>exact .mapnil kt et
 |map kt et r gL es hm hl hx hk _ iy Ah=>
  refine .map kt et r gL es ?_ hl hx iy Ah;have aB:σ.m r≠some cu:=fun e=>by rw[hm] at e;cases e;exact Av hl hk rfl
  simp only[Im.noM,if_neg aB,hm]
 |ref t k o v d _ hv ih=>exact .ref t k o v d ih hv
 |fn f cs vs ds hc h1 h2 _ ih=>exact .fn f cs vs ds hc h1 h2 ih
 |fnnil aa r=>exact .fnnil aa r
def Im.plus (σ τ:Im):Im:=⟨fun k o=>(σ.c k o).or (τ.c k o),fun k=>(σ.m k).or (τ.m k)⟩
theorem Im.plus_le1 (σ τ:Im):σ.le (σ.plus τ):=⟨fun k o v h=>by simp[Im.plus,h],fun k v h=>by simp[Im.plus,h]⟩
theorem nN.det {w:World}{k:Nat}{x y:List (Value×Value)}(h:nN w k x)(g:nN w k y):x=y:=by
 rcases h with⟨_,a,c,h1,h2⟩|⟨h1,h2⟩<;>rcases g with⟨_,a',c',g1,g2⟩|⟨g1,g2⟩
 ·rw[h1] at g1;cases g1;rw[←h2,←g2]
 ·rw[h1] at g2;cases g2
 ·rw[h2] at g1;cases g1
 ·rw[h1,g1]
theorem Im.plus_le2 {σ τ:Im}{w:World}(h:σ.ok w)(g:τ.ok w):τ.le (σ.plus τ):=by
 refine⟨fun k o v e=>?_,fun k v e=>?_⟩
 ·show(σ.c k o).or (τ.c k o)=some v;cases hc:σ.c k o with
  |none=>simpa using e
  |some u=>have:=(h.c k o u hc).symm.trans (g.c k o v e);simpa using this
 ·show(σ.m k).or (τ.m k)=some v;cases hc:σ.m k with
  |none=>simpa using e
  |some u=>simpa using(h.m k u hc).det (g.m k v e)
theorem Im.plus_ok {σ τ:Im}{w:World}(h:σ.ok w)(g:τ.ok w):(σ.plus τ).ok w:=by
 refine⟨fun k o v e=>?_,fun k v e=>?_⟩
 ·change (σ.c k o).or (τ.c k o)=some v at e;cases hc:σ.c k o with
  |none=>rw[hc] at e;exact g.c k o v (by simpa using e)
  |some u=>rw[hc] at e;simp at e;subst e;exact h.c k o u hc
 ·change (σ.m k).or (τ.m k)=some v at e;cases hc:σ.m k with
  |none=>rw[hc] at e;exact g.m k v (by simpa using e)
  |some u=>rw[hc] at e;simp at e;subst e;exact h.m k u hc
theorem Im.plus_c {σ τ:Im}{k o:Nat}{v:Value}(h:(σ.plus τ).c k o=some v):σ.c k o=some v∨τ.c k o=some v:=by
 change (σ.c k o).or (τ.c k o)=some v at h;cases hc:σ.c k o with
 |none=>rw[hc] at h;exact .inr (by simpa using h)
 |some u=>rw[hc] at h;exact .inl (by simpa using h)
theorem Im.plus_m {σ τ:Im}{k:Nat}{v:List (Value×Value)}(h:(σ.plus τ).m k=some v):σ.m k=some v∨τ.m k=some v:=by
 change (σ.m k).or (τ.m k)=some v at h;cases hc:σ.m k with
 |none=>rw[hc] at h;exact .inr (by simpa using h)
 |some u=>rw[hc] at h;exact .inl (by simpa using h)
def Ty.pureT:Ty→Bool
 |.int _|.bool|.str|.nils _=>true
 |_=>false
def Ty.pure:Ty→Bool
 |.tup ts=>ts.all Ty.pureT
 |.agg ts=>ts.all Ty.pureT
 |t=>Ty.pureT t
theorem Rep.pureT {cap:Nat→Option CSig}{σ τ:Im}{t:Ty}{v:Value}{d:D}(h:Rep cap σ t v d)(hp:t.pureT=true):Rep cap τ t v d:=by
 cases h<;>simp[Ty.pureT] at hp<;>constructor<;>assumption
theorem Rep.pure {cap:Nat→Option CSig}{σ τ:Im}{t:Ty}{v:Value}{d:D}(h:Rep cap σ t v d)(hp:t.pure=true):Rep cap τ t v d:=by
 cases h with
 |agg ts vs ds h1 h2 h ho=>exact .agg ts vs ds h1 h2 (fun i t hi=>(h i t hi).pureT (List.all_eq_true.1 hp t (List.mem_of_getElem? hi))) ho
 |tup ts vs ds h1 h2 h=>exact .tup ts vs ds h1 h2 (fun i t hi=>(h i t hi).pureT (List.all_eq_true.1 hp t (List.mem_of_getElem? hi)))
 |int k n h1 h2=>exact .int k n h1 h2
 |bool b=>exact .bool b
 |str s h=>exact .str s h
 |nils e=>exact .nils e
 |_=>simp[Ty.pure,Ty.pureT] at hp
def nk (C:Ctx)(s:Sig)(σ':Im)(w w':World)(v:Value)(d:D):Prop:=
 match s.mode with
 |.dat=>Rep C.cap σ' s.res v d
 |.it _=>True
 |.ob ..=>True
 |.row T e=>∃cells xs,d=.list xs∧w'.ownsRow w.heap.size T e.size v xs.length cells∧fI C.cap σ' e cells xs∧∀k,v.ownBlock=some k→(∀o,σ'.c k o=none)∧σ'.m k=none
def nj (C:Ctx)(σ:Im)(ts:List Ty)(args:List Value)(ds:List D):Prop:=
 args.length=ts.length∧ds.length=ts.length∧∀(i:Nat) (t:Ty),ts[i]?=some t→Rep C.cap σ t (args.getD i undef) (ds.getD i .none)
def jU (C:Ctx)(f:Nat)(s:Sig)(ds:List D)(d:D):Prop:=
 ∀(σ:Im) (w:World) (args:Array Value),σ.ok w→CtxOK C σ→nj C σ s.args args.toList ds→
  Calls C.P f args w fun e w'=>∃v σ',e=.returned v∧σ.le σ'∧σ'.ok w'∧Below w.heap.size w w'∧
   (∀k o x,σ'.c k o=some x→σ.c k o=some x∨w.heap.size≤k)∧(∀k x,σ'.m k=some x→σ.m k=some x∨w.heap.size≤k)∧nk C s σ' w w' v d
def dv:List (Nat×Ob)→Nat→Ob
 |[],_=>.dead
 |x::l,j=>bif Nat.beq x.1 j then x.2 else dv l j
def la:List (Nat×Ob)→List D→Nat→D
 |x::l,d::ds,j=>bif Nat.beq x.1 j then d else la l ds j
 |_,_,_=>.none
def eJ (shs:List Sh)(obs:List (Nat×Ob)):St:=⟨fun t=>shs.getD t .none,fun j=>dv obs j,fun _=>0⟩
def km (obs:List (Nat×Ob))(ds os:List D):Env:=⟨fun t=>ds.getD t .none,fun j=>la obs os j⟩
def kW:Sh→Bool
 |.dat _=>true
 |_=>false
def nO:Mode→Bool
 |.ob ..=>true
 |_=>false
def pD:Sh→Bool
 |.none|.dat _|.obj ..|.ptr ..|.fclo ..=>true
 |_=>false
def Hr:Ob→Bool
 |.row ..|.mp ..=>true
 |.box _ shs=>shs.all pD
 |_=>false
def Ay (shs:List Sh)(obs:List (Nat×Ob)):Bool:=shs.all pD&&obs.all fun x=>Hr x.2
def jV (C:Ctx)(f:Nat)(shs:List Sh)(obs:List (Nat×Ob))(res:Ty)(ds:List D)(d:D):Prop:=
 ∀(N:Nat) (σ:Im) (own:Nat→Option Nat) (hv:Nat→Value) (w:World) (args:Array Value) (cx:Nat→Prop),Ay shs obs=true→σ.ok w→CtxOK C σ→(∀k,σ.m k≠some cu)→N≤w.heap.size→args.size=shs.length→
  (∀k j,own k=some j→N≤k∧k<w.heap.size∧(∀o,σ.c k o=none)∧σ.m k=none)→
  (∀k,cx k→k<w.heap.size∧own k=none∧(∀o,σ.c k o=none)∧σ.m k=none)→
  (∀t,aI C (eJ shs obs) (km obs ds (ds.drop shs.length)) σ hv (shs.getD t .none) (args.getD t undef) (ds.getD t .none))→
  (∀j,bQ C (eJ shs obs) (km obs ds (ds.drop shs.length)) σ own hv w N j (dv obs j))→
  Calls C.P f args w fun e w'=>∃v σ' own' hv' dr os,e=.returned v∧d=.tup (dr::os)∧os.length=obs.length∧σ.le σ'∧σ'.ok w'∧Below 0 w w'∧
   (∀k,k<w.heap.size→own k=none→w'.heap[k]?=w.heap[k]?)∧
   (∀k o x,σ'.c k o=some x→(σ.c k o=some x∨N≤k)∧¬cx k)∧(∀k x,σ'.m k=some x→(σ.m k=some x∨N≤k)∧¬cx k)∧(∀k,σ'.m k=some cu→N≤k→k<w.heap.size→own k≠none)∧
   (∀k j,own' k=some j→N≤k∧k<w'.heap.size∧(∀o,σ'.c k o=none)∧σ'.m k=none∧(k<w.heap.size→own k≠none))∧
   (∀(t:Nat) (sh:Sh),shs[t]?=some sh→kW sh=false→aI C (eJ shs obs) (km obs ds os) σ' hv' sh (args.getD t undef) (ds.getD t .none))∧
   (∀j,bQ C (eJ shs obs) (km obs ds os) σ' own' hv' w' N j (dv obs j))∧Rep C.cap σ' res v dr
theorem aI.ctx {C C':Ctx}(iU:C'.cap=C.cap){S:St}{ρ:Env}{σ:Im}{hv:Nat→Value}{s:Sh}(hp:pD s=true){v:Value}{d:D}(h:aI C S ρ σ hv s v d):aI C' S ρ σ hv s v d:=by
 cases s with
 |dat t=>show Rep C'.cap σ t v d;rw[iU];exact h
 |opt gs s=>cases hp
 |eptr j ver a b=>cases hp
 |yv=>cases hp
 |_=>exact h
theorem bQ.ctx {C C':Ctx}(iU:C'.cap=C.cap){S:St}{ρ:Env}{σ:Im}{own:Nat→Option Nat}{hv:Nat→Value}{w:World}{N j:Nat}{ob:Ob}(hp:Hr ob=true∨ob=.dead)(h:bQ C S ρ σ own hv w N j ob):bQ C' S ρ σ own hv w N j ob:=by
 rcases hp with hp|rfl
 ·cases ob with
  |row T e=>obtain⟨cells,xs,h1,h2,h3,h4⟩:=h;exact⟨cells,xs,h1,h2,by rw[iU];exact h3,h4⟩
  |mp kt et=>obtain⟨k,arr,clock,es,h1,h2,h3,h4,h5,h6,h7⟩:=h;exact⟨k,arr,clock,es,h1,h2,h3,h4,h5,h6,by rw[iU];exact h7⟩
  |box ag shs=>
   obtain⟨k,cs,T,ds,h1,h2,h3,h4,h5,h6,h7⟩:=h;exact⟨k,cs,T,ds,h1,h2,h3,h4,h5,h6,fun i s hs=>⟨(h7 i s hs).1,(h7 i s hs).2.ctx iU (List.all_eq_true.1 hp s (List.mem_of_getElem? hs))⟩⟩
  |_=>cases hp
 ·trivial
theorem WD {obs:List (Nat×Ob)}(h:(obs.all fun x=>Hr x.2)=true)(j:Nat):Hr (dv obs j)=true∨dv obs j=.dead:=by
 induction obs with
 |nil=>exact .inr rfl
 |cons x l ih=>
  simp only[List.all_cons,Bool.and_eq_true] at h;simp only[dv];cases hb:Nat.beq x.1 j
  ·exact ih h.2
  ·exact .inl h.1
theorem jV.ctx {C C':Ctx}{f:Nat}{shs:List Sh}{obs:List (Nat×Ob)}{res:Ty}{ds:List D}{d:D}(h:jV C f shs obs res ds d)(hP:C'.P=C.P)(iU:C'.cap=C.cap)(K0:C'.glob=C.glob):jV C' f shs obs res ds d:=by
 intro N σ own hv w args cx hp ax hC aZ hN aK bI iX h1 h2;have aS:=hp;simp only[Ay,Bool.and_eq_true] at aS;have pj:∀t s,shs[t]?=some s→pD s=true:=fun t s hs=>List.all_eq_true.1 aS.1 s (List.mem_of_getElem? hs);have hC':CtxOK C σ:=⟨fun g x hx=>by have:=hC.glob g x (by rw[K0];exact hx);rwa [iU] at this⟩
 have:=h N σ own hv w args cx hp ax hC' aZ hN aK bI iX (fun t=>by
  cases hs:shs[t]? with
  |none=>rw[List.getD_eq_getElem?_getD,hs];trivial
  |some s=>have:=h1 t;rw[List.getD_eq_getElem?_getD,hs] at this ⊢;exact this.ctx iU.symm (pj t s hs)) (fun j=>(h2 j).ctx iU.symm (WD aS.2 j))
 rw[hP];refine this.mono fun e w' hh=>?_;obtain⟨v,σ',own',hv',dr,os,g1,g2,g3,g4,g5,g6,g7,g8,g9,g10,g11,g12,g13,g14⟩:=hh;exact⟨v,σ',own',hv',dr,os,g1,g2,g3,g4,g5,g6,g7,g8,g9,g10,g11,fun t sh hs hd=>(g12 t sh hs hd).ctx iU (pj t sh hs),fun j=>(g13 j).ctx iU (WD aS.2 j),by rw[iU];exact g14⟩
def cM (C:Ctx)(Φ:aL):Prop:=∀f ds d,Φ f ds=some d→∀s,C.sig f=some s→(nO s.mode=false→jU C f s ds d)∧∀shs obs,s.mode=.ob shs obs→jV C f shs obs s.res ds d
def kh:List Ty→Ty→Option (List Ty)
 |[.fn ys .bool],.tup []=>some ys
 |_,_=>none
def db (C:Ctx):Prop:=(∀f cs,C.cap f=some cs→kh cs.args cs.res=none→C.sig f=some ⟨cs.args++cs.caps,cs.res,.dat⟩)∧∀f s,C.sig f=some s→∃fn,C.P.funcs[f]?=some fn∧fn.body.isSome=true∧(fn.name== "runtime.NumGoroutine")=false
def bS (S:St)(gs:List (Nat×Bool)):List Operand→List Nat
 |[]=>[]
 |x::xs=>
  match fq S gs x with
  |.obj j ver=>bif Nat.beq ver (S.ver j)&&kX (S.o j) then j::bS S gs xs else bS S gs xs
  |_=>bS S gs xs
def gu (gs:List (Nat×Bool))(s:Sh):Sh:=
 match gs with
 |[]=>s
 |_=>.opt gs s
def St.fzs (S:St)(js:List Nat):St:=js.foldl St.fz S
def mz (C:Ctx)(S:St)(gs:List (Nat×Bool))(dst:Nat)(f:Nat)(args:List Operand):Option (St×Sh×List PI):=
 (C.sig f).bind fun s=>
    match s.mode with
    |.dat=>
     (jQ C (S.fzs (bS S gs args)) gs args).bind fun u=>
       bif Ty.subs u.1 s.args then some (bif s.res.pure then S else S.fzs (bS S gs args),.dat s.res,[.call gs dst f u.2]) else Option.none
    |_=>Option.none
def yR (C:Ctx)(S:St)(dst:Nat)(f:Nat)(args:List Operand):jT:=
 (C.sig f).bind fun s=>
    match s.mode with
    |.row T e=>
     (jQ C (S.fzs (bS S [] args)) [] args).bind fun u=>
       bif Ty.subs u.1 s.args then some (mkObj (bif e.pure then S else S.fzs (bS S [] args)) dst (.row T e),[.call [] dst f u.2,.setO dst (.r dst),.setR dst (.con .none)]) else Option.none
    |_=>Option.none
def ly (C:Ctx)(S:St)(gs:List (Nat×Bool))(dst:Nat)(x:Operand)(args:List Operand):Option (St×Sh×List PI):=
 match use C S gs x with
 |some (.fn aa r,e)=>
  match kh aa r with
  |some _=>Option.none
  |Option.none=>
  (jQ C (S.fzs (bS S gs args)) gs args).bind fun u=>
    bif Ty.subs u.1 aa then some (bif r.pure then S else S.fzs (bS S gs args),.dat r,[.callc gs dst e u.2]) else Option.none
 |_=>Option.none
theorem nB:∀(js:List Nat) (S:St),(S.fzs js).ver=S.ver∧(S.fzs js).r=S.r
 |[],S=>⟨rfl,rfl⟩
 |j::js,S=>by
  obtain⟨h1,h2⟩:=nB js (S.fz j);obtain⟨k1,k2⟩:=DK S j;exact⟨h1.trans k1,h2.trans k2⟩
section
variable {C:Ctx} {S:St} {ρ:Env} {σ:Im} {own:Nat→Option Nat} {hv:Nat→Value} {w0:World} {σ0:Base} {A:Nat→Prop} {a:Act} {w:World} {gs:List (Nat×Bool)} {Φ:aL} {dst:Nat}
theorem Inv.fzs:∀(js:List Nat) {S:St} {σ:Im} {own:Nat→Option Nat},Inv C S ρ σ own hv w0 σ0 A a w→∃σ' own',σ.le σ'∧Inv C (S.fzs js) ρ σ' own' hv w0 σ0 A a w
 |[],S,σ,own,h=>⟨σ,own,.refl σ,h⟩
 |j::js,S,σ,own,h=>by
  obtain⟨σ1,da,hle,h1⟩:=h.fz j;obtain⟨σ2,gl,j9,h2⟩:=Inv.fzs js h1;exact⟨σ2,gl,hle.trans j9,h2⟩
theorem Inv.world (h:Inv C S ρ σ own hv w0 σ0 A a w){σ':Im}{w':World}(hle:σ.le σ')(ax:σ'.ok w')(hb:Below w.heap.size w w')(cQ:∀k o x,σ'.c k o=some x→σ.c k o=some x∨w.heap.size≤k)
 (cK:∀k x,σ'.m k=some x→σ.m k=some x∨w.heap.size≤k):Inv C S ρ σ' own hv w0 σ0 A a w':=by
 have aK:=h.below.size;refine h.step (fun _=>False) rfl hle ax (fun k o x hx=>(cQ k o x hx).imp id (fun e=>⟨by omega,.inr e⟩)) (fun k x hx=>(cK k x hx).imp id (fun e=>⟨by omega,.inr e⟩)) (hb.mono aK) (.refl S hv) (fun j _=>⟨rfl,rfl,rfl,fun k hk=>⟨hk,hb.block k (h.owns k j hk).2.1⟩⟩) (fun _ hf=>hf.elim) (fun k j hk=>?_) (fun _=>id) (fun t=>.inl ⟨rfl,rfl,rfl⟩) (fun _ _=>rfl) (fun k hk _=>hb.block k hk) (fun k i hk=>.inl ⟨i,hk⟩) (fun _ hf=>hf.elim);obtain⟨g1,g2,g3,g4⟩:=h.owns k j hk;refine⟨g1,by have:=hb.size;omega,fun o=>?_,?_⟩
 ·cases hc:σ'.c k o with
  |none=>rfl
  |some x=>rcases cQ k o x hc with e|e
           ·rw[g3 o] at e;cases e
           ·omega
 ·cases hc:σ'.m k with
  |none=>rfl
  |some x=>rcases cK k x hc with e|e
           ·rw[g4] at e;cases e
           ·omega
theorem CtxOK.mono {C:Ctx}{σ σ':Im}(h:CtxOK C σ)(hle:σ.le σ'):CtxOK C σ':=⟨fun g x hx=>(h.glob g x hx).mono hle⟩
theorem IN (h:Inv C S ρ σ own hv w0 σ0 A a w)(hC:CtxOK C σ0)(hg:holds gs ρ=true){xs:List Operand}{u:List Ty×List PE}{ts:List Ty}(hu:jQ C S gs xs=some u)(hs:Ty.subs u.1 ts=true):nj C σ ts (xs.map a.eval) (PE.evs ρ u.2):=by
 obtain⟨l1,l2,aQ⟩:=acW h hC hg _ _ hu;have hl:=Ty.subs_len _ _ hs;refine⟨by rw[List.length_map];omega,by rw[PE.evs_eq,List.length_map];omega,fun i t hi=>?_⟩;obtain⟨s,dJ,cF⟩:=Ty.subs_get _ _ hs i t hi;exact(aQ i s dJ).sub cF
theorem PO {o:Oper}{f:Nat}{args:Array Operand}{ts:Array TypeId}(aX:db C){s:Sig}(hs:C.sig f=some s)(ho:o.op=.call {callee:=.value (.func f),args:=args,argTypes:=ts}):
 (execOp a.eval o).run C.P w=.ok (.enter f (args.map a.eval)) w:=by
 obtain⟨fn,h1,h2,h3⟩:=aX.2 f s hs;obtain⟨bd,jA⟩:=Option.isSome_iff_exists.1 h2;have h4:¬fn.name= "runtime.NumGoroutine" :=by simpa using h3
 simp[execOp,ho,resolve,Act.eval,Deferred.ofValue,invoke,callFunc,h1,jA,h4]
theorem aby {o:Oper}{x:Operand}{f:Nat}{vs:List Value}{args:Array Operand}{ts:Array TypeId}(aX:db C){s:Sig}(hs:C.sig f=some s)(hx:a.eval x=.func (.func f) #[] vs.toArray)(ho:o.op=.call {callee:=.value x,args:=args,argTypes:=ts}):
 (execOp a.eval o).run C.P w=.ok (.enter f (args.map a.eval++vs.toArray)) w:=by
 obtain⟨fn,h1,h2,h3⟩:=aX.2 f s hs;obtain⟨bd,jA⟩:=Option.isSome_iff_exists.1 h2;have h4:¬fn.name= "runtime.NumGoroutine" :=by simpa using h3
 simp[execOp,ho,resolve,hx,Deferred.ofValue,invoke,callFunc,h1,jA,h4]
theorem Tc (h:Inv C S ρ σ own hv w0 σ0 A a w)(hC:CtxOK C σ0)(ht:¬A dst)(ah:dst<a.tmps.size)(df:∀g,g∈gs→A g.1)(hg:holds gs ρ=true){f:Nat}{s:Sig}{js:List Nat}{vals:List Value}{ds:List D}{d:D}(mJ:s.mode=.dat)(hfn:jU C f s ds d)
 (gO:∀σ1 da,σ.le σ1→Inv C (S.fzs js) ρ σ1 da hv w0 σ0 A a w→nj C σ1 s.args vals ds) {K:Act→World→Prop} {Q:Exit→Act→World→Prop}
 (hK:∀a' w',Good C w0 σ0 ((bif s.res.pure then S else S.fzs js).setR dst (gu gs (.dat s.res))) (ρ.setR dst d) (fun u=>A u∨u=dst) a' w'→a'.tmps.size=a.tmps.size→K a' w'):
 Calls C.P f vals.toArray w (fun e iM=>match e with|.returned v=>K (a.put (some dst) v) iM|.panicked chain=>Q (.panic chain) a iM|.outgrown=>LetsOut Q):=by
 obtain⟨σ1,da,j8,h1⟩:=Inv.fzs js h;have se:=hfn σ1 w vals.toArray h1.ok (hC.mono h1.le) (by simpa using gO σ1 da j8 h1);refine se.mono fun e w' hh=>?_;obtain⟨v,σ',rfl,hle,ax,hb,cQ,cK,jE⟩:=hh;simp only[nk,mJ] at jE;refine hK _ _ ?_ (size_put _ _ _);have hh:holds gs (ρ.setR dst d)=true:=by rw[zP (t:=dst) (d:=d) fun g hm e=>ht (by rw[←e];exact df g hm)];exact hg
 have put:∀{S2:St} {σ2:Im} {gl:Nat→Option Nat},Inv C S2 ρ σ2 gl hv w0 σ0 A a w'→Rep C.cap σ2 s.res v d→Good C w0 σ0 (S2.setR dst (gu gs (.dat s.res))) (ρ.setR dst d) (fun u=>A u∨u=dst) (a.put (some dst) v) w':=by
  intro S2 σ2 gl h2 hr;cases gs with
  |nil=>exact⟨_,_,_,h2.setReg ht (s:=.dat s.res) hr ah (fun _ _ e=>by cases e)⟩
  |cons g bA=>
   refine⟨_,_,_,h2.setReg ht (s:=.opt (g::bA) (.dat s.res)) ⟨fun _=>hr,fun e=>absurd (hh.symm.trans e) (by decide)⟩ ah (fun gs s e=>?_)⟩;cases e;exact⟨df,fun _ _ e=>by cases e⟩
 cases hp:s.res.pure with
 |true=>
  simp only[cond_true];exact put (h.world (.refl σ) (h.ok.below hb) hb (fun _ _ _ hx=>.inl hx) (fun _ _ hx=>.inl hx)) (jE.pure hp)
 |false=>
  simp only[cond_false];exact put (h1.world hle ax hb cQ cK) jE
theorem JT {o:Oper}{f:Nat}{args:Array Value}{K:Act→World→Prop}{Q:Exit→Act→World→Prop}(hd:o.dst=some dst)(hx:(execOp a.eval o).run C.P w=.ok (.enter f args) w)
 (h:Calls C.P f args w (fun e iM=>match e with|.returned v=>K (a.put (some dst) v) iM|.panicked chain=>Q (.panic chain) a iM|.outgrown=>LetsOut Q)):o.wp C.P a w K Q:=by
 simp only[Oper.wp,hx,Oper.upon,hd];refine h.mono fun e iM hh=>?_;cases e<;>exact hh
theorem aiD (h:Inv C S ρ σ own hv w0 σ0 A a w)(hC:CtxOK C σ0)(aX:db C)(hΦ:cM C Φ)(ht:¬A dst)(ah:dst<a.tmps.size)(df:∀g,g∈gs→A g.1)(hg:holds gs ρ=true){f:Nat}{args:Array Operand}{ts:Array TypeId}{r:St×Sh×List PI}
 (hr:mz C S gs dst f args.toList=some r) {o:Oper} (hd:o.dst=some dst) (ho:o.op=.call {callee:=.value (.func f),args:=args,argTypes:=ts}):bJ C w0 σ0 Φ S ρ A a w o (r.1.setR dst (gu gs r.2.1),r.2.2):=by
 simp only[mz,Option.bind_eq_some_iff] at hr;obtain⟨s,hs,hr⟩:=hr;split at hr
 case h_2=>cases hr
 rename_i mJ;simp only[Option.bind_eq_some_iff] at hr;obtain⟨u,hu,hr⟩:=hr;cases bV:Ty.subs u.1 s.args<;>simp only[bV,cond_true,cond_false] at hr
 ·cases hr
 cases hr;intro ρ' aj K Q hK;simp only[PI.runs,PI.run,hg,cond_true,Option.bind_eq_some_iff,Option.map_eq_some_iff] at aj;obtain⟨ρ1,⟨d,bj,rfl⟩,aj⟩:=aj;cases aj;have hfn:=(hΦ f _ d bj s hs).1 (by rw[mJ];rfl);refine JT hd (PO aX hs ho) ?_;have ka:args.map a.eval=(args.toList.map a.eval).toArray:=by apply Array.ext';rw[Array.toList_map]
 rw[ka];have gQ:(fun u=>A u∨o.dst=some u)=(fun u=>A u∨u=dst):=by funext u;rw[hd];simp[eq_comm]
 rw[gQ] at hK;exact Tc h hC ht ah df hg (js:=bS S gs args.toList) mJ hfn (fun σ1 da _ h1=>IN h1 hC hg hu bV) hK
theorem aiy (h:Inv C S ρ σ own hv w0 σ0 A a w)(hC:CtxOK C σ0)(aX:db C)(hΦ:cM C Φ)(ht:¬A dst)(ah:dst<a.tmps.size)(df:∀g,g∈gs→A g.1)(hg:holds gs ρ=true){x:Operand}{args:Array Operand}{ts:Array TypeId}{r:St×Sh×List PI}
 (hr:ly C S gs dst x args.toList=some r) {o:Oper} (hd:o.dst=some dst) (ho:o.op=.call {callee:=.value x,args:=args,argTypes:=ts}):bJ C w0 σ0 Φ S ρ A a w o (r.1.setR dst (gu gs r.2.1),r.2.2):=by
 unfold ly at hr;split at hr
 case h_2=>cases hr
 rename_i aa r0 e LY;split at hr
 case h_1=>cases hr
 rename_i K4;simp only[Option.bind_eq_some_iff] at hr;obtain⟨u,hu,hr⟩:=hr;cases bV:Ty.subs u.1 aa<;>simp only[bV,cond_true,cond_false] at hr
 ·cases hr
 cases hr;have hx:=bO h hC hg LY;intro ρ' aj K Q hK;simp only[PI.runs,PI.run,hg,cond_true,Option.bind_eq_some_iff] at aj;obtain⟨ρ1,qE,aj⟩:=aj;cases aj;split at qE
 case h_2=>cases qE
 rename_i f caps bD;simp only[Option.map_eq_some_iff] at qE;obtain⟨d,bj,rfl⟩:=qE;rw[bD] at hx;generalize eP:a.eval x=xv at hx;generalize aW:Ty.fn aa r0=ty at hx;cases hx with
 |fn f cs vs ds hc h1 h2 aQ=>
  cases aW;have hs:=aX.1 f cs hc K4;have hfn:=(hΦ f _ d bj _ hs).1 rfl;refine JT hd (aby aX hs eP ho) ?_;have ka:args.map a.eval++vs.toArray=(args.toList.map a.eval++vs).toArray:=by apply Array.ext';simp
  rw[ka];have gQ:(fun u=>A u∨o.dst=some u)=(fun u=>A u∨u=dst):=by funext u;rw[hd];simp[eq_comm]
  rw[gQ] at hK;refine Tc h hC ht ah df hg (js:=bS S gs args.toList) (s:=⟨cs.args++cs.caps,cs.res,.dat⟩) rfl hfn (fun σ1 da j8 i1=>?_) hK;obtain⟨g1,g2,g3⟩:=IN i1 hC hg hu bV;refine⟨by simp only[List.length_append,g1,h1],by simp only[List.length_append,g2,h2],fun i t hi=>?_⟩;rw[List.getElem?_append] at hi;split at hi
  ·rename_i ah;have:=g3 i t hi;rw[List.getD_eq_getElem?_getD,List.getD_eq_getElem?_getD,List.getElem?_append_left (by omega),List.getElem?_append_left (by omega)];simpa [List.getD_eq_getElem?_getD] using this
  ·rename_i dY;have:=(aQ _ t hi).mono j8;rw[List.getD_eq_getElem?_getD,List.getD_eq_getElem?_getD,List.getElem?_append_right (by omega),List.getElem?_append_right (by omega),g1,g2];simpa [List.getD_eq_getElem?_getD] using this
theorem aiA (h:Inv C S ρ σ own hv w0 σ0 A a w)(hC:CtxOK C σ0)(aX:db C)(hΦ:cM C Φ)(ht:¬A dst)(ah:dst<a.tmps.size){f:Nat}{args:Array Operand}{ts:Array TypeId}{r:St×List PI}
 (hr:yR C S dst f args.toList=some r) {o:Oper} (hd:o.dst=some dst) (ho:o.op=.call {callee:=.value (.func f),args:=args,argTypes:=ts}):bJ C w0 σ0 Φ S ρ A a w o r:=by
 simp only[yR,Option.bind_eq_some_iff] at hr;obtain⟨s,hs,hr⟩:=hr;split at hr
 case h_2=>cases hr
 rename_i T e mJ;simp only[Option.bind_eq_some_iff] at hr;obtain⟨u,hu,hr⟩:=hr;cases bV:Ty.subs u.1 s.args<;>simp only[bV,cond_true,cond_false] at hr
 ·cases hr
 cases hr;intro ρ' aj K Q hK;have hgt:holds ([]:List (Nat×Bool)) ρ=true:=rfl;simp only[PI.runs,PI.run,hgt,cond_true,Option.bind_eq_some_iff,Option.map_eq_some_iff] at aj;obtain⟨ρ1,⟨d,bj,rfl⟩,ρ2,g2,ρ3,g3,g4⟩:=aj;cases g2;cases g3;cases g4;have hfn:=(hΦ f _ d bj s hs).1 (by rw[mJ];rfl);obtain⟨σ1,da,j8,h1⟩:=Inv.fzs (bS S [] args.toList) h;have ka:args.map a.eval=(args.toList.map a.eval).toArray:=by apply Array.ext';rw[Array.toList_map]
 refine JT hd (PO aX hs ho) ?_;rw[ka];have se:=hfn σ1 w (args.toList.map a.eval).toArray h1.ok (hC.mono h1.le) (by simpa using IN h1 hC rfl hu bV);refine se.mono fun e' w' hh=>?_;obtain⟨v,σ',rfl,hle,ax,hb,cQ,cK,jE⟩:=hh;simp only[nk,mJ] at jE;obtain⟨cells,xs,rfl,bI,gy,kO⟩:=jE;refine hK _ _ ?_ (size_put _ _ _);have gQ:(fun u=>A u∨o.dst=some u)=(fun u=>A u∨u=dst):=by funext u;rw[hd];simp[eq_comm]
 rw[gQ];have main:∀{S2:St} {σ1 σ2:Im} {gl:Nat→Option Nat},Inv C S2 ρ σ1 gl hv w0 σ0 A a w→σ1.le σ2→σ2.ok w'→(∀k o x,σ2.c k o=some x→σ1.c k o=some x∨w.heap.size≤k)→(∀k x,σ2.m k=some x→σ1.m k=some x∨w.heap.size≤k)→fI C.cap σ2 e cells xs→(∀k,v.ownBlock=some k→(∀o,σ2.c k o=none)∧σ2.m k=none)→
  Good C w0 σ0 (mkObj S2 dst (.row T e)) ((ρ.setO dst (.list xs)).setR dst .none) (fun u=>A u∨u=dst) (a.put (some dst) v) w':=by
  intro S2 σ1 σ2 gl h2 j9 Lu anM anP amY am3;have aK:=h1.below.size
  have jD:=h2.newOσ dst (.row T e) (.list xs) v (fun k=>decide (v.ownBlock=some k)) j9 Lu anM anP hb (fun k hk=>bI.lt k (by simpa using hk)) (fun k hk=>am3 k (by simpa using hk)) ⟨cells,xs,by simp[Env.setO,aP],by
        rw[aP];refine⟨bI.1,?_⟩;rcases bI.2 with e1|⟨g,cap,cur,e1,e2,e3⟩
        ·exact .inl e1
        ·exact .inr ⟨g,cap,cur,e1,by omega,e3⟩,amY,fun k hk=>by rw[aP] at hk;simp[eU,hk]⟩
  have VQ:=jD.setObj ht (j:=dst) (v:=v) (aP _ _ _) ah;have e:(S2.newO dst (.row T e)).ver dst=S2.ver dst+1:=aP _ _ _;rw[e] at VQ;exact⟨_,_,_,VQ⟩
 have eρ:((ρ.setR dst (.list xs)).setO dst ((PE.r dst).ev (ρ.setR dst (.list xs)))).setR dst ((PE.con D.none).ev ((ρ.setR dst (.list xs)).setO dst ((PE.r dst).ev (ρ.setR dst (.list xs)))))=(ρ.setO dst (.list xs)).setR dst .none:=by
  have:∀d1 d2:D,bN (bN ρ.r dst d1) dst d2=bN ρ.r dst d2:=by
   intro d1 d2;funext i;simp only[fb];split<;>rfl
  simp[Env.setR,Env.setO,PE.ev,aP,this]
 show Good C w0 σ0 _ _ _ _ _;rw[eρ];cases hp:e.pure with
 |true=>
  simp only[cond_true];refine main h (.refl σ) (h.ok.below hb) (fun _ _ _ hx=>.inl hx) (fun _ _ hx=>.inl hx) ?_ (fun k hk=>?_)
  ·obtain⟨vs,k1,k2⟩:=gy;exact⟨vs,fun i x hx=>(k1 i x hx).pure hp,k2⟩
  ·obtain⟨f1,f2⟩:=kO k hk;refine⟨fun o=>?_,?_⟩
   ·cases hc:σ.c k o with
    |none=>rfl
    |some x=>have:=hle.c _ _ _ (j8.c _ _ _ hc);rw[f1 o] at this;cases this
   ·cases hc:σ.m k with
    |none=>rfl
    |some x=>have:=hle.m _ _ (j8.m _ _ hc);rw[f2] at this;cases this
 |false=>
  simp only[cond_false];exact main h1 hle ax cQ cK gy kO
end
def fY:Nat:=1000000013
abbrev ls:=Sh×Option (Ty×PE)
def Cg (C:Ctx)(S:St)(x:Operand):ls:=(fq S [] x,use C S [] x)
def Te (c:Nat×Nat):ls:=(.ptr c.1 c.2 0,none)
def cg:List Nat→List Nat→Nat→Option Nat
 |i::is,j::js,k=>bif Nat.beq i k then some j else cg is js k
 |_,_,_=>none
def atd:Sh→Sh→List (Nat×Nat)
 |.obj i _,.obj j _=>[(i,j)]
 |.ptr i _ _,.ptr j _ _=>[(i,j)]
 |.fclo _ a,.fclo _ b=>(a.zip b).map fun x=>(x.1.1,x.2.1)
 |_,_=>[]
def N1:List Sh→List Sh→List (Nat×Nat)
 |a::aa,b::bs=>atd a b++N1 aa bs
 |_,_=>[]
def atc:Ob→Ob→List (Nat×Nat)
 |.box _ a,.box _ b=>N1 a b
 |_,_=>[]
def WE:List (Nat×Nat)→Nat→Nat
 |[],_=>fY
 |x::l,i=>bif Nat.beq x.1 i then x.2 else WE l i
def arM (S:St)(obs:List (Nat×Ob))(p:List (Nat×Nat)):List (Nat×Nat):=p++p.flatMap fun x=>atc (dv obs x.1) (S.o x.2)
def Um (S:St)(shs:List Sh)(obs:List (Nat×Ob))(acts:List ls):List Nat:=obs.map fun o=>WE (arM S obs (N1 shs (acts.map (·.1)))) o.1
section
variable (ver:Nat→Nat) (is js:List Nat)
def BP:List (Nat×Nat)→Option (List (Nat×Nat))
 |[]=>some []
 |x::l=>bif Nat.beq x.2 0 then(cg is js x.1).bind fun j=>(BP l).map fun r=>(j,ver j)::r else none
def jr:Sh→Option Sh
 |.dat t=>some (.dat t)
 |.none=>some .none
 |.obj i v=>bif Nat.beq v 0 then(cg is js i).map fun j=>.obj j (ver j) else none
 |.ptr i v off=>bif Nat.beq v 0 then(cg is js i).map fun j=>.ptr j (ver j) off else none
 |.fclo f caps=>(BP ver is js caps).map (.fclo f)
 |_=>none
def BQ:List Sh→Option (List Sh)
 |[]=>some []
 |s::l=>(jr ver is js s).bind fun a=>(BQ l).map (a::·)
def na:Ob→Option Ob
 |.row T e=>some (.row T e)
 |.mp a b=>some (.mp a b)
 |.box ag shs=>(BQ ver is js shs).map (.box ag)
 |_=>none
end
def y6 (c:Sh):Sh→Bool
 |.none=>true
 |.dat b=>match c with|.dat a=>Ty.sub a b|_=>false
 |x=>Sh.beq c x
def uG:List Sh→List Sh→Bool
 |[],[]=>true
 |a::aa,b::bs=>y6 a b&&uG aa bs
 |_,_=>false
def uF:Ob→Ob→Bool
 |.box x a,.box y b=>(x==y)&&uG a b
 |.row T a,.row U b=>Nat.beq T U&&Ty.beq a b
 |.mp a b,.mp c d=>Ty.beq a c&&Ty.beq b d
 |_,_=>false
def nA (S:St)(is js:List Nat):List (Nat×Ob)→List Nat→Bool
 |[],[]=>true
 |o::obs,j::jl=>(match na S.ver is js o.2 with|some x=>uF (S.o j) x|none=>false)&&nA S is js obs jl
 |_,_=>false
def y5 (S:St)(is js:List Nat)(a:ls)(s:Sh):Option PE:=
 match s with
 |.dat t=>(match a.2 with|some x=>bif Ty.sub x.1 t then some x.2 else none|none=>none)
 |.none=>some (.con .none)
 |s=>(match jr S.ver is js s with|some x=>bif Sh.beq a.1 x then some (.con .none) else none|none=>none)
def ql (S:St)(is js:List Nat):List ls→List Sh→Option (List PE)
 |[],[]=>some []
 |a::aa,s::ss=>(y5 S is js a s).bind fun e=>(ql S is js aa ss).map (e::·)
 |_,_=>none
def my:List Sh→List Nat
 |[]=>[]
 |.obj i _::l=>i::my l
 |.ptr i _ _::l=>i::my l
 |.fclo _ c::l=>c.map (·.1)++my l
 |_::l=>my l
def aN (l:List Nat)(x:Nat):Bool:=l.any (Nat.beq x)
def rE (ver:Nat→Nat)(shs:List Sh)(is js:List Nat):Nat→Nat:=fun j=>match cg js is j with|some i=>bif aN (my shs) i then ver j else ver j+1|none=>ver j
def St.handed (S:St)(shs:List Sh)(obs:List (Nat×Ob))(is js:List Nat):St:=
 ⟨S.r,fun j=>match cg js is j with|some i=>(match na (rE S.ver shs is js) is js (dv obs i) with|some o=>o|none=>.dead)|none=>S.o j,rE S.ver shs is js⟩
def uI (S:St):List Operand→List Sh→List Nat
 |x::xs,s::ss=>(bif kW s then bS S [] [x] else[])++uI S xs ss
 |_,_=>[]
def BW:List Nat→Nat→List PI
 |[],_=>[]
 |j::js,k=>.setO j (.tget (.o fY) k)::BW js (k+1)
def J9 (S:St)(res:Ty)(f:Nat)(shs:List Sh)(obs:List (Nat×Ob))(acts:List ls)(is js:List Nat):Option (St×Ty×List PI):=
 (ql S is js acts shs).bind fun es=>
    bif Ay shs obs&&(gX is&&gX js&&nA S is js obs js&&lN (S.o fY)&& !aN js fY) then some (S.handed shs obs is js,res,.mcall fY f (es++js.map .o)::BW js 1) else none
def Ka (C:Ctx)(S:St)(res:Ty)(f:Nat)(shs:List Sh)(obs:List (Nat×Ob))(acts:List ls):Option (St×Ty×List PI):=
 J9 S res f shs obs acts (obs.map (·.1)) (Um S shs obs acts)
def nu (C:Ctx)(S:St)(f:Nat)(args:List Operand)(caps:List (Nat×Nat)):Option (St×Ty×List PI):=
 (C.sig f).bind fun s=>
    match s.mode with
    |.ob shs obs=>Ka C (S.fzs (uI S args shs)) s.res f shs obs (args.map (Cg C (S.fzs (uI S args shs)))++caps.map Te)
    |_=>none
theorem Wb {l:List Nat}{x:Nat}:aN l x=true↔x∈l:=by
 unfold aN;rw[List.any_eq_true];exact⟨fun⟨y,hy,h⟩=>by rw[Nat.eq_of_beq_eq_true h];exact hy,fun h=>⟨x,h,Nat.beq_refl x⟩⟩
theorem Wz:∀{is js:List Nat} {i j:Nat},cg is js i=some j→∃k:Nat,is[k]?=some i∧js[k]?=some j
 |[],_,i,j,h=>by cases h
 |_::_,[],i,j,h=>by cases h
 |x::is,y::js,i,j,h=>by
  simp only[cg] at h;cases hb:Nat.beq x i<;>simp only[hb,cond_true,cond_false] at h
  ·obtain⟨k,h1,h2⟩:=Wz h;exact⟨k+1,h1,h2⟩
  ·cases h;exact⟨0,by rw[Nat.eq_of_beq_eq_true hb];rfl,rfl⟩
theorem ES:∀{is js:List Nat} {i j k:Nat},is.Nodup→is[k]?=some i→js[k]?=some j→cg is js i=some j
 |[],_,i,j,k,_,h,_=>by simp at h
 |_::_,[],i,j,k,_,_,h=>by simp at h
 |x::is,y::js,i,j,k,hn,h1,h2=>by
  simp only[cg];cases k with
  |zero=>simp at h1 h2;subst h1 h2;rw[Nat.beq_refl];rfl
  |succ k=>
   simp at h1 h2;have aB:x≠i:=fun e=>by subst e;exact(List.nodup_cons.1 hn).1 (List.mem_of_getElem? h1)
   rw[dI aB];exact ES (List.nodup_cons.1 hn).2 h1 h2
theorem ET {is js:List Nat}(h2:js.Nodup){i j:Nat}(h:cg is js i=some j):cg js is j=some i:=by
 obtain⟨k,g1,g2⟩:=Wz h;exact ES h2 g2 g1
theorem apn (obs:List (Nat×Ob))(f:Nat→D):∀{is js:List Nat} {i j:Nat},is=obs.map (·.1)→cg is js i=some j→la obs (js.map f) i=f j:=by
 induction obs with
 |nil=>intro is js i j h1 h2;subst h1;cases h2
 |cons x l ih=>
  intro is js i j h1 h2;subst h1;cases js with
  |nil=>cases h2
  |cons y js=>
   simp only[List.map_cons,cg] at h2;simp only[List.map_cons,la];cases hb:Nat.beq x.1 i<;>simp only[hb,cond_true,cond_false] at h2 ⊢
   ·exact ih rfl h2
   ·cases h2;rfl
theorem Ww:∀{obs:List (Nat×Ob)} {js:List Nat} {os:List D} {i j:Nat},os.length=obs.length→cg (obs.map (·.1)) js i=some j→∃k:Nat,js[k]?=some j∧la obs os i=os.getD k .none
 |[],_,_,i,j,_,h=>by cases h
 |_::_,[],_,i,j,_,h=>by cases h
 |_::_,_::_,[],i,j,hl,h=>by simp at hl
 |x::obs,y::js,o::os,i,j,hl,h=>by
  simp only[List.map_cons,cg] at h;simp only[la];cases hb:Nat.beq x.1 i<;>simp only[hb,cond_true,cond_false] at h ⊢
  ·obtain⟨k,h1,h2⟩:=Ww (obs:=obs) (js:=js) (os:=os) (by simpa using hl) h;exact⟨k+1,h1,by simpa using h2⟩
  ·cases h;exact⟨0,rfl,rfl⟩
theorem WC:∀{obs:List (Nat×Ob)} {js:List Nat} {i:Nat},js.length=obs.length→cg (obs.map (·.1)) js i=none→dv obs i=.dead
 |[],_,i,_,_=>rfl
 |x::obs,[],i,hl,h=>by simp at hl
 |x::obs,y::js,i,hl,h=>by
  simp only[List.map_cons,cg] at h;simp only[dv];cases hb:Nat.beq x.1 i<;>simp only[hb,cond_true,cond_false] at h ⊢
  ·exact WC (by simpa using hl) h
  ·cases h
theorem Uv {S:St}{is js:List Nat}:∀{obs:List (Nat×Ob)} {jl:List Nat},nA S is js obs jl=true→jl.length=obs.length
 |[],[],_=>rfl
 |[],_::_,h=>by simp[nA] at h
 |_::_,[],h=>by simp[nA] at h
 |o::obs,j::jl,h=>by simp only[nA,Bool.and_eq_true] at h;simp[Uv h.2]
theorem Uu {S:St}{is js:List Nat}:∀{obs:List (Nat×Ob)} {jl:List Nat},nA S is js obs jl=true→∀{i j:Nat},cg (obs.map (·.1)) jl i=some j→∃x,na S.ver is js (dv obs i)=some x∧uF (S.o j) x=true
 |[],_,_,i,j,h=>by cases h
 |_::_,[],_,i,j,h=>by cases h
 |o::obs,y::jl,hf,i,j,h=>by
  simp only[nA,Bool.and_eq_true] at hf;simp only[List.map_cons,cg] at h;simp only[dv];cases hb:Nat.beq o.1 i<;>simp only[hb,cond_true,cond_false] at h ⊢
  ·exact Uu hf.2 h
  ·cases h;have h1:=hf.1;split at h1
   ·rename_i x hx;exact⟨x,hx,h1⟩
   ·cases h1
theorem Uw:∀{a b:List Sh},uG a b=true→a.length=b.length∧∀(i:Nat) (y:Sh),b[i]?=some y→∃x,a[i]?=some x∧y6 x y=true
 |[],[],_=>⟨rfl,fun i y h=>by simp at h⟩
 |[],_::_,h=>by simp[uG] at h
 |_::_,[],h=>by simp[uG] at h
 |a::aa,b::bs,h=>by
  simp only[uG,Bool.and_eq_true] at h;obtain⟨g1,g2⟩:=Uw h.2;refine⟨by simp[g1],fun i y hy=>?_⟩;cases i with
  |zero=>simp at hy;subst hy;exact⟨a,rfl,h.1⟩
  |succ i=>simp at hy;simpa using g2 i y hy
theorem PG {ver:Nat→Nat}{is js:List Nat}:∀{a b:List Sh},BQ ver is js a=some b→b.length=a.length∧∀(i:Nat) (x:Sh),a[i]?=some x→∃y,b[i]?=some y∧jr ver is js x=some y
 |[],b,h=>by simp only[BQ,Option.some.injEq] at h;subst h;exact⟨rfl,fun i x h=>by simp at h⟩
 |s::l,b,h=>by
  simp only[BQ,Option.bind_eq_some_iff,Option.map_eq_some_iff] at h;obtain⟨y,hy,r,hr,rfl⟩:=h;obtain⟨g1,g2⟩:=PG hr;refine⟨by simp[g1],fun i x hx=>?_⟩;cases i with
  |zero=>simp at hx;subst hx;exact⟨y,rfl,hy⟩
  |succ i=>simp at hx;simpa using g2 i x hx
theorem Ib {ver:Nat→Nat}{is js:List Nat}:∀{a b:List (Nat×Nat)},BP ver is js a=some b→b.length=a.length∧∀(i x v:Nat),a[i]?=some (x,v)→∃j,b[i]?=some (j,ver j)∧cg is js x=some j∧v=0
 |[],b,h=>by simp only[BP,Option.some.injEq] at h;subst h;exact⟨rfl,fun i x v h=>by simp at h⟩
 |s::l,b,h=>by
  simp only[BP] at h;cases hb:Nat.beq s.2 0<;>simp only[hb,cond_true,cond_false] at h
  ·cases h
  simp only[Option.bind_eq_some_iff,Option.map_eq_some_iff] at h;obtain⟨y,hy,r,hr,rfl⟩:=h;obtain⟨g1,g2⟩:=Ib hr;refine⟨by simp[g1],fun i x v hx=>?_⟩;cases i with
  |zero=>simp at hx;subst hx;exact⟨y,rfl,hy,Nat.eq_of_beq_eq_true hb⟩
  |succ i=>simp at hx;simpa using g2 i x v hx
theorem PF {ver:Nat→Nat}{is js:List Nat}{s x:Sh}(h:jr ver is js s=some x):(∀gs s',s≠.opt gs s')∧∀gs s',x≠.opt gs s':=by
 cases s<;>simp only[jr] at h
 case none=>cases h;exact⟨(fun _ _ e=>by cases e),(fun _ _ e=>by cases e)⟩
 case dat=>cases h;exact⟨(fun _ _ e=>by cases e),(fun _ _ e=>by cases e)⟩
 case obj i v=>
  cases hb:Nat.beq v 0<;>simp only[hb,cond_true,cond_false] at h
  ·cases h
  simp only[Option.map_eq_some_iff] at h;obtain⟨j,_,rfl⟩:=h;exact⟨(fun _ _ e=>by cases e),(fun _ _ e=>by cases e)⟩
 case ptr i v off=>
  cases hb:Nat.beq v 0<;>simp only[hb,cond_true,cond_false] at h
  ·cases h
  simp only[Option.map_eq_some_iff] at h;obtain⟨j,_,rfl⟩:=h;exact⟨(fun _ _ e=>by cases e),(fun _ _ e=>by cases e)⟩
 case fclo f caps=>
  simp only[Option.map_eq_some_iff] at h;obtain⟨j,_,rfl⟩:=h;exact⟨(fun _ _ e=>by cases e),(fun _ _ e=>by cases e)⟩
 all_goals cases h
section
variable {C:Ctx} {S S1:St} {ρ ρ1:Env} {σ σ1:Im} {own da:Nat→Option Nat} {hv aR:Nat→Value} {w0:World} {σ0:Base} {A:Nat→Prop} {a:Act} {w w1:World} {Φ:aL} {dst:Nat}
 {is js:List Nat} {shs:List Sh} {obs:List (Nat×Ob)} {ρf:Env}
theorem abl (hσ:Im.leR C.cap σ σ1){dL:Nat→Value}(eF:∀i j,cg is js i=some j→dL i=hv j){s x:Sh}(hr:jr S.ver is js s=some x){v:Value}{d:D}(h:aI C S ρ σ hv x v d):aI C (eJ shs obs) ρf σ1 dL s v d:=by
 cases s<;>simp only[jr] at hr
 case none=>trivial
 case dat=>cases hr;exact hσ.rep h
 case obj i ver=>
  cases hb:Nat.beq ver 0<;>simp only[hb,cond_true,cond_false] at hr
  ·cases hr
  simp only[Option.map_eq_some_iff] at hr;obtain⟨j,hj,rfl⟩:=hr;exact⟨by rw[Nat.eq_of_beq_eq_true hb];exact Nat.zero_le _,fun _=>by rw[eF i j hj];exact h.2 rfl⟩
 case ptr i ver off=>
  cases hb:Nat.beq ver 0<;>simp only[hb,cond_true,cond_false] at hr
  ·cases hr
  simp only[Option.map_eq_some_iff] at hr;obtain⟨j,hj,rfl⟩:=hr;exact⟨by rw[Nat.eq_of_beq_eq_true hb];exact Nat.zero_le _,fun _=>by rw[eF i j hj];exact h.2 rfl⟩
 case fclo f caps=>
  simp only[Option.map_eq_some_iff] at hr;obtain⟨c,hc,rfl⟩:=hr;obtain⟨g1,g2⟩:=Ib hc;obtain⟨vs,h1,h2,h3⟩:=h;refine⟨vs,h1,by omega,fun i x ver hi=>?_⟩;obtain⟨j,e1,e2,e3⟩:=g2 i x ver hi;exact⟨by rw[e3];exact Nat.zero_le _,fun _=>by rw[eF x j e2];exact(h3 i j _ e1).2 rfl⟩
 all_goals cases hr
theorem auh (hσ:σ.le σ1){dL:Nat→Value}(eF:∀i j,cg is js i=some j→dL i=aR j){s x:Sh}(hr:jr S1.ver is js s=some x){v:Value}{d:D}(h:aI C (eJ shs obs) ρf σ dL s v d):aI C S1 ρ1 σ1 aR x v d:=by
 cases s<;>simp only[jr] at hr
 case none=>cases hr;trivial
 case dat=>cases hr;exact Rep.mono hσ h
 case obj i ver=>
  cases hb:Nat.beq ver 0<;>simp only[hb,cond_true,cond_false] at hr
  ·cases hr
  simp only[Option.map_eq_some_iff] at hr;obtain⟨j,hj,rfl⟩:=hr;exact⟨Nat.le_refl _,fun _=>by rw[←eF i j hj];exact h.2 (Nat.eq_of_beq_eq_true hb)⟩
 case ptr i ver off=>
  cases hb:Nat.beq ver 0<;>simp only[hb,cond_true,cond_false] at hr
  ·cases hr
  simp only[Option.map_eq_some_iff] at hr;obtain⟨j,hj,rfl⟩:=hr;exact⟨Nat.le_refl _,fun _=>by rw[←eF i j hj];exact h.2 (Nat.eq_of_beq_eq_true hb)⟩
 case fclo f caps=>
  simp only[Option.map_eq_some_iff] at hr;obtain⟨c,hc,rfl⟩:=hr;obtain⟨g1,g2⟩:=Ib hc;obtain⟨vs,h1,h2,h3⟩:=h;refine⟨vs,h1,by omega,fun i j ver hi=>?_⟩;have ah:i<caps.length:=by have:=(List.getElem?_eq_some_iff.1 hi).1;omega
  obtain⟨j',e1,e2,e3⟩:=g2 i _ _ (List.getElem?_eq_getElem ah);rw[hi] at e1;cases e1;exact⟨Nat.le_refl _,fun _=>by rw[←eF _ j e2];exact(h3 i _ _ (List.getElem?_eq_getElem ah)).2 e3⟩
 all_goals cases hr
theorem ajs {c x:Sh}(hf:y6 c x=true){v:Value}{d:D}(h:aI C S ρ σ hv c v d):aI C S ρ σ hv x v d:=by
 cases x with
 |none=>trivial
 |dat b=>
  simp only[y6] at hf;split at hf
  ·exact Rep.sub h hf
  ·cases hf
 |_=>simp only[y6] at hf;rw[Sh.beq_eq _ _ hf] at h;exact h
theorem asd (hσ:Im.leR C.cap σ σ1){dL:Nat→Value}{AE:Nat→Option Nat}(eF:∀i j,cg is js i=some j→dL i=hv j)(bI:∀k j i,own k=some j→cg js is j=some i→AE k=some i)(aZ:js.Nodup){i j N:Nat}(cJ:cg is js i=some j)(hρ:ρf.o i=ρ.o j){ob x:Ob}
 (hr:na S.ver is js ob=some x) (hf:uF (S.o j) x=true) (h:bQ C S ρ σ own hv w N j (S.o j)):bQ C (eJ shs obs) ρf σ1 AE dL w N i ob:=by
 have fP:=ET aZ cJ;cases ob<;>simp only[na] at hr
 case row T e=>
  cases hr;cases ho:S.o j<;>rw[ho] at hf h<;>simp only[uF,Bool.and_eq_true] at hf<;>try (cases hf;done)
  obtain⟨cells,xs,h1,h2,h3,h4⟩:=h;rw[Nat.eq_of_beq_eq_true hf.1,Ty.beq_eq _ _ hf.2] at*;exact⟨cells,xs,by rw[hρ];exact h1,by rw[eF i j cJ];exact h2,h3.monoR hσ,fun k hk=>bI k j i (h4 k (by rw[←eF i j cJ];exact hk)) fP⟩
 case mp kt et=>
  cases hr;cases ho:S.o j<;>rw[ho] at hf h<;>simp only[uF,Bool.and_eq_true] at hf<;>try (cases hf;done)
  obtain⟨k,arr,clock,es,h1,h2,h3,h4,h5,h6,h7⟩:=h;rw[Ty.beq_eq _ _ hf.1,Ty.beq_eq _ _ hf.2] at*;exact⟨k,arr,clock,es,by rw[eF i j cJ];exact h1,bI k j i h2 fP,h3,by rw[hρ];exact h4,h5,h6,fun n e p he hp=>⟨hσ.rep (h7 n e p he hp).1,hσ.rep (h7 n e p he hp).2⟩⟩
 case box ag cs=>
  simp only[Option.map_eq_some_iff] at hr;obtain⟨cs',dX,rfl⟩:=hr;cases ho:S.o j<;>rw[ho] at hf h<;>simp only[uF,Bool.and_eq_true] at hf<;>try (cases hf;done)
  obtain⟨k,vs,T,ds,h1,h2,h3,h4,h5,h6,h7⟩:=h;obtain⟨l1,g1⟩:=Uw hf.2;obtain⟨l2,g2⟩:=PG dX;refine⟨k,vs,T,ds,by rw[eF i j cJ];exact h1,bI k j i h2 fP,h3,by omega,by rw[hρ];exact h5,by omega,fun n s hs=>?_⟩;obtain⟨y,hy,z8⟩:=g2 n s hs;obtain⟨z,hz,zz⟩:=g1 n y hy;exact⟨(PF z8).1,abl hσ eF z8 (ajs zz (h7 n z hz).2)⟩
 all_goals cases hr
theorem ase (hσ:σ.le σ1){dL:Nat→Value}{AE:Nat→Option Nat}(eF:∀i j,cg is js i=some j→dL i=aR j)(bI:∀k i j,AE k=some i→cg is js i=some j→da k=some j){i j N:Nat}(cJ:cg is js i=some j)(hρ:ρ1.o j=ρf.o i){ob x:Ob}
 (hr:na S1.ver is js ob=some x) (h:bQ C (eJ shs obs) ρf σ AE dL w N i ob):bQ C S1 ρ1 σ1 da aR w N j x:=by
 cases ob<;>simp only[na] at hr
 case row T e=>
  cases hr;obtain⟨cells,xs,h1,h2,h3,h4⟩:=h;exact⟨cells,xs,by rw[hρ];exact h1,by rw[←eF i j cJ];exact h2,h3.mono hσ,fun k hk=>bI k i j (h4 k (by rw[eF i j cJ];exact hk)) cJ⟩
 case mp kt et=>
  cases hr;obtain⟨k,arr,clock,es,h1,h2,h3,h4,h5,h6,h7⟩:=h;exact⟨k,arr,clock,es,by rw[←eF i j cJ];exact h1,bI k i j h2 cJ,h3,by rw[hρ];exact h4,h5,h6,fun n e p he hp=>⟨(h7 n e p he hp).1.mono hσ,(h7 n e p he hp).2.mono hσ⟩⟩
 case box ag cs=>
  simp only[Option.map_eq_some_iff] at hr;obtain⟨cs',dX,rfl⟩:=hr;obtain⟨k,vs,T,ds,h1,h2,h3,h4,h5,h6,h7⟩:=h;obtain⟨l2,g2⟩:=PG dX;refine⟨k,vs,T,ds,by rw[←eF i j cJ];exact h1,bI k i j h2 cJ,h3,by omega,by rw[hρ];exact h5,by omega,fun n s hs=>?_⟩;have ah:n<cs.length:=by have:=(List.getElem?_eq_some_iff.1 hs).1;omega
  obtain⟨y,hy,z8⟩:=g2 n _ (List.getElem?_eq_getElem ah);rw[hs] at hy;cases hy;exact⟨(PF z8).2,auh hσ eF z8 (h7 n _ (List.getElem?_eq_getElem ah)).2⟩
 all_goals cases hr
theorem aug {ver:Nat→Nat}{ob x:Ob}(hr:na ver is js ob=some x):x≠.tr:=by
 cases ob<;>simp only[na] at hr
 case row=>cases hr;intro e;cases e
 case mp=>cases hr;intro e;cases e
 case box=>
  simp only[Option.map_eq_some_iff] at hr;obtain⟨_,_,rfl⟩:=hr;intro e;cases e
 all_goals cases hr
theorem CtxOK.noM (h:CtxOK C σ):CtxOK C σ.noM:=⟨fun g x hx=>(h.glob g x hx).noM⟩
def IV (C:Ctx)(S:St)(ρ:Env)(σ:Im)(hv:Nat→Value)(x:ls)(v:Value)(d:D):Prop:=aI C S ρ σ hv x.1 v d∧∀y,x.2=some y→Rep C.cap σ y.1 v (y.2.ev ρ)
theorem Ut:∀{acts:List ls} {shs:List Sh} {es:List PE},ql S is js acts shs=some es→acts.length=shs.length∧es.length=shs.length∧∀(t:Nat) (s:Sh),shs[t]?=some s→∃x e,acts[t]?=some x∧es[t]?=some e∧y5 S is js x s=some e
 |[],[],es,h=>by simp only[ql,Option.some.injEq] at h;subst h;exact⟨rfl,rfl,fun t s h=>by simp at h⟩
 |[],_::_,es,h=>by simp[ql] at h
 |_::_,[],es,h=>by simp[ql] at h
 |x::acts,s::shs,es,h=>by
  simp only[ql,Option.bind_eq_some_iff,Option.map_eq_some_iff] at h;obtain⟨e,he,r,hr,rfl⟩:=h;obtain⟨g1,g2,g3⟩:=Ut hr;refine⟨by simp[g1],by simp[g2],fun t s' hs=>?_⟩;cases t with
  |zero=>simp at hs;subst hs;exact⟨x,e,rfl,rfl,he⟩
  |succ t=>simp at hs;simpa using g3 t s' hs
theorem ajq (hσ:Im.leR C.cap σ σ1){dL:Nat→Value}(eF:∀i j,cg is js i=some j→dL i=hv j){x:ls}{s:Sh}{e:PE}(hf:y5 S is js x s=some e){v:Value}{d:D}(h:IV C S ρ σ hv x v d):aI C (eJ shs obs) ρf σ1 dL s v (e.ev ρ):=by
 have gen:∀s,(match jr S.ver is js s with|some y=>bif Sh.beq x.1 y then some (PE.con .none) else none|none=>none)=some e→kW s=false→aI C (eJ shs obs) ρf σ1 dL s v (e.ev ρ):=by
  intro s hm hd;split at hm
  ·rename_i y hy;cases hb:Sh.beq x.1 y<;>simp only[hb,cond_true,cond_false] at hm
   ·cases hm
   have h1:=h.1;rw[Sh.beq_eq _ _ hb] at h1;have:=abl (shs:=shs) (obs:=obs) (ρf:=ρf) hσ eF hy h1;cases s with
   |dat t=>cases hd
   |opt gs s'=>exact absurd rfl ((PF hy).1 gs s')
   |eptr j ver size off=>simp[jr] at hy
   |_=>exact this
  ·cases hm
 unfold y5 at hf;split at hf
 ·rename_i t;split at hf
  ·rename_i y hy;cases hb:Ty.sub y.1 t<;>simp only[hb,cond_true,cond_false] at hf
   ·cases hf
   cases hf;exact hσ.rep ((h.2 y hy).sub hb)
  ·cases hf
 ·trivial
 ·rename_i jC qy;refine gen _ hf ?_;cases s<;>first|rfl|exact absurd rfl (jC _)
theorem aih {dL L0:Nat→Value}{σ σ':Im}{ρf ρf':Env}{args:Nat→Value}{ds ds':Nat→D}(h1:∀(t:Nat) (s:Sh),shs[t]?=some s→aI C (eJ shs obs) ρf σ dL s (args t) (ds t))(h2:∀(t:Nat) (s:Sh),shs[t]?=some s→kW s=false→aI C (eJ shs obs) ρf' σ' L0 s (args t) (ds' t))
 (hz:∀s,s∈shs→∃x,jr S.ver is js s=some x) {i:Nat} (hi:i∈my shs):L0 i=dL i:=by
 have key:∀(l:List Sh),(∀s,s∈l→∃t:Nat,shs[t]?=some s)→i∈my l→L0 i=dL i:=by
  intro l
  induction l with
  |nil=>intro _ h;cases h
  |cons s l ih=>
   intro hl hi;obtain⟨t,ht⟩:=hl s (List.mem_cons_self ..);have va:∀s,s∈l→∃t:Nat,shs[t]?=some s:=fun s hs=>hl s (List.mem_cons_of_mem _ hs);obtain⟨x,hx⟩:=hz s (List.mem_of_getElem? ht);have a1:=h1 t s ht;have a2:=h2 t s ht;cases s<;>simp only[my] at hi
   case obj j ver=>
        simp only[jr] at hx;cases hb:Nat.beq ver 0<;>simp only[hb,cond_true,cond_false] at hx
        ·cases hx
        rcases List.mem_cons.1 hi with e|e
        ·subst e;rw[←(a1.2 (Nat.eq_of_beq_eq_true hb)),←((a2 rfl).2 (Nat.eq_of_beq_eq_true hb))]
        ·exact ih va e
   case ptr j ver off=>
        simp only[jr] at hx;cases hb:Nat.beq ver 0<;>simp only[hb,cond_true,cond_false] at hx
        ·cases hx
        rcases List.mem_cons.1 hi with e|e
        ·subst e;obtain⟨k1,e1,e2⟩:=a1.2 (Nat.eq_of_beq_eq_true hb);obtain⟨k2,e3,e4⟩:=(a2 rfl).2 (Nat.eq_of_beq_eq_true hb);rw[e2] at e4;cases e4;rw[e1,e3]
        ·exact ih va e
   case fclo f caps=>
        simp only[jr,Option.map_eq_some_iff] at hx;obtain⟨c,hc,_⟩:=hx;obtain⟨_,g2⟩:=Ib hc;rcases List.mem_append.1 hi with e|e
        ·obtain⟨y,hy,e1⟩:=List.mem_map.1 e;subst e1;obtain⟨m,hm⟩:=List.getElem?_of_mem hy;obtain⟨vs,b1,b2,b3⟩:=a1;obtain⟨wX,c1,c2,c3⟩:=a2 rfl;rw[b1] at c1;have fT:vs=wX:=by simpa using c1
         subst fT;obtain⟨_,_,_,vt⟩:=g2 m y.1 y.2 hm;rw[←(b3 m y.1 y.2 hm).2 vt,←(c3 m y.1 y.2 hm).2 vt]
        ·exact ih va e
   all_goals exact ih va hi
 exact key shs (fun s hs=>List.getElem?_of_mem hs) hi
end
section
variable {C:Ctx} {S:St} {ρ:Env} {σ:Im} {own:Nat→Option Nat} {hv:Nat→Value} {w0:World} {σ0:Base} {A:Nat→Prop} {a:Act} {w:World} {Φ:aL} {dst:Nat}
 {is js:List Nat} {shs:List Sh} {obs:List (Nat×Ob)}
theorem Below.weak {B:Nat}{w w':World}(h:Below 0 w w')(hk:∀k,k<B→w'.heap[k]?=w.heap[k]?):Below B w w':=⟨h.os,h.tape,h.output,h.size,hk⟩
def lS (js is:List Nat)(own:Nat→Option Nat):Nat→Option Nat:=fun k=>(own k).bind (cg js is)
def AD (js is:List Nat)(own own':Nat→Option Nat):Nat→Option Nat:=fun k=>
 match own' k with
 |some i=>cg is js i
 |none=>match own k with|some j=>(match cg js is j with|some _=>none|none=>some j)|none=>none
theorem handed (h:Inv C S ρ σ own hv w0 σ0 A a w)(hC:CtxOK C σ0)(an5:Ay shs obs=true)(zC:is=obs.map (·.1))(VF:is.Nodup)(Es:js.Nodup)(Ea:nA S is js obs js=true){acts:List ls}{es:List PE}(gz:ql S is js acts shs=some es)
 (D6:S.o fY=.dead) (ED:fY∉js) {vals:List Value} (hvl:vals.length=acts.length) (aml:∀(t:Nat) (x:ls),acts[t]?=some x→∃d,IV C S ρ σ hv x (vals.getD t undef) d) {f:Nat} {res:Ty} {d:D}
 (hfn:jV C f shs obs res (es.map (PE.ev ρ)++js.map ρ.o) d):
 Calls C.P f vals.toArray w fun e w'=>∃v dr os,e=.returned v∧d=.tup (dr::os)∧os.length=js.length∧
  ∀ρ':Env,ρ'.r=ρ.r→(∀(k j:Nat),js[k]?=some j→ρ'.o j=os.getD k .none)→(∀j,j∉js→j≠fY→ρ'.o j=ρ.o j)→
   ∃σ1 da aR,Inv C (S.handed shs obs is js) ρ' σ1 da aR w0 σ0 A a w'∧Rep C.cap σ1 res v dr:=by
 obtain⟨al1,al2,gO⟩:=Ut gz;have eR:=Uv Ea;have qG:w0.heap.size≤w.heap.size:=h.below.size;obtain⟨tr,fx,cx,hf,pk⟩:=h.frame
 let dL:Nat→Value:=fun i=>match cg is js i with|some j=>hv j|none=>undef
 have eF:∀i j,cg is js i=some j→dL i=hv j:=fun i j e=>by simp only[dL,e]
 have Vw:Im.leR C.cap σ σ.noM:=⟨Rep.noM,fun _ _ _ e=>e⟩
 have zN:∀k x,σ.noM.m k=some x→σ.m k=some x∧x≠cu:=by
  intro k x e;by_cases hd:σ.m k=some cu
  ·simp[Im.noM,hd] at e
  ·simp only[Im.noM,if_neg hd] at e;exact⟨e,fun e2=>hd (by rw[e,e2])⟩
 have sk:(es.map (PE.ev ρ)++js.map ρ.o).drop shs.length=js.map ρ.o:=by rw[List.drop_append];simp[al2]
 have am8:∀t e,es[t]?=some e→(es.map (PE.ev ρ)++js.map ρ.o).getD t .none=e.ev ρ:=fun t e he=>by
  have ah:=(List.getElem?_eq_some_iff.1 he).1;rw[List.getD_eq_getElem?_getD,List.getElem?_append_left (by simpa using ah),List.getElem?_map,he];rfl
 have aof:∀s,s∈shs→∃x,jr S.ver is js s=some x:=by
  intro s hs;obtain⟨t,ht⟩:=List.getElem?_of_mem hs;obtain⟨x,e,_,_,he⟩:=gO t s ht;unfold y5 at he;split at he
  ·exact⟨_,rfl⟩
  ·exact⟨_,rfl⟩
  ·split at he
   ·rename_i y hy;exact⟨y,hy⟩
   ·cases he
 have Vr:∀t,aI C (eJ shs obs) (km obs (es.map (PE.ev ρ)++js.map ρ.o) ((es.map (PE.ev ρ)++js.map ρ.o).drop shs.length)) σ.noM dL (shs.getD t .none) (vals.toArray.getD t undef) ((es.map (PE.ev ρ)++js.map ρ.o).getD t .none):=by
  intro t;cases hs:shs[t]? with
  |none=>rw[List.getD_eq_getElem?_getD,hs];trivial
  |some s=>
   obtain⟨x,e,hx,he,D9⟩:=gO t s hs;obtain⟨d',amm⟩:=aml t x hx;rw[List.getD_eq_getElem?_getD (l:=shs),hs,am8 t e he];have e1:vals.toArray.getD t undef=vals.getD t undef:=by simp[Array.getD_eq_getD_getElem?,List.getD_eq_getElem?_getD]
   rw[e1];exact ajq Vw eF D9 amm
 have ann:∀i,bQ C (eJ shs obs) (km obs (es.map (PE.ev ρ)++js.map ρ.o) ((es.map (PE.ev ρ)++js.map ρ.o).drop shs.length)) σ.noM (lS js is own) dL w w0.heap.size i (dv obs i):=by
  intro i;cases cJ:cg is js i with
  |none=>subst zC;rw[WC eR cJ];trivial
  |some j=>
   subst zC;obtain⟨x,hx,Eb⟩:=Uu Ea cJ;refine asd Vw eF (fun k j' i' hk hl=>by simp only[lS,hk,Option.bind_some,hl]) Es cJ ?_ hx Eb (h.objs j);show la obs _ i=_;rw[sk];exact apn obs ρ.o rfl cJ
 have se:=hfn w0.heap.size σ.noM (lS js is own) dL w vals.toArray (fun k=>(∃j,own k=some j∧cg js is j=none)∨σ.m k=some cu∨(cx k)) an5 ⟨h.ok.c,fun k x e=>h.ok.m k x (zN k x e).1⟩ ((hC.mono h.le).noM)
  (fun k e=>(zN k _ e).2 rfl) qG (by simp;omega) (fun k i hk=>by
    simp only[lS,Option.bind_eq_some_iff] at hk;obtain⟨j,hj,_⟩:=hk;obtain⟨g1,g2,g3,g4⟩:=h.owns k j hj;exact⟨g1,g2,g3,by by_cases e:σ.m k=some cu<;>simp[Im.noM,e,g4]⟩) (fun k hk=>by
    rcases hk with⟨j,hj,hn⟩|hk|hk
    ·obtain⟨g1,g2,g3,g4⟩:=h.owns k j hj;exact⟨g2,by simp[lS,hj,hn],g3,by by_cases e:σ.m k=some cu<;>simp[Im.noM,e,g4]⟩
    ·have zK:=h.ok.m k _ hk;have hn:own k=none:=by
      cases e:own k with
      |none=>rfl
      |some j=>rw[(h.owns k j e).2.2.2] at hk;cases hk
     refine⟨zK.lt,by simp[lS,hn],fun o=>?_,by simp[Im.noM,hk]⟩;cases e:σ.c k o with
     |none=>exact e
     |some x=>
      have c1:=h.ok.c k o x e;rcases zK with⟨m1,_⟩|⟨_,m2⟩
      ·exact absurd rfl m1
      ·simp[World.cell?,m2] at c1
    ·have iZ:=σ0.sub _ _ _ _ hf.F k hk;have hn:own k=none:=by
      cases e:own k with
      |none=>rfl
      |some j=>exact absurd iZ (hf.own k j e)
     refine⟨σ0.lt _ _ _ _ hf.F k iZ,by simp[lS,hn],fun o=>?_,?_⟩
     ·cases e:σ.c k o with
      |none=>exact e
      |some x=>exact absurd hk (hf.c k o x e)
     ·cases e:σ.m k with
      |none=>simp[Im.noM,e]
      |some x=>exact absurd hk (hf.m k x e)) Vr ann
 refine se.mono fun e w' hh=>?_;obtain⟨v,σ',own',hv',dr,os,rfl,hd,Ey,hle,ax,hb,fB,cQ,cK,Er,VM,K6,Lt,jE⟩:=hh;refine⟨v,dr,os,rfl,hd,by omega,fun ρ' gi nJ sD=>?_⟩;have Ev:∀k,k<w.heap.size→own k=none→w'.heap[k]?=w.heap[k]?:=fun k hk hn=>fB k hk (by simp[lS,hn]);have an0:∀k j,own k=some j→cg js is j=none→w'.heap[k]?=w.heap[k]?:=fun k j hk hn=>fB k (h.owns k j hk).2.1 (by simp[lS,hk,hn])
 have amN:∀k o x,σ.c k o=some x→own k=none:=fun k o x e=>by
  cases e1:own k with
  |none=>rfl
  |some j=>rw[(h.owns k j e1).2.2.1 o] at e;cases e
 have VD:∀k x,σ.m k=some x→own k=none:=fun k x e=>by
  cases e1:own k with
  |none=>rfl
  |some j=>rw[(h.owns k j e1).2.2.2] at e;cases e
 have Ex:σ.ok w':=⟨fun k o x e=>by rw[World.cell?_of_block (Ev k (h.lt e) (amN k o x e))];exact h.ok.c k o x e,fun k x e=>(h.ok.m k x e).keep (Ev k (h.ltm e) (VD k x e))⟩
 have j8:σ.le (σ'.plus σ):=Im.plus_le2 ax Ex;have j9:σ'.le (σ'.plus σ):=Im.plus_le1 σ' σ;have dX:∀k o x,(σ'.plus σ).c k o=some x→σ'.c k o=some x:=fun k o x e=>(Im.plus_c e).elim id (fun e=>hle.c k o x e)
 have vc:∀k x,(σ'.plus σ).m k=some x→σ'.m k=some x∨(σ.m k=some x∧x=cu):=fun k x e=>(Im.plus_m e).elim .inl (fun e=>by
  by_cases hd:x=cu
  ·exact .inr ⟨e,hd⟩
  ·refine .inl (hle.m k x ?_);have:σ.m k≠some cu:=fun e2=>hd (by rw[e] at e2;cases e2;rfl);simp only[Im.noM,if_neg this,e])
 let aR:Nat→Value:=fun j=>match cg js is j with|some i=>hv' i|none=>hv j
 have aoQ:∀i j,cg is js i=some j→hv' i=aR j:=fun i j e=>by simp only[aR,ET Es e]
 have amU:∀i,i∈my shs→hv' i=dL i:=fun i hi=>aih (S:=S) (is:=is) (js:=js) (args:=fun t=>vals.toArray.getD t undef) (ds:=fun t=>(es.map (PE.ev ρ)++js.map ρ.o).getD t .none) (ds':=fun t=>(es.map (PE.ev ρ)++js.map ρ.o).getD t .none) (fun t s hs=>by
  have:=Vr t;rw[List.getD_eq_getElem?_getD (l:=shs),hs] at this;exact this) (fun t s hs hd=>K6 t s hs hd) aof hi
 have qq:Compat S hv (S.handed shs obs is js) aR:=by
  refine⟨fun j=>?_,fun j e=>?_⟩
  ·show S.ver j≤rE S.ver shs is js j;unfold rE;split
   ·cases aN (my shs) _<;>simp
   ·exact Nat.le_refl _
  ·change rE S.ver shs is js j=S.ver j at e;show aR j=hv j;simp only[aR];unfold rE at e;split at e
   ·rename_i i hi;cases hb:aN (my shs) i<;>rw[hb] at e
    ·simp at e
    ·try simp only[hi]
     rw[amU i (Wb.1 hb),eF i j (ET VF hi)]
   ·rename_i hi;try simp only[hi]
 have kO:∀k j,AD js is own own' k=some j→(k<w.heap.size→own k≠none)∧w0.heap.size≤k∧k<w'.heap.size∧(∀o,σ'.c k o=none)∧σ'.m k=none∧σ.m k≠some cu:=by
  intro k j hk;simp only[AD] at hk;split at hk
  ·rename_i i hi;obtain⟨g1,g2,g3,g4,g5⟩:=VM k i hi;have g6:k<w.heap.size→own k≠none:=fun ah e=>g5 ah (by simp[lS,e]);refine⟨g6,g1,g2,g3,g4,fun e=>?_⟩;exact g6 (h.ltm e) (VD k _ e)
  ·split at hk
   ·rename_i j' bR;split at hk
    ·cases hk
    ·rename_i hn;obtain⟨g1,g2,g3,g4⟩:=h.owns k j' bR;have iX:(∃j,own k=some j∧cg js is j=none)∨σ.m k=some cu∨(cx k):=.inl ⟨j',bR,hn⟩;refine⟨fun _ e=>(by rw[bR] at e;cases e),g1,Nat.lt_of_lt_of_le g2 hb.size,fun o=>?_,?_,fun e=>?_⟩
     ·cases e:σ'.c k o with
      |none=>rfl
      |some x=>exact absurd iX (cQ k o x e).2
     ·cases e:σ'.m k with
      |none=>rfl
      |some x=>exact absurd iX (cK k x e).2
     ·rw[g4] at e;cases e
   ·cases hk
 refine⟨σ'.plus σ,AD js is own own',aR,⟨h.defers.mono j8,Im.plus_ok ax Ex,h.le.trans j8,h.old,fun k o x e=>?_,fun k x e=>?_,h.below.trans (Below.weak hb fun k hk=>?_),h.bw,fun k j hk=>?_,fun t=>?_,fun j=>?_,h.opts,?_⟩,jE.mono j9⟩
 ·rcases(cQ k o x (dX k o x e)).1 with e1|e1
  ·exact h.newc k o x e1
  ·exact .inr e1
 ·rcases vc k x e with e1|e1
  ·rcases(cK k x e1).1 with e2|e2
   ·exact h.newm k x (zN k x e2).1
   ·exact .inr e2
  ·exact h.newm k x e1.1
 ·have cD:k<w0.heap.size:=Nat.lt_of_lt_of_le hk h.bw;refine Ev k (by omega) ?_;cases e:own k with
  |none=>rfl
  |some j=>have:=(h.owns k j e).1;omega
 ·obtain⟨_,g1,g2,g3,g4,g5⟩:=kO k j hk;refine⟨g1,g2,fun o=>?_,?_⟩
  ·cases e:(σ'.plus σ).c k o with
   |none=>rfl
   |some x=>have:=dX k o x e;rw[g3 o] at this;cases this
  ·cases e:(σ'.plus σ).m k with
   |none=>rfl
   |some x=>
    rcases vc k x e with e1|e1
    ·rw[g4] at e1;cases e1
    ·exact absurd (by rw[e1.1,e1.2]) g5
 ·show aI C _ ρ' _ aR (S.r t) _ (ρ'.r t);rw[gi]
  exact aI.mono j8 qq (fun gs s e=>by
   unfold holds;rw[gi]) (fun gs s e=>(h.opts t gs s e).2) (h.regs t)
 ·show bQ C _ ρ' _ _ aR w' _ j (match cg js is j with|some i=>(match na (rE S.ver shs is js) is js (dv obs i) with|some o=>o|none=>.dead)|none=>S.o j);split
  ·rename_i i hi;have cJ:=ET VF hi;split
   ·rename_i x hx;refine ase (S1:=S.handed shs obs is js) j9 aoQ (fun k i' j' hk hl=>by simp only[AD,hk,hl]) cJ ?_ hx (Lt i);subst zC;obtain⟨k,bB,cD⟩:=Ww (os:=os) Ey cJ;show ρ'.o j=la obs os i;rw[cD];exact nJ k j bB
   ·trivial
  ·rename_i hn
   have Ll:j∉js:=fun hm=>by
        obtain⟨k,hk⟩:=List.getElem?_of_mem hm;have ah:k<is.length:=by
         have:=(List.getElem?_eq_some_iff.1 hk).1;rw[zC,List.length_map];omega
        have:=ES Es hk (List.getElem?_eq_getElem ah);rw[hn] at this;cases this
   by_cases Ei:j=fY
   ·subst Ei;rw[D6];trivial
   ·refine(h.objs j).mono j8 qq (by show aR j=hv j;simp only[aR,hn]) (sD j Ll Ei) (fun k hk=>⟨?_,an0 k j hk hn⟩);have:own' k=none:=by
     cases e:own' k with
     |none=>rfl
     |some i=>exact absurd (by simp[lS,hk,hn]) ((VM k i e).2.2.2.2 (h.owns k j hk).2.1)
    simp only[AD,this,hk,hn]
 ·refine⟨tr,fx,cx,⟨σ0.keep _ _ _ _ _ hf.F hb fun k hk=>?_,fun k j hk iZ=>?_,fun k o x e hc=>?_,fun k x e hc=>?_,fun k e hB hk=>?_⟩,fun j hj=>?_⟩
  ·refine Ev k (σ0.lt _ _ _ _ hf.F k hk) ?_;cases e:own k with
   |none=>rfl
   |some j=>exact absurd hk (hf.own k j e)
  ·have ah:=σ0.lt _ _ _ _ hf.F k iZ;have:=(kO k j hk).1 ah;cases e:own k with
   |none=>exact this e
   |some j'=>exact hf.own k j' e iZ
  ·exact(cQ k o x (dX k o x e)).2 (.inr (.inr hc))
  ·rcases vc k x e with e1|e1
   ·exact(cK k x e1).2 (.inr (.inr hc))
   ·exact hf.m k x e1.1 hc
  ·rcases vc k _ e with e1|e1
   ·have ah:=σ0.lt _ _ _ _ hf.F k hk;refine Er k e1 hB ah ?_;have:own k=none:=by
     cases e:own k with
     |none=>rfl
     |some j=>exact absurd hk (hf.own k j e)
    simp[lS,this]
   ·exact hf.d k e1.1 hB hk
  ·change (match cg js is j with|some i=>(match na (rE S.ver shs is js) is js (dv obs i) with|some o=>o|none=>.dead)|none=>S.o j)=.tr at hj;split at hj
   ·rename_i i hi;split at hj
    ·rename_i x hx;exact absurd hj (aug hx)
    ·cases hj
   ·rename_i hn
    have Ll:j∉js:=fun hm=>by
     obtain⟨k,hk⟩:=List.getElem?_of_mem hm;have ah:k<is.length:=by
         have:=(List.getElem?_eq_some_iff.1 hk).1;rw[zC,List.length_map];omega
     have:=ES Es hk (List.getElem?_eq_getElem ah);rw[hn] at this;cases this
    have Ei:j≠fY:=fun e=>by subst e;rw[D6] at hj;cases hj
    rw[sD j Ll Ei];exact pk j hj
theorem abF:∀(js:List Nat) (k:Nat) {ρ ρ':Env} {l:List D},PI.runs Φ (BW js k) ρ=some ρ'→ρ.o fY=.tup l→fY∉js→js.Nodup→
 ρ'.r=ρ.r∧(∀(i j:Nat),js[i]?=some j→ρ'.o j=l.getD (k+i) .none)∧∀j,j∉js→ρ'.o j=ρ.o j
 |[],k,ρ,ρ',l,h,hs,hn,hd=>by
  simp only[BW,PI.runs,Option.some.injEq] at h;subst h;exact⟨rfl,fun i j e=>by simp at e,fun _ _=>rfl⟩
 |x::js,k,ρ,ρ',l,h,hs,hn,hd=>by
  simp only[BW,PI.runs,PI.run,Option.bind_some,PE.ev,hs,D.tget] at h;simp only[List.mem_cons,not_or] at hn;have eC:=List.nodup_cons.1 hd;obtain⟨g1,g2,g3⟩:=abF js (k+1) h (by simp only[Env.setO];rw[bl _ _ hn.1];exact hs) hn.2 eC.2;refine⟨g1,fun i j e=>?_,fun j hj=>?_⟩
  ·cases i with
   |zero=>simp at e;subst e;rw[g3 _ eC.1];simp[Env.setO,aP]
   |succ i=>simp at e;rw[g2 i j e];congr 1;omega
  ·simp only[List.mem_cons,not_or] at hj;rw[g3 j hj.2];simp only[Env.setO];exact bl _ _ hj.1
theorem adv (h:Inv C S ρ σ own hv w0 σ0 A a w)(hC:CtxOK C σ0)(x:Operand):∃d,IV C S ρ σ hv (Cg C S x) (a.eval x) d:=by
 cases x with
 |tmp t=>
  refine⟨ρ.r t,?_,fun y hy=>bO (gs:=[]) h hC rfl hy⟩;have:=(l7 (gs:=[]) h rfl t).1;simpa [Act.eval,Cg,fq] using this
 |_=>exact⟨.none,trivial,fun y hy=>bO (gs:=[]) h hC rfl hy⟩
theorem T4 (h:Inv C S ρ σ own hv w0 σ0 A a w)(hC:CtxOK C σ0)(hΦ:cM C Φ){f:Nat}{args:List Operand}{caps:List (Nat×Nat)}{vs:List Value}(fT:vs.length=caps.length)
 (iU:∀(i j ver:Nat),caps[i]?=some (j,ver)→ver≤S.ver j∧(ver=S.ver j→vs.getD i undef=hv j)) (amB:∀(i j ver:Nat),caps[i]?=some (j,ver)→ver=S.ver j→∃k,hv j=.pointer (some ⟨k,0,none⟩)) {r:St×Ty×List PI} (hr:nu C S f args caps=some r)
 {ρ1:Env} (aj:PI.runs Φ r.2.2 ρ=some ρ1):
 Calls C.P f (args.map a.eval++vs).toArray w fun e w'=>∃v σ1 da aR,e=.returned v∧Inv C r.1 ρ1 σ1 da aR w0 σ0 A a w'∧Rep C.cap σ1 r.2.1 v ((ρ1.o fY).tget 0):=by
 simp only[nu,Option.bind_eq_some_iff] at hr;obtain⟨s,hs,hr⟩:=hr;split at hr
 case h_2=>cases hr
 rename_i shs obs mJ;obtain⟨σ2,gl,j9,h2⟩:=Inv.fzs (uI S args shs) h;have du:=(nB (uI S args shs) S).1;generalize S.fzs (uI S args shs)=S2 at hr h2 du;unfold Ka J9 at hr;generalize Um S2 shs obs (args.map (Cg C S2)++caps.map Te)=js at hr;simp only[Option.bind_eq_some_iff] at hr;obtain⟨es,gz,hr⟩:=hr;cases hb:(Ay shs obs&&(gX (obs.map (·.1))&&gX js&&nA S2 (obs.map (·.1)) js obs js&&lN (S2.o fY)&& !aN js fY))<;>simp only[hb,cond_true,cond_false] at hr
 ·cases hr
 cases hr;simp only[Bool.and_eq_true,Bool.not_eq_true'] at hb;obtain⟨b0,⟨⟨⟨b1,b2⟩,b3⟩,b4⟩,b5⟩:=hb;have jC:=ld b1;have qy:=ld b2;have D6:S2.o fY=.dead:=by
  cases e:S2.o fY<;>rw[e] at b4<;>first|rfl|cases b4
 have ED:fY∉js:=fun hm=>by rw[Wb.2 hm] at b5;cases b5
 simp only[PI.runs,PI.run,Option.bind_eq_some_iff,Option.map_eq_some_iff] at aj;obtain⟨ρ2,⟨d,hd,rfl⟩,aj⟩:=aj;rw[PE.evs_eq,List.map_append,List.map_map] at hd;have e1:js.map (PE.ev ρ∘PE.o)=js.map ρ.o:=rfl;rw[e1] at hd;have hfn:=(hΦ f _ d hd s hs).2 shs obs mJ
 have se:=handed h2 hC b0 rfl jC qy b3 gz D6 ED (vals:=args.map a.eval++vs) (by simp[fT]) (fun t x hx=>by
  rw[List.getElem?_append] at hx;split at hx
  ·rename_i ah;rw[List.length_map] at ah;rw[List.getElem?_map,List.getElem?_eq_getElem ah] at hx;cases hx;have:(args.map a.eval++vs).getD t undef=a.eval args[t]:=by
        rw[List.getD_eq_getElem?_getD,List.getElem?_append_left (by simpa using ah),List.getElem?_map,List.getElem?_eq_getElem ah];rfl
   rw[this];exact adv h2 hC _
  ·rename_i dY;rw[List.length_map] at dY hx;rw[List.getElem?_map,Option.map_eq_some_iff] at hx;obtain⟨c,hc,rfl⟩:=hx;obtain⟨j,ver⟩:=c;have cj:(args.map a.eval++vs).getD t undef=vs.getD (t-args.length) undef:=by
        rw[List.getD_eq_getElem?_getD,List.getElem?_append_right (by simpa using dY),List.length_map,List.getD_eq_getElem?_getD]
   obtain⟨g1,g2⟩:=iU _ j ver hc;refine⟨.none,⟨by rw[du];exact g1,fun e=>?_⟩,fun y hy=>by cases hy⟩;rw[du] at e;obtain⟨k,hk⟩:=amB _ j ver hc e;exact⟨k,hk,by rw[cj,g2 e,hk]⟩) (hfn:=hfn)
 refine se.mono fun e w' hh=>?_;obtain⟨v,dr,os,rfl,rfl,Ey,kN⟩:=hh;obtain⟨g1,g2,g3⟩:=abF js 1 (l:=dr::os) aj (by simp[Env.setO,aP]) ED qy
 obtain⟨σ1,da,aR,hinv,bH⟩:=kN ρ1 g1 (fun k j hk=>by
  have:=g2 k j hk;rw[Nat.add_comm] at this;simpa using this) (fun j hj aB=>by rw[g3 j hj];simp only[Env.setO];exact bl _ _ aB)
 refine⟨v,σ1,da,aR,rfl,hinv,?_⟩;rw[g3 fY ED];simpa [Env.setO,aP,D.tget] using bH
def mT (S:St)(dst:Option Nat)(r:St×Ty×List PI):St×List PI:=
 match dst with
 |some d=>(r.1.setR d (.dat r.2.1),r.2.2++[.setR d (.tget (.o fY) 0)])
 |none=>(r.1,r.2.2)
theorem auw {a b:List PI}{ρ:Env}:PI.runs Φ (a++b) ρ=(PI.runs Φ a ρ).bind (PI.runs Φ b):=by
 induction a generalizing ρ with
 |nil=>simp[PI.runs]
 |cons x a ih=>
  simp only[List.cons_append,PI.runs];cases x.run Φ ρ with
  |none=>rfl
  |some ρ1=>simp[ih]
theorem Tb {o:Oper}{f:Nat}{vals:List Value}(ht:∀d,o.dst=some d→¬A d∧d<a.tmps.size){r:St×Ty×List PI}(hx:(execOp a.eval o).run C.P w=.ok (.enter f vals.toArray) w)
 (hc:∀ρ1,PI.runs Φ r.2.2 ρ=some ρ1→Calls C.P f vals.toArray w fun e w'=>∃v σ1 da aR,e=.returned v∧Inv C r.1 ρ1 σ1 da aR w0 σ0 A a w'∧Rep C.cap σ1 r.2.1 v ((ρ1.o fY).tget 0)):bJ C w0 σ0 Φ S ρ A a w o (mT S o.dst r):=by
 intro ρ' aj K Q hK;simp only[Oper.wp,hx,Oper.upon];cases hd:o.dst with
 |none=>
  rw[hd] at aj hK;refine(hc ρ' aj).mono fun e w' hh=>?_;obtain⟨v,σ1,da,aR,rfl,hinv,bH⟩:=hh;refine hK _ _ ⟨σ1,da,aR,?_⟩ rfl;have:(fun u=>A u∨(none:Option Nat)=some u)=A:=by funext u;simp
  rw[this];exact hinv
 |some d=>
  rw[hd] at aj hK;obtain⟨t1,t2⟩:=ht d hd;simp only[mT,auw,Option.bind_eq_some_iff] at aj;obtain⟨ρ1,h1,h2⟩:=aj;simp[PI.runs,PI.run,PE.ev] at h2;subst h2;refine(hc ρ1 h1).mono fun e w' hh=>?_;obtain⟨v,σ1,da,aR,rfl,hinv,bH⟩:=hh;refine hK _ _ ⟨σ1,da,aR,?_⟩ (size_put _ _ _);have:(fun u=>A u∨some d=some u)=(fun u=>A u∨u=d):=by funext u;simp[eq_comm]
  rw[this];exact hinv.setReg t1 (s:=.dat r.2.1) bH t2 (fun _ _ e=>by cases e)
theorem T5 (h:Inv C S ρ σ own hv w0 σ0 A a w)(hC:CtxOK C σ0)(aX:db C)(hΦ:cM C Φ){f:Nat}{args:Array Operand}{ts:Array TypeId}{r:St×Ty×List PI}{o:Oper}(ht:∀d,o.dst=some d→¬A d∧d<a.tmps.size)
 (hr:nu C S f args.toList []=some r) (ho:o.op=.call {callee:=.value (.func f),args:=args,argTypes:=ts}):bJ C w0 σ0 Φ S ρ A a w o (mT S o.dst r):=by
 have hs:∃s,C.sig f=some s:=by
  simp only[nu,Option.bind_eq_some_iff] at hr;obtain⟨s,hs,_⟩:=hr;exact⟨s,hs⟩
 obtain⟨s,hs⟩:=hs;have hx:=PO (a:=a) (w:=w) aX hs ho;have ka:args.map a.eval=(args.toList.map a.eval++[]).toArray:=by apply Array.ext';simp
 rw[ka] at hx;exact Tb ht hx fun ρ1 aj=>T4 h hC hΦ (vs:=[]) rfl (fun i j ver e=>by simp at e) (fun i j ver e=>by simp at e) hr aj
def uh (S:St):List (Nat×Nat)→Bool
 |[]=>true
 |c::l=>Nat.beq c.2 (S.ver c.1)&&(match S.o c.1 with|.box ..=>true|_=>false)&&uh S l
theorem Tg (h:Inv C S ρ σ own hv w0 σ0 A a w):∀{l:List (Nat×Nat)},uh S l=true→∀(i j ver:Nat),l[i]?=some (j,ver)→ver=S.ver j∧∃k,hv j=.pointer (some ⟨k,0,none⟩)
 |[],_,i,j,ver,e=>by simp at e
 |c::l,hl,i,j,ver,e=>by
  simp only[uh,Bool.and_eq_true] at hl;cases i with
  |zero=>
   simp at e;subst e;refine⟨Nat.eq_of_beq_eq_true hl.1.1,?_⟩;have h1:=hl.1.2;have h2:=h.objs j;split at h1
   ·rename_i ag shs eo;simp only at eo;rw[eo] at h2;obtain⟨k,cs,T,ds,g1,_⟩:=h2;exact⟨k,g1⟩
   ·cases h1
  |succ i=>simp at e;exact Tg h hl.2 i j ver e
def uz (C:Ctx)(S:St)(t:Nat)(args:List Operand):Option (St×Ty×List PI):=
 match jt S [] t with
 |.fclo f caps=>bif uh S caps then nu C S f args caps else none
 |_=>none
theorem T3 (h:Inv C S ρ σ own hv w0 σ0 A a w)(hC:CtxOK C σ0)(aX:db C)(hΦ:cM C Φ){t:Nat}{args:Array Operand}{ts:Array TypeId}{r:St×Ty×List PI}{o:Oper}(ht:∀d,o.dst=some d→¬A d∧d<a.tmps.size)
 (hr:uz C S t args.toList=some r) (ho:o.op=.call {callee:=.value (.tmp t),args:=args,argTypes:=ts}):bJ C w0 σ0 Φ S ρ A a w o (mT S o.dst r):=by
 unfold uz at hr;split at hr
 case h_2=>cases hr
 rename_i f caps jd;cases hb:uh S caps<;>simp only[hb,cond_true,cond_false] at hr
 ·cases hr
 have gU:=(l7 (gs:=[]) h rfl t).1;rw[jd] at gU;obtain⟨vs,h1,h2,h3⟩:=gU;have hs:∃s,C.sig f=some s:=by
  simp only[nu,Option.bind_eq_some_iff] at hr;obtain⟨s,hs,_⟩:=hr;exact⟨s,hs⟩
 obtain⟨s,hs⟩:=hs;have hx:=aby (a:=a) (w:=w) (vs:=vs) (x:=.tmp t) aX hs (by simpa [Act.eval] using h1) ho;have ka:args.map a.eval++vs.toArray=(args.toList.map a.eval++vs).toArray:=by apply Array.ext';simp
 rw[ka] at hx;exact Tb ht hx fun ρ1 aj=>T4 h hC hΦ h2 h3 (fun i j ver e _=>(Tg h hb i j ver e).2) hr aj
def xy (S:St):List Operand→Option (List (Nat×Nat))
 |[]=>some []
 |x::xs=>
  match x with
  |.tmp t=>
   match jt S [] t with
   |.ptr j ver off=>bif Nat.beq ver (S.ver j)&&Nat.beq off 0 then(xy S xs).map fun r=>(j,ver)::r else none
   |_=>none
  |_=>none
def yU (C:Ctx)(S:St)(dst:Nat)(fn:Fn)(first caps:Array Operand):Option (St×List PI):=
 match fn,first.toList with
 |.func f,[]=>
  match C.sig f with
  |some s=>bif nO s.mode then(xy S caps.toList).map fun c=>(S.setR dst (.fclo f c),[.setR dst (.con .none)]) else none
  |none=>none
 |_,_=>none
theorem Th (h:Inv C S ρ σ own hv w0 σ0 A a w):∀{l:List Operand} {c:List (Nat×Nat)},xy S l=some c→c.length=l.length∧∀(i j ver:Nat),c[i]?=some (j,ver)→ver≤S.ver j∧(ver=S.ver j→(l.map a.eval).getD i undef=hv j)
 |[],c,e=>by simp only[xy,Option.some.injEq] at e;subst e;exact⟨rfl,fun i j ver e=>by simp at e⟩
 |x::xs,c,e=>by
  simp only[xy] at e;split at e
  case h_2=>cases e
  rename_i t;split at e
  case h_2=>cases e
  rename_i j ver off jd;cases hb:(Nat.beq ver (S.ver j)&&Nat.beq off 0)<;>simp only[hb,cond_true,cond_false] at e
  ·cases e
  simp only[Bool.and_eq_true] at hb;simp only[Option.map_eq_some_iff] at e;obtain⟨r,hr,rfl⟩:=e;obtain⟨g1,g2⟩:=Th h hr;have gU:=(l7 (gs:=[]) h rfl t).1;rw[jd] at gU;refine⟨by simp[g1],fun i j' ma e=>?_⟩;cases i with
  |zero=>
   simp at e;obtain⟨rfl,rfl⟩:=e;refine⟨gU.1,fun e=>?_⟩;obtain⟨k,k1,k2⟩:=gU.2 e;have e0:off=0:=Nat.eq_of_beq_eq_true hb.2;subst e0;rw[k1,←k2];simp[Act.eval]
  |succ i=>simp at e;simpa using g2 i j' ma e
theorem aiL (h:Inv C S ρ σ own hv w0 σ0 A a w)(ht:¬A dst)(ah:dst<a.tmps.size){fn:Fn}{first caps:Array Operand}{r:St×List PI}{o:Oper}(hr:yU C S dst fn first caps=some r)(hd:o.dst=some dst)(ho:o.op=.makeFunc fn first caps):bJ C w0 σ0 Φ S ρ A a w o r:=by
 unfold yU at hr;split at hr
 case h_2=>cases hr
 rename_i f KW;split at hr
 case h_2=>cases hr
 rename_i s hs;cases hb:nO s.mode<;>simp only[hb,cond_true,cond_false] at hr
 ·cases hr
 simp only[Option.map_eq_some_iff] at hr;obtain⟨c,hc,rfl⟩:=hr;obtain⟨g1,g2⟩:=Th h hc;have zw:first=#[]:=by rw[←Array.toList_inj];simpa using KW
 refine bJ.value hd fun ρ' aj=>⟨.func (.func f) #[] (caps.toList.map a.eval).toArray,w,?_,?_⟩
 ·subst zw;have e9:caps.map a.eval=(caps.toList.map a.eval).toArray:=by apply Array.ext';rw[Array.toList_map]
  simp[execOp,ho,Instr.makeFunc,e9]
 ·have hρ:ρ'=ρ.setR dst .none:=by simp[PI.runs,PI.run,PE.ev] at aj;exact aj.symm
  subst hρ;exact⟨_,_,_,h.setReg ht (s:=.fclo f c) ⟨_,rfl,by simp[g1],g2⟩ ah (fun _ _ e=>by cases e)⟩
end
end Cx
namespace Cx
open Go Go.RowKit
inductive Gh where
 |fz (j:Nat)|fbox (b:Nat)|rereg (t j:Nat)|recell (b i j:Nat)|home (b i j:Nat) (T:TypeId)
def Gh.run (C:Ctx)(S:St):Gh→Option (St×List PI)
 |.fz j=>some (S.fz j,[])
 |.fbox b=>zc S b
 |.rereg t j=>tK S t j
 |.recell b i j=>BO S b i j
 |.home b i j T=>zQ C S b i j T
def gN (C:Ctx):List Gh→St→Option (St×List PI)
 |[],S=>some (S,[])
 |g::gs,S=>(g.run C S).bind fun r=>(gN C gs r.1).map fun q=>(q.1,r.2++q.2)
theorem l5 {Φ:aL}:∀{a b:List PI} {ρ:Env},PI.runs Φ (a++b) ρ=(PI.runs Φ a ρ).bind (PI.runs Φ b)
 |[],b,ρ=>by simp[PI.runs]
 |x::a,b,ρ=>by
  simp only[List.cons_append,PI.runs];cases x.run Φ ρ with
  |none=>rfl
  |some ρ1=>simp[l5 (a:=a) (b:=b)]
def mE (S:St)(ops:Array Oper)(o:Oper):Option (List (Nat×Bool)):=
 match o.guard with
 |none=>some []
 |some (j,want)=>
  match(ops[j]?).bind (·.dst) with
  |some t=>
   match S.r t with
   |.dat .bool=>some [(t,want)]
   |.opt gs (.dat .bool)=>some ((t,want)::gs)
   |_=>none
  |none=>none
def qY (S:St)(gs:List (Nat×Bool)):Op→List Nat
 |.build _ ps=>bS S gs (ps.toList.map (·.2))
 |.buildSlice _ _ ps=>bS S gs (ps.toList.map (·.2))
 |.box _ x=>bS S gs [x]
 |.pick _ x y=>bS S gs [x,y]
 |.slice _ x _ _ _=>bS S gs [x]
 |.mapUpdate _ _ k v=>bS S gs [k,v]
 |.insert _ _ k v=>bS S gs [k,v]
 |.store _ x v=>match fq S gs x with|.eptr ..=>bS S gs [v]|_=>[]
 |_=>[]
def xz:List Sh→List Nat
 |[]=>[]
 |.obj j _::r=>j::xz r
 |_::r=>xz r
def Cq (S:St)(gs:List (Nat×Bool)):List Operand→List Nat
 |[]=>[]
 |x::xs=>
  match fq S gs x with
  |.ptr j ver off=>bif Nat.beq ver (S.ver j)&&(match S.o j with|.box ..=>true|_=>false) then j::Cq S gs xs else Cq S gs xs
  |_=>Cq S gs xs
def YD (C:Ctx):Fn→Bool
 |.func f=>(match C.sig f with|some s=>nO s.mode|none=>false)
 |_=>false
def pre (C:Ctx)(S:St)(gs:List (Nat×Bool))(op:Op):List Gh:=
 match op with
 |.makeFunc fn _ caps=>
  bif YD C fn then[] else(Cq S gs caps.toList).flatMap fun b=>(match S.o b with|.box _ shs=>(xz shs).map .fz|_=>[])++[.fbox b]
 |.load T x=>
  match fq S gs x,mO C.P T,C.P.info? T with
  |.ptr j _ off,some true,some inf=>(match S.o j with|.box _ shs=>(xz ((shs.drop off).take inf.size)).map .fz|_=>[])
  |_,_,_=>[]
 |op=>(qY S gs op).map .fz
def mX (C:Ctx)(S:St)(gs:List (Nat×Bool))(o:Oper):List Gh:=
 match o.op,o.dst with
 |.assign x,some t=>bif C.fr.any (Nat.beq t) then(bS S gs [x]).map .fz else[]
 |_,_=>[]
def JY (P:Program):Nat→TypeId→List (Option TypeId)
 |0,_=>[]
 |n+1,t=>
  match P.underlying t with
  |some (.struct fs)=>fs.toList.flatMap fun f=>JY P n f.type
  |some (.array len e)=>(List.replicate len (JY P n e)).flatten
  |some (.slice e)=>[some e]
  |_=>[none]
def homes (P:Program)(b off:Nat)(T:TypeId):List Gh:=
 ((JY P 12 T).zipIdx).filterMap fun x=>x.1.map fun e=>.home b (off+x.2) (VL b (off+x.2)) e
def EL (nh:List Nat)(l:List Gh):List Gh:=l.filter fun g=>match g with|.home _ _ j _=> !(nh.any (Nat.beq j))|_=>true
def abk (b off n:Nat):List Gh:=(List.range n).map fun i=>.recell b (off+i) (VL b (off+i))
def post (C:Ctx)(S:St)(o:Oper):List Gh:=
 match o.op,o.dst with
 |.assign _,some t=>[.rereg t t]
 |.alloc T,some t=>EL C.nh (homes C.P t 0 T)
 |.store T x _,_=>
  match fq S [] x with
  |.ptr j _ off=>EL C.nh (homes C.P j off T)++abk j off (match C.P.info? T with|some i=>i.size|none=>0)
  |_=>[]
 |_,_=>[]
def nQ:Sh→Bool
 |.opt ..=>false
 |_=>true
def qh (C:Ctx)(S:St)(dst:Nat)(T:TypeId)(x:Operand):jT:=
 match x with
 |.const v=>(l9 C.P T).bind fun t=>(mc t).bind fun z=>bif gM t v then some (S.setR dst (.dat z.1),[.setR dst (.con z.2)]) else none
 |_=>none
def core (C:Ctx)(S:St)(gs:List (Nat×Bool))(o:Oper):Option (St×List PI):=
 match o.dst with
 |some dst=>
  match lR C S gs dst o.op with
  |some r=>bif nQ r.1 then some (S.setR dst (gu gs r.1),r.2) else none
  |none=>
   match o.op,gs with
   |.assign x,[]=>
    bif C.fr.any (Nat.beq dst) then
          match mU C S [] dst x with
          |some r=>some (S.setR dst r.1,r.2)
          |none=>qh C S dst o.type x
    else
    match yV C S dst o.type x with
    |some r=>some r
    |none=>
     match mU C S [] dst x with
     |some r=>some (S.setR dst r.1,r.2)
     |none=>qh C S dst o.type x
   |.alloc T,[]=>yN C S dst T
   |.box T x,[]=>yP C S dst T x
   |.buildSlice T n ps,gs=>
    match gs with
    |[]=>rQ C S [] dst T n ps.toList
    |_=>uA C S gs dst T n ps.toList
   |.makeSlice T l c,[]=>yT C S dst T l c
   |.makeMap T r,[]=>yS C S dst T r
   |.range T x,[]=>yW C S dst T x
   |.convert T U x,[]=>yQ C S dst T U x
   |.call c,gs=>
    match c.callee,gs with
    |.builtin .append,[]=>
     match c.args.toList,c.argTypes.toList with
     |[s,x],[T,T']=>bif Nat.beq T T' then yO C S dst T s x else none
     |_,_=>none
    |.value (.func f),gs=>
     match mz C S gs dst f c.args.toList with
     |some r=>some (r.1.setR dst (gu gs r.2.1),r.2.2)
     |none=>
      match gs with
      |[]=>
       match yR C S dst f c.args.toList with
       |some r=>some r
       |none=>(nu C S f c.args.toList []).map (mT S (some dst))
      |_=>none
    |.value x,gs=>
     match ly C S gs dst x c.args.toList with
     |some r=>some (r.1.setR dst (gu gs r.2.1),r.2.2)
     |none=>
      match x,gs with
      |.tmp t,[]=>(uz C S t c.args.toList).map (mT S (some dst))
      |_,_=>none
    |_,_=>none
   |.makeFunc fn first caps,[]=>yU C S dst fn first caps
   |_,_=>none
 |none=>
  match o.op,gs with
  |.store T x v,[]=>qg C S T x v
  |.mapUpdate T m k v,[]=>oJ C S T m k v
  |.insert T m k v,[]=>oJ C S T m k v
  |.panic _,[]=>some (S,[.chk (.nt (.con (.bool true)))])
  |.call c,[]=>
   match c.callee with
   |.value (.func f)=>(nu C S f c.args.toList []).map (mT S none)
   |.value (.tmp t)=>(uz C S t c.args.toList).map (mT S none)
   |_=>none
  |_,_=>none
def ZZ (dst:Nat)(l:List PI):Bool:=l.all fun p=>p.modR.all (Nat.beq dst)&&p.modO.isEmpty
def gw (gs:List (Nat×Bool))(dst:Option Nat)(l:List PI):Bool:=
 match gs,dst with
 |[],_=>true
 |_,some d=>ZZ d l
 |_,none=>false
def yK (C:Ctx)(S:St)(ops:Array Oper)(o:Oper):Option (St×List PI):=
 (mE S ops o).bind fun gs=>
 (gN C (pre C S gs o.op++mX C S gs o) S).bind fun r1=>
 (core C r1.1 gs o).bind fun r2=>
 (gN C (post C r2.1 o) r2.1).bind fun r3=>
 bif gw gs o.dst r2.2 then some (r3.1,r1.2++r2.2++r3.2) else none
def B2:PI:=.chk (.con (.v (.bool false)))
def uw (C:Ctx)(S:St)(ops:Array Oper)(o:Oper):Option (St×List PI):=
 match yK C S ops o with
 |some r=>some r
 |none=>some (match o.dst with|some d=>S.setR d .none|none=>S,[B2])
section
variable {C:Ctx} {S:St} {ρ:Env} {σ:Im} {own:Nat→Option Nat} {hv:Nat→Value} {w0:World} {σ0:Base} {A:Nat→Prop} {a:Act} {w:World} {gs:List (Nat×Bool)} {Φ:aL} {dst:Nat}
theorem Gh.sound {g:Gh}{r:St×List PI}(h:Good C w0 σ0 S ρ A a w)(hr:g.run C S=some r):w9 C w0 σ0 Φ S ρ A a w r:=by
 obtain⟨σ,own,hv,h⟩:=h;cases g with
 |fz j=>
  simp only[Gh.run,Option.some.injEq] at hr;subst hr;intro ρ' aj;rw[lj aj];obtain⟨σ',own',_,h'⟩:=h.fz j;exact⟨σ',own',hv,h'⟩
 |fbox b=>exact alF h hr
 |rereg t j=>exact auf h hr
 |recell b i j=>exact aue h hr
 |home b i j T=>exact anY h hr
theorem Ku:∀(l:List Gh) {S:St} {ρ ρ':Env} {r:St×List PI},Good C w0 σ0 S ρ A a w→gN C l S=some r→PI.runs Φ r.2 ρ=some ρ'→Good C w0 σ0 r.1 ρ' A a w
 |[],S,ρ,ρ',r,h,hr,aj=>by
  simp only[gN,Option.some.injEq] at hr;subst hr;rw[lj aj];exact h
 |g::l,S,ρ,ρ',r,h,hr,aj=>by
  simp only[gN,Option.bind_eq_some_iff,Option.map_eq_some_iff] at hr;obtain⟨q,hq,q2,gC,rfl⟩:=hr;simp only[l5,Option.bind_eq_some_iff] at aj;obtain⟨ρ1,h1,h2⟩:=aj;exact Ku (r:=q2) l (Gh.sound (Φ:=Φ) h hq ρ1 h1) gC h2
theorem UI (h:Good C w0 σ0 S ρ A a w){ops:Array Oper}{o:Oper}(hg:mE S ops o=some gs):Region.wanted o (yielded ops a.tmps)=holds gs ρ:=by
 obtain⟨σ,own,hv,h⟩:=h;unfold mE at hg;unfold Region.wanted;split at hg
 ·rename_i e;cases hg;simp[e,holds]
 ·rename_i j want e;simp only[e];split at hg
  case h_2=>cases hg
  rename_i t ht;have gU:=h.regs t;have hy:∀v,a.tmps.getD t undef=v→(∀b,v=.bool b→yielded ops a.tmps j=some b)∧(v=undef→yielded ops a.tmps j=none):=by
   intro v hv';unfold yielded;rw[ht];simp only[Option.bind_some];rw[Array.getD_eq_getD_getElem?] at hv';cases qu:a.tmps[t]? with
   |none=>rw[qu] at hv';simp at hv';subst hv';exact⟨fun b e=>absurd e (by simp[undef]),fun _=>rfl⟩
   |some u=>rw[qu] at hv';simp at hv';subst hv';exact⟨fun b e=>by subst e;rfl,fun e=>by subst e;rfl⟩
  split at hg
  ·rename_i es;cases hg;rw[es] at gU;obtain⟨b,gP,cU⟩:=Rep.bool_inv gU;rw[(hy _ gP).1 b rfl];simp[holds,cU,D.b_bool]
  ·rename_i bA es;cases hg;rw[es] at gU;simp only[holds,List.all_cons];cases hh:holds bA ρ with
   |true=>
    obtain⟨b,gP,cU⟩:=Rep.bool_inv (gU.1 hh);rw[(hy _ gP).1 b rfl];unfold holds at hh;rw[hh,cU];simp[D.b_bool]
   |false=>
    rw[(hy _ (gU.2 hh)).2 rfl];unfold holds at hh;rw[hh];simp
  ·cases hg
theorem UH (h:Good C w0 σ0 S ρ A a w){ops:Array Oper}{o:Oper}(hg:mE S ops o=some gs)(hj:∀j want t,o.guard=some (j,want)→(ops[j]?).bind (·.dst)=some t→A t):∀g,g∈gs→A g.1:=by
 obtain⟨σ,own,hv,h⟩:=h;unfold mE at hg;split at hg
 ·cases hg;simp
 ·rename_i j want e;split at hg
  case h_2=>cases hg
  rename_i t ht;have hA:=hj j want t e ht;split at hg
  ·cases hg;intro g hm;simp at hm;subst hm;exact hA
  ·rename_i bA es;cases hg;intro g hm;rcases List.mem_cons.1 hm with e'|dZ
   ·subst e';exact hA
   ·exact(h.opts t bA _ es).1 g dZ
  ·cases hg
theorem asW (h:Inv C S ρ σ own hv w0 σ0 A a w)(hC:CtxOK C σ0)(hg:holds gs ρ=true){o:Oper}{r:Sh×List PI}(hr:lR C S gs dst o.op=some r):dy C S ρ σ hv Φ dst a w o r:=by
 unfold lR at hr;split at hr
 ·rename_i x e;exact Z3 h hC hg hr (.inl e)
 ·rename_i c x y e;exact asV h hC hg hr e
 ·rename_i op T x y T' e;exact asw h hC hg hr e
 ·rename_i op T x e;exact as0 h hC hg hr e
 ·rename_i s d x e;exact asA h hC hg hr e
 ·rename_i T x e;exact Fq h hC hg hr e
 ·rename_i T x i e;exact asE h hC hg hr e
 ·rename_i T x i e;exact asG h hC hg hr e
 ·rename_i T x i e;exact asJ h hC hg hr e
 ·rename_i T x i e;exact asL h hC hg hr e
 ·rename_i x i e;exact asC h hC hg hr e
 ·rename_i T m k ok e;exact asR h hC hg hr e
 ·rename_i T x lo hi mx e;exact asY h hC hg hr e
 ·rename_i f a b e;exact asH h hC hg hr e
 ·rename_i T ps e;exact asy h hC hg hr e
 ·rename_i x e;exact asT h hC hg hr e
 ·cases hr;intro ρ' aj;have:=(PR hg aj).1;cases this
 ·rename_i c e;split at hr
  ·rename_i x T hc ha ht;refine asN h hC hg hr ?_;rw[e];cases c with|mk callee args argTypes=>
   simp only at hc ha ht;have h1:args=#[x]:=by rw[←Array.toList_inj];exact ha
   have h2:argTypes=#[T]:=by rw[←Array.toList_inj];exact ht
   rw[hc,h1,h2]
  ·rename_i x y hc ha;refine Z1 (ts:=c.argTypes) h hC hg hr ?_;rw[e];cases c with|mk callee args argTypes=>
   simp only at hc ha;have h1:args=#[x,y]:=by rw[←Array.toList_inj];exact ha
   rw[hc,h1];rfl
  ·rename_i x y hc ha;refine Z1 (ts:=c.argTypes) h hC hg hr ?_;rw[e];cases c with|mk callee args argTypes=>
   simp only at hc ha;have h1:args=#[x,y]:=by rw[←Array.toList_inj];exact ha
   rw[hc,h1];rfl
  ·cases hr
 ·cases hr
theorem aiT (h:Inv C S ρ σ own hv w0 σ0 A a w)(ht:¬A dst)(ah:dst<a.tmps.size){T:TypeId}{x:Operand}{r:St×List PI}(hr:qh C S dst T x=some r){o:Oper}(hd:o.dst=some dst)(ho:o.op=.assign x):bJ C w0 σ0 Φ S ρ A a w o r:=by
 unfold qh at hr;split at hr
 case h_2=>cases hr
 rename_i v;simp only[Option.bind_eq_some_iff] at hr;obtain⟨t,_,z,hz,hr⟩:=hr;cases hc:gM t v<;>simp only[hc,cond_true,cond_false] at hr
 ·cases hr
 cases hr;have bH:=(tW (cap:=C.cap) (σ:=σ) hz hc).1;refine bJ.value hd fun ρ' aj=>⟨v,w,by simp[execOp,ho,Act.eval],?_⟩
 have hρ:ρ'=ρ.setR dst z.2:=by simp[PI.runs,PI.run,PE.ev] at aj;exact aj.symm
 subst hρ;exact⟨_,_,_,h.setReg ht (s:=.dat z.1) bH ah (fun _ _ e=>by cases e)⟩
theorem ah7 (h:Inv C S ρ σ own hv w0 σ0 A a w)(hC:CtxOK C σ0)(aX:db C)(hΦ:cM C Φ){o:Oper}(ht:∀d,o.dst=some d→¬A d∧d<a.tmps.size)(df:∀g,g∈gs→A g.1)(hg:holds gs ρ=true){r:St×List PI}
 (hr:core C S gs o=some r):bJ C w0 σ0 Φ S ρ A a w o r:=by
 unfold core at hr;split at hr
 ·rename_i dst hd;obtain⟨fC,fD⟩:=ht dst hd;split at hr
  ·rename_i q hq;cases ec:nQ q.1<;>simp only[ec,cond_true,cond_false] at hr
   ·cases hr
   cases hr;have VR:=asW (Φ:=Φ) h hC hg hq;cases gs with
   |nil=>exact VR.eff h fC fD hd
   |cons g bA=>exact VR.effG h fC fD df hg hd
  ·rename_i Lm;clear Lm;split at hr
   ·rename_i x e
    have mv:∀r,(match mU C S [] dst x with|some r=>some (S.setR dst r.1,r.2)|none=>qh C S dst o.type x)=some r→bJ C w0 σ0 Φ S ρ A a w o r:=by
     intro r hr;split at hr
     ·rename_i q hq;cases hr;exact(Z3 (Φ:=Φ) h hC hg hq (.inr e)).eff h fC fD hd
     ·exact aiT h fC fD hr hd e
    cases cI:C.fr.any (Nat.beq dst)<;>simp only[cI,cond_true,cond_false] at hr
    ·split at hr
     ·rename_i q hq;cases hr;exact aiN h hC fC fD hq hd e
     ·exact mv r hr
    ·exact mv r hr
   ·rename_i T e;exact ain h fC fD hr hd e
   ·rename_i T x e;exact air h hC fC fD hr hd e
   ·rename_i T n ps e;split at hr
    ·exact ait h hC fC fD hr hd e
    ·exact aiF h hC fC fD df hg hr hd e
   ·rename_i T l c e;exact aiJ h hC fC fD hr hd e
   ·rename_i T m e;exact aiH h fC fD hr hd e
   ·rename_i T x e;exact aiP h fC fD hr hd e
   ·rename_i T U x e;exact aiv h hC fC fD hr hd e
   ·rename_i c e;cases c with|mk callee args argTypes=>
    split at hr
    ·rename_i hc;simp only at hc;split at hr
     ·rename_i s x T T' ha LX;simp only at ha LX;cases hT:Nat.beq T T'<;>simp only[hT,cond_true,cond_false] at hr
      ·cases hr
      have uO:=Nat.eq_of_beq_eq_true hT;subst uO;refine aip h hC fC fD hr hd ?_;have h1:args=#[s,x]:=by rw[←Array.toList_inj];exact ha
      have h2:argTypes=#[T,T]:=by rw[←Array.toList_inj];exact LX
      rw[e,hc,h1,h2]
     ·cases hr
    ·rename_i f hc;simp only at hc;split at hr
     ·rename_i q hq;cases hr;exact aiD h hC aX hΦ fC fD df hg hq hd (by rw[e,hc])
     ·split at hr
      ·split at hr
       ·rename_i q hq;cases hr;exact aiA h hC aX hΦ fC fD hq hd (by rw[e,hc])
       ·simp only[Option.map_eq_some_iff] at hr;obtain⟨q,hq,rfl⟩:=hr;rw[←hd];exact T5 h hC aX hΦ ht hq (by rw[e,hc])
      ·cases hr
    ·rename_i x Lj hc;simp only at hc;split at hr
     ·rename_i q hq;cases hr;exact aiy h hC aX hΦ fC fD df hg hq hd (by rw[e,hc])
     ·split at hr
      ·simp only[Option.map_eq_some_iff] at hr;obtain⟨q,hq,rfl⟩:=hr;rw[←hd];exact T3 h hC aX hΦ ht hq (by rw[e,hc])
      ·cases hr
    ·cases hr
   ·rename_i fn first caps e;exact aiL h fC fD hr hd e
   ·cases hr
 ·rename_i hd;split at hr
  ·rename_i T x v e;exact aiR h hC hr hd e
  ·rename_i T m k v e;exact T7 h hC hr hd (.inl e)
  ·rename_i T m k v e;exact T7 h hC hr hd (.inr e)
  ·cases hr;intro ρ' aj;simp[PI.runs,PI.run,PE.ev,D.bool,D.b] at aj
  ·rename_i c e;cases c with|mk callee args argTypes=>
   split at hr
   ·rename_i f hc;simp only at hc;simp only[Option.map_eq_some_iff] at hr;obtain⟨q,hq,rfl⟩:=hr;rw[←hd];exact T5 h hC aX hΦ ht hq (by rw[e,hc])
   ·rename_i t hc;simp only at hc;simp only[Option.map_eq_some_iff] at hr;obtain⟨q,hq,rfl⟩:=hr;rw[←hd];exact T3 h hC aX hΦ ht hq (by rw[e,hc])
   ·cases hr
  ·cases hr
theorem ah5 {g:Nat×Bool}{bA:List (Nat×Bool)}{o:Oper}{r:St×List PI}(hr:core C S (g::bA) o=some r):
 ∃dst S2 s,o.dst=some dst∧r.1=S2.setR dst (.opt (g::bA) s)∧((∃js,S2=S.fzs js)∨∃j,S2=S.newO j .dead)∧(∀gs s',s≠.opt gs s')∧(∀x,o.op≠.assign x)∧(∀T,o.op≠.alloc T)∧∀T x v,o.op≠.store T x v:=by
 unfold core at hr;split at hr
 ·rename_i dst hd;split at hr
  ·rename_i q hq;cases ec:nQ q.1<;>simp only[ec,cond_true,cond_false] at hr
   ·cases hr
   cases hr;refine⟨dst,S,q.1,hd,rfl,.inl ⟨[],rfl⟩,(fun gs s' e=>by rw[e] at ec;cases ec),fun x e=>?_,fun T e=>?_,fun T x v e=>?_⟩<;>(rw[e] at hq;simp[lR] at hq)
  ·rename_i Lm;clear Lm;split at hr
   case h_4=>
        rename_i T n ps e;split at hr
        ·rename_i hx;cases hx
        ·unfold uA at hr;split at hr
         case h_2=>cases hr
         simp only[Option.bind_eq_some_iff] at hr;obtain⟨e0,he0,hr⟩:=hr;split at hr
         ·cases hr;exact⟨dst,_,.dat (.slice e0.rol),hd,rfl,.inr ⟨dst,rfl⟩,(fun _ _ e=>by cases e),(fun x e'=>by rw[e] at e';cases e'),(fun x e'=>by rw[e] at e';cases e'),(fun _ _ _ e'=>by rw[e] at e';cases e')⟩
         ·cases hr
   case h_9=>
        rename_i c e;split at hr
        ·rename_i hx;cases hx
        ·rename_i f hc;split at hr
         ·rename_i q hq;cases hr;simp only[mz,Option.bind_eq_some_iff] at hq;obtain⟨s,hs,hq⟩:=hq;split at hq
          case h_2=>cases hq
          simp only[Option.bind_eq_some_iff] at hq;obtain⟨u,hu,hq⟩:=hq;cases bV:Ty.subs u.1 s.args<;>simp only[bV,cond_true,cond_false] at hq
          ·cases hq
          cases hq;refine⟨dst,_,.dat s.res,hd,rfl,?_,(fun _ _ e=>by cases e),(fun x e'=>by rw[e] at e';cases e'),(fun x e'=>by rw[e] at e';cases e'),(fun _ _ _ e'=>by rw[e] at e';cases e')⟩;left;cases s.res.pure
          ·exact⟨_,rfl⟩
          ·exact⟨[],rfl⟩
         ·cases hr
        ·rename_i x Lj hc;have hr:∃q,ly C S (g::bA) dst x c.args.toList=some q∧(q.1.setR dst (gu (g::bA) q.2.1),q.2.2)=r:=by
          split at hr
          ·rename_i q hq;cases hr;exact⟨q,hq,rfl⟩
          ·split at hr
           all_goals (first|(cases hr;done)|(rename_i hx;cases hx;done)|(rename_i hx _;cases hx;done)|(rename_i hx _ _;cases hx;done)|(rename_i hx;exact absurd hx (by simp)))
         obtain⟨q,hq,rfl⟩:=hr;unfold ly at hq;split at hq
         case h_2=>cases hq
         rename_i aa r0 ee LY;split at hq
         case h_1=>cases hq
         simp only[Option.bind_eq_some_iff] at hq;obtain⟨u,hu,hq⟩:=hq;cases bV:Ty.subs u.1 aa<;>simp only[bV,cond_true,cond_false] at hq
         ·cases hq
         cases hq;refine⟨dst,_,.dat r0,hd,rfl,?_,(fun _ _ e=>by cases e),(fun x e'=>by rw[e] at e';cases e'),(fun x e'=>by rw[e] at e';cases e'),(fun _ _ _ e'=>by rw[e] at e';cases e')⟩;left;cases r0.pure
         ·exact⟨_,rfl⟩
         ·exact⟨[],rfl⟩
        ·cases hr
   all_goals (first|(cases hr;done)|(rename_i hx;cases hx;done)|(rename_i hx _;cases hx;done))
 ·split at hr
  all_goals (first|(cases hr;done)|(rename_i hx;cases hx;done)|(rename_i hx _;cases hx;done))
theorem VK {ρ ρ1:Env}:∀{l:List (Nat×Bool)},(∀g,g∈l→ρ1.r g.1=ρ.r g.1)→holds l ρ1=holds l ρ
 |[],_=>rfl
 |x::l,h=>by
  have ih:=VK (l:=l) fun y hy=>h y (List.mem_cons_of_mem _ hy);unfold holds at ih ⊢;simp only[List.all_cons];rw[ih,h x (List.mem_cons_self ..)]
theorem UE:∀(l:List Gh) {S:St} {r:St×List PI},gN C l S=some r→∀t,t∉r.2.flatMap PI.modR
 |[],S,r,hr=>by simp only[gN,Option.some.injEq] at hr;subst hr;simp
 |g::l,S,r,hr=>by
  simp only[gN,Option.bind_eq_some_iff,Option.map_eq_some_iff] at hr;obtain⟨q,hq,q2,gC,rfl⟩:=hr;have ih:=UE l gC;have hg:∀t,t∉q.2.flatMap PI.modR:=by
   cases g with
   |fz j=>simp only[Gh.run,Option.some.injEq] at hq;subst hq;simp
   |fbox b=>
    simp only[Gh.run,zc] at hq;split at hq
    case h_2=>cases hq
    simp only[Option.bind_eq_some_iff] at hq;obtain⟨x,hx,hq⟩:=hq;rename_i ag shs eo;cases ag<;>simp only[cond_true,cond_false] at hq
    ·split at hq
     ·cases hq;simp[PI.modR]
     ·cases hq
    ·cases hq;simp[PI.modR]
   |rereg t j=>
    simp only[Gh.run,tK] at hq;split at hq
    ·rename_i j' ver es;cases hb:(Nat.beq ver (S.ver j')&&kX (S.o j')&& !Nat.beq j' j)<;>simp only[hb,cond_true,cond_false] at hq<;>cases hq<;>simp[PI.modR]
    ·cases hq;simp
   |recell b i j=>
    simp only[Gh.run,BO] at hq;split at hq
    ·split at hq
     ·rename_i ag shs eo j' ver es;cases hb:(Nat.beq ver (S.ver j')&&kX (S.o j')&& !Nat.beq j' j&& !Nat.beq b j&& !Nat.beq b j')<;>simp only[hb,cond_true,cond_false] at hq<;>cases hq<;>simp[PI.modR]
     ·cases hq;simp
    ·cases hq;simp
   |home b i j T=>
    simp only[Gh.run,zQ] at hq;split at hq
    ·split at hq
     ·cases hb:(!Nat.beq b j)<;>simp only[hb,cond_true,cond_false] at hq<;>cases hq<;>simp[PI.modR]
     ·cases hq;simp
    ·cases hq;simp
  intro t hm;rw[List.flatMap_append,List.mem_append] at hm;exact hm.elim (hg t) (ih t)
theorem ahY (h:Good C w0 σ0 S ρ A a w)(hC:CtxOK C σ0)(aX:db C)(hΦ:cM C Φ){ops:Array Oper}{o:Oper}(ht:∀d,o.dst=some d→¬A d∧d<a.tmps.size)
 (hj:∀j want t,o.guard=some (j,want)→(ops[j]?).bind (·.dst)=some t→A t) {r:St×List PI} (hr:yK C S ops o=some r) {ρ':Env} (aj:PI.runs Φ r.2 ρ=some ρ')
 {K:Act→World→Prop} {Q:Exit→Act→World→Prop} (hK:∀a' w',Good C w0 σ0 r.1 ρ' (fun u=>A u∨o.dst=some u) a' w'→a'.tmps.size=a.tmps.size→K a' w'):
 if Region.wanted o (yielded ops a.tmps) then o.wp C.P a w K Q else K (a.put o.dst undef) w:=by
 simp only[yK,Option.bind_eq_some_iff] at hr;obtain⟨gs,df,r1,gi,r2,nJ,r3,sD,hr⟩:=hr;have uY:=UH h df hj;rw[UI h df];cases hc:gw gs o.dst r2.2<;>simp only[hc,cond_true,cond_false] at hr
 ·cases hr
 cases hr;simp only[l5,Option.bind_eq_some_iff] at aj;obtain⟨ρ2,⟨ρ1,hρ1,hρ2⟩,hρ3⟩:=aj;have h1:=Ku _ h gi hρ1;have cB:=h1;obtain⟨σ1,da,aR,i1⟩:=cB;have Ec:holds gs ρ1=holds gs ρ:=by
  cases gs with
  |nil=>rfl
  |cons g bA=>
   have hb:=(PI.runs_but hρ1).r
   have:∀x,x∈(g::bA)→ρ1.r x.1=ρ.r x.1:=fun x hm=>hb x.1 (by
        intro cE;exact UE _ gi x.1 cE)
   exact VK this
 cases hh:holds gs ρ with
 |true=>
  simp only[if_true];rw[hh] at Ec;refine ah7 i1 hC aX hΦ ht uY Ec nJ ρ2 hρ2 K Q (fun a' w' eD aK=>?_);exact hK a' w' (Ku (r:=r3) _ eD sD hρ3) aK
 |false=>
  simp only[Bool.false_eq_true,if_false];rw[hh] at Ec;cases gs with
  |nil=>simp[holds] at hh
  |cons g bA=>
   obtain⟨dst,S2,s,hd,hS,uN,hns,n1,n2,n3⟩:=ah5 nJ;obtain⟨t1,t2⟩:=ht dst hd;have iu:post C r2.1 o=[]:=by
        unfold post;split
        ·rename_i x t e _;exact absurd e (n1 x)
        ·rename_i T t e _;exact absurd e (n2 T)
        ·rename_i T x v e;exact absurd e (n3 T x v)
        ·rfl
   rw[iu] at sD;simp only[gN,Option.some.injEq] at sD;subst sD;have:=lj hρ3;subst this;obtain⟨σ2,gl,i2⟩:∃σ2 gl,Inv C S2 ρ1 σ2 gl aR w0 σ0 A a w:=by
        rcases uN with⟨js,rfl⟩|⟨j,rfl⟩
        ·obtain⟨σ2,gl,_,i2⟩:=Inv.fzs js i1;exact⟨σ2,gl,i2⟩
        ·exact⟨σ1,da,i1.kill j⟩
   have zT:=i2.passed t1 t2 uY Ec (s:=s) hns (ρ'.r dst);have hρe:ρ1.setR dst (ρ'.r dst)=ρ':=by
        have hb:=PI.runs_but hρ2;simp only[gw,hd] at hc;unfold ZZ at hc;rw[List.all_eq_true] at hc
        have e1:∀t,t≠dst→ρ'.r t=ρ1.r t:=fun t aB=>hb.r t (fun hm=>by
         obtain⟨p,hp,qB⟩:=List.mem_flatMap.1 hm;have:=hc p hp;simp only[Bool.and_eq_true] at this;have:=List.all_eq_true.1 this.1 t qB;exact aB (Nat.eq_of_beq_eq_true this).symm)
        have e2:∀t,ρ'.o t=ρ1.o t:=fun t=>hb.o t (fun hm=>by
         obtain⟨p,hp,qB⟩:=List.mem_flatMap.1 hm;have:=hc p hp;simp only[Bool.and_eq_true] at this;have h9:=List.isEmpty_iff.1 this.2;rw[h9] at qB;cases qB)
        have r1:bN ρ1.r dst (ρ'.r dst)=ρ'.r:=by
         funext t;rw[fb];split
         ·rename_i e;subst e;rfl
         ·rename_i aB;exact(e1 t aB).symm
        have r2:ρ1.o=ρ'.o:=funext fun t=>(e2 t).symm;cases ρ' with|mk a b=>simp only[Env.setR] at r1 r2 ⊢;rw[r1,r2]
   rw[hρe] at zT;have gQ:(fun u=>A u∨o.dst=some u)=(fun u=>A u∨u=dst):=by funext u;rw[hd];simp[eq_comm]
   rw[gQ] at hK;rw[hd];refine hK _ _ ?_ (size_put _ _ _);simp only;rw[hS];exact⟨_,_,_,zT⟩
theorem ah0 (h:Good C w0 σ0 S ρ A a w)(hC:CtxOK C σ0)(aX:db C)(hΦ:cM C Φ){ops:Array Oper}{o:Oper}(ht:∀d,o.dst=some d→¬A d∧d<a.tmps.size)
 (hj:∀j want t,o.guard=some (j,want)→(ops[j]?).bind (·.dst)=some t→A t) {r:St×List PI} (hr:uw C S ops o=some r) {ρ':Env} (aj:PI.runs Φ r.2 ρ=some ρ')
 {K:Act→World→Prop} {Q:Exit→Act→World→Prop} (hK:∀a' w',Good C w0 σ0 r.1 ρ' (fun u=>A u∨o.dst=some u) a' w'→a'.tmps.size=a.tmps.size→K a' w'):
 if Region.wanted o (yielded ops a.tmps) then o.wp C.P a w K Q else K (a.put o.dst undef) w:=by
 unfold uw at hr;split at hr
 ·rename_i q hq;cases hr;exact ahY h hC aX hΦ ht hj hq aj hK
 ·cases hr;simp[PI.runs,PI.run,B2,PE.ev,D.b_bool] at aj
end
end Cx
