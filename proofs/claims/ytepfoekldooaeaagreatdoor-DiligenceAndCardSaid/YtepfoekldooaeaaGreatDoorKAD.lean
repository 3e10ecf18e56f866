/-
  Shared texts of this claim.
-/
import Derived.Test.YtepfoekldooaeaaGreatDoorKAC
set_option linter.unusedSimpArgs false
set_option linter.unusedVariables false
namespace Cx
open Go Go.RowKit
open Classical in
noncomputable def Im.noM (σ:Im):Im:=⟨σ.c,fun k=>if σ.m k=some cK then none else σ.m k⟩
theorem Rep.noM {cap:Nat→Option CSig}{σ:Im}{t:Ty}{v:Value}{d:D}(h:Rep cap σ t v d):Rep cap σ.noM t v d:=by
 induction h with
 |int k n h1 h2=>exact .int k n h1 h2
 |bool b=>exact .bool b
 |str s h=>exact .str s h
 |agg ts vs ds h1 h2 _ ho ih=>exact .agg ts vs ds h1 h2 ih ho
 |tup ts vs ds h1 h2 _ ih=>exact .tup ts vs ds h1 h2 ih
 |nil e=>exact .nil e
 |emp e a=>exact .emp e a
 |nils e=>exact .nils e
 |nsl0 e=>exact .nsl0 e
 |nsl e k o n c xs _ hx ih=>exact .nsl e k o n c xs ih hx
 |slice e k o n c xs vs hn hc hm _ hv ih=>exact .slice e k o n c xs vs hn hc hm ih hv
 |mapnil kt et=>exact .mapnil kt et
 |map kt et r iO es hm hl hx hk _ jK Ch=>
  refine .map kt et r iO es ?_ hl hx jK Ch;have aG:σ.m r≠some cK:=fun e=>by rw[hm] at e;cases e;exact Cv hl hk rfl
  simp only[Im.noM,if_neg aG,hm]
 |ref t k o v d _ hv ih=>exact .ref t k o v d ih hv
 |fn f cs vs ds hc h1 h2 _ ih=>exact .fn f cs vs ds hc h1 h2 ih
 |fnnil as r=>exact .fnnil as r
def Im.plus (σ τ:Im):Im:=⟨fun k o=>(σ.c k o).or (τ.c k o),fun k=>(σ.m k).or (τ.m k)⟩
theorem Im.plus_le1 (σ τ:Im):σ.le (σ.plus τ):=⟨fun k o v h=>by simp[Im.plus,h],fun k v h=>by simp[Im.plus,h]⟩
theorem p6.det {w:World}{k:Nat}{x y:List (Value×Value)}(h:p6 w k x)(g:p6 w k y):x=y:=by
 rcases h with⟨_,a,c,h1,h2⟩|⟨h1,h2⟩<;>rcases g with⟨_,a',c',g1,g2⟩|⟨g1,g2⟩
 ·rw[h1] at g1;cases g1;rw[←h2,←g2]
 ·rw[h1] at g2;cases g2
 ·rw[h2] at g1;cases g1
 ·rw[h1,g1]
theorem Im.plus_le2 {σ τ:Im}{w:World}(h:σ.ok w)(g:τ.ok w):τ.le (σ.plus τ):=by
 refine⟨fun k o v e=>?_,fun k v e=>?_⟩
 ·show(σ.c k o).or (τ.c k o)=some v;cases hc:σ.c k o with
  |none=>simpa using e
  |some u=>have:=(h.c k o u hc).symm.trans (g.c k o v e);simpa using this
 ·show(σ.m k).or (τ.m k)=some v;cases hc:σ.m k with
  |none=>simpa using e
  |some u=>simpa using(h.m k u hc).det (g.m k v e)
theorem Im.plus_ok {σ τ:Im}{w:World}(h:σ.ok w)(g:τ.ok w):(σ.plus τ).ok w:=by
 refine⟨fun k o v e=>?_,fun k v e=>?_⟩
 ·change (σ.c k o).or (τ.c k o)=some v at e;cases hc:σ.c k o with
  |none=>rw[hc] at e;exact g.c k o v (by simpa using e)
  |some u=>rw[hc] at e;simp at e;subst e;exact h.c k o u hc
 ·change (σ.m k).or (τ.m k)=some v at e;cases hc:σ.m k with
  |none=>rw[hc] at e;exact g.m k v (by simpa using e)
  |some u=>rw[hc] at e;simp at e;subst e;exact h.m k u hc
theorem Im.plus_c {σ τ:Im}{k o:Nat}{v:Value}(h:(σ.plus τ).c k o=some v):σ.c k o=some v∨τ.c k o=some v:=by
 change (σ.c k o).or (τ.c k o)=some v at h;cases hc:σ.c k o with
 |none=>rw[hc] at h;exact .inr (by simpa using h)
 |some u=>rw[hc] at h;exact .inl (by simpa using h)
theorem Im.plus_m {σ τ:Im}{k:Nat}{v:List (Value×Value)}(h:(σ.plus τ).m k=some v):σ.m k=some v∨τ.m k=some v:=by
 change (σ.m k).or (τ.m k)=some v at h;cases hc:σ.m k with
 |none=>rw[hc] at h;exact .inr (by simpa using h)
 |some u=>rw[hc] at h;exact .inl (by simpa using h)
def Ty.pureT:Ty→Bool
 |.int _|.bool|.str|.nils _=>true
 |_=>false
def Ty.pure:Ty→Bool
 |.tup ts=>ts.all Ty.pureT
 |.agg ts=>ts.all Ty.pureT
 |t=>Ty.pureT t
theorem Rep.pureT {cap:Nat→Option CSig}{σ τ:Im}{t:Ty}{v:Value}{d:D}(h:Rep cap σ t v d)(hp:t.pureT=true):Rep cap τ t v d:=by
 cases h<;>simp[Ty.pureT] at hp<;>constructor<;>assumption
theorem Rep.pure {cap:Nat→Option CSig}{σ τ:Im}{t:Ty}{v:Value}{d:D}(h:Rep cap σ t v d)(hp:t.pure=true):Rep cap τ t v d:=by
 cases h with
 |agg ts vs ds h1 h2 h ho=>exact .agg ts vs ds h1 h2 (fun i t hi=>(h i t hi).pureT (List.all_eq_true.1 hp t (List.mem_of_getElem? hi))) ho
 |tup ts vs ds h1 h2 h=>exact .tup ts vs ds h1 h2 (fun i t hi=>(h i t hi).pureT (List.all_eq_true.1 hp t (List.mem_of_getElem? hi)))
 |int k n h1 h2=>exact .int k n h1 h2
 |bool b=>exact .bool b
 |str s h=>exact .str s h
 |nils e=>exact .nils e
 |_=>simp[Ty.pure,Ty.pureT] at hp
def po (C:Ctx)(s:Sig)(σ':Im)(w w':World)(v:Value)(d:D):Prop:=
 match s.mode with
 |.dat=>Rep C.cap σ' s.res v d
 |.it _=>True
 |.ob ..=>True
 |.row T e=>∃cells xs,d=.list xs∧w'.ownsRow w.heap.size T e.size v xs.length cells∧gy C.cap σ' e cells xs∧∀k,v.ownBlock=some k→(∀o,σ'.c k o=none)∧σ'.m k=none
def pj (C:Ctx)(σ:Im)(ts:List Ty)(args:List Value)(ds:List D):Prop:=
 args.length=ts.length∧ds.length=ts.length∧∀(i:Nat) (t:Ty),ts[i]?=some t→Rep C.cap σ t (args.getD i undef) (ds.getD i .none)
def kC (C:Ctx)(f:Nat)(s:Sig)(ds:List D)(d:D):Prop:=
 ∀(σ:Im) (w:World) (args:Array Value),σ.ok w→CtxOK C σ→pj C σ s.args args.toList ds→
  Calls C.P f args w fun e w'=>∃v σ',e=.returned v∧σ.le σ'∧σ'.ok w'∧Below w.heap.size w w'∧
   (∀k o x,σ'.c k o=some x→σ.c k o=some x∨w.heap.size≤k)∧(∀k x,σ'.m k=some x→σ.m k=some x∨w.heap.size≤k)∧po C s σ' w w' v d
def dN:List (Nat×Ob)→Nat→Ob
 |[],_=>.dead
 |x::l,j=>bif Nat.beq x.1 j then x.2 else dN l j
def mE:List (Nat×Ob)→List D→Nat→D
 |x::l,d::ds,j=>bif Nat.beq x.1 j then d else mE l ds j
 |_,_,_=>.none
def fp (shs:List Sh)(obs:List (Nat×Ob)):St:=⟨fun t=>shs.getD t .none,fun j=>dN obs j,fun _=>0⟩
def lI (obs:List (Nat×Ob))(ds os:List D):Env:=⟨fun t=>ds.getD t .none,fun j=>mE obs os j⟩
def mz:Sh→Bool
 |.dat _=>true
 |_=>false
def p7:Mode→Bool
 |.ob ..=>true
 |_=>false
def ry:Sh→Bool
 |.none|.dat _|.obj ..|.ptr ..|.fclo ..=>true
 |_=>false
def Ls:Ob→Bool
 |.row ..|.mp ..=>true
 |.box _ shs=>shs.all ry
 |_=>false
def Cy (shs:List Sh)(obs:List (Nat×Ob)):Bool:=shs.all ry&&obs.all fun x=>Ls x.2
def lb (C:Ctx)(f:Nat)(shs:List Sh)(obs:List (Nat×Ob))(res:Ty)(ds:List D)(d:D):Prop:=
 ∀(N:Nat) (σ:Im) (own:Nat→Option Nat) (hv:Nat→Value) (w:World) (args:Array Value) (cx:Nat→Prop),Cy shs obs=true→σ.ok w→CtxOK C σ→(∀k,σ.m k≠some cK)→N≤w.heap.size→args.size=shs.length→
  (∀k j,own k=some j→N≤k∧k<w.heap.size∧(∀o,σ.c k o=none)∧σ.m k=none)→
  (∀k,cx k→k<w.heap.size∧own k=none∧(∀o,σ.c k o=none)∧σ.m k=none)→
  (∀t,aJ C (fp shs obs) (lI obs ds (ds.drop shs.length)) σ hv (shs.getD t .none) (args.getD t undef) (ds.getD t .none))→
  (∀j,bX C (fp shs obs) (lI obs ds (ds.drop shs.length)) σ own hv w N j (dN obs j))→
  Calls C.P f args w fun e w'=>∃v σ' own' hv' dr os,e=.returned v∧d=.tup (dr::os)∧os.length=obs.length∧σ.le σ'∧σ'.ok w'∧Below 0 w w'∧
   (∀k,k<w.heap.size→own k=none→w'.heap[k]?=w.heap[k]?)∧
   (∀k o x,σ'.c k o=some x→(σ.c k o=some x∨N≤k)∧¬cx k)∧(∀k x,σ'.m k=some x→(σ.m k=some x∨N≤k)∧¬cx k)∧(∀k,σ'.m k=some cK→N≤k→k<w.heap.size→own k≠none)∧
   (∀k j,own' k=some j→N≤k∧k<w'.heap.size∧(∀o,σ'.c k o=none)∧σ'.m k=none∧(k<w.heap.size→own k≠none))∧
   (∀(t:Nat) (sh:Sh),shs[t]?=some sh→mz sh=false→aJ C (fp shs obs) (lI obs ds os) σ' hv' sh (args.getD t undef) (ds.getD t .none))∧
   (∀j,bX C (fp shs obs) (lI obs ds os) σ' own' hv' w' N j (dN obs j))∧Rep C.cap σ' res v dr
theorem aJ.ctx {C C':Ctx}(j2:C'.cap=C.cap){S:St}{ρ:Env}{σ:Im}{hv:Nat→Value}{s:Sh}(hp:ry s=true){v:Value}{d:D}(h:aJ C S ρ σ hv s v d):aJ C' S ρ σ hv s v d:=by
 cases s with
 |dat t=>show Rep C'.cap σ t v d;rw[j2];exact h
 |opt gs s=>cases hp
 |eptr j ver a b=>cases hp
 |yv=>cases hp
 |_=>exact h
theorem bX.ctx {C C':Ctx}(j2:C'.cap=C.cap){S:St}{ρ:Env}{σ:Im}{own:Nat→Option Nat}{hv:Nat→Value}{w:World}{N j:Nat}{ob:Ob}(hp:Ls ob=true∨ob=.dead)(h:bX C S ρ σ own hv w N j ob):bX C' S ρ σ own hv w N j ob:=by
 rcases hp with hp|rfl
 ·cases ob with
  |row T e=>obtain⟨cells,xs,h1,h2,h3,h4⟩:=h;exact⟨cells,xs,h1,h2,by rw[j2];exact h3,h4⟩
  |mp kt et=>obtain⟨k,arr,clock,es,h1,h2,h3,h4,h5,h6,h7⟩:=h;exact⟨k,arr,clock,es,h1,h2,h3,h4,h5,h6,by rw[j2];exact h7⟩
  |box ag shs=>
   obtain⟨k,cs,T,ds,h1,h2,h3,h4,h5,h6,h7⟩:=h;exact⟨k,cs,T,ds,h1,h2,h3,h4,h5,h6,fun i s hs=>⟨(h7 i s hs).1,(h7 i s hs).2.ctx j2 (List.all_eq_true.1 hp s (List.mem_of_getElem? hs))⟩⟩
  |_=>cases hp
 ·trivial
theorem aa7 {obs:List (Nat×Ob)}(h:(obs.all fun x=>Ls x.2)=true)(j:Nat):Ls (dN obs j)=true∨dN obs j=.dead:=by
 induction obs with
 |nil=>exact .inr rfl
 |cons x l ih=>
  simp only[List.all_cons,Bool.and_eq_true] at h;simp only[dN];cases hb:Nat.beq x.1 j
  ·exact ih h.2
  ·exact .inl h.1
theorem lb.ctx {C C':Ctx}{f:Nat}{shs:List Sh}{obs:List (Nat×Ob)}{res:Ty}{ds:List D}{d:D}(h:lb C f shs obs res ds d)(hP:C'.P=C.P)(j2:C'.cap=C.cap)(Pn:C'.glob=C.glob):lb C' f shs obs res ds d:=by
 intro N σ own hv w args cx hp aE hC bC hN aN bS j4 h1 h2;have aS:=hp;simp only[Cy,Bool.and_eq_true] at aS;have q6:∀t s,shs[t]?=some s→ry s=true:=fun t s hs=>List.all_eq_true.1 aS.1 s (List.mem_of_getElem? hs);have hC':CtxOK C σ:=⟨fun g x hx=>by have:=hC.glob g x (by rw[Pn];exact hx);rwa [j2] at this⟩
 have:=h N σ own hv w args cx hp aE hC' bC hN aN bS j4 (fun t=>by
  cases hs:shs[t]? with
  |none=>rw[List.getD_eq_getElem?_getD,hs];trivial
  |some s=>have:=h1 t;rw[List.getD_eq_getElem?_getD,hs] at this ⊢;exact this.ctx j2.symm (q6 t s hs)) (fun j=>(h2 j).ctx j2.symm (aa7 aS.2 j))
 rw[hP];refine this.mono fun e w' hh=>?_;obtain⟨v,σ',own',hv',dr,os,g1,g2,g3,g4,g5,g6,g7,g8,g9,g10,g11,g12,g13,g14⟩:=hh;exact⟨v,σ',own',hv',dr,os,g1,g2,g3,g4,g5,g6,g7,g8,g9,g10,g11,fun t sh hs hd=>(g12 t sh hs hd).ctx j2 (q6 t sh hs),fun j=>(g13 j).ctx j2 (aa7 aS.2 j),by rw[j2];exact g14⟩
def cW (C:Ctx)(Φ:aU):Prop:=∀f ds d,Φ f ds=some d→∀s,C.sig f=some s→(p7 s.mode=false→kC C f s ds d)∧∀shs obs,s.mode=.ob shs obs→lb C f shs obs s.res ds d
def lF:List Ty→Ty→Option (List Ty)
 |[.fn ys .bool],.tup []=>some ys
 |_,_=>none
def dt (C:Ctx):Prop:=(∀f cs,C.cap f=some cs→lF cs.args cs.res=none→C.sig f=some ⟨cs.args++cs.caps,cs.res,.dat⟩)∧∀f s,C.sig f=some s→∃fn,C.P.funcs[f]?=some fn∧fn.body.isSome=true∧(fn.name== "runtime.NumGoroutine")=false
def bZ (S:St)(gs:List (Nat×Bool)):List Operand→List Nat
 |[]=>[]
 |x::xs=>
  match gf S gs x with
  |.obj j ver=>bif Nat.beq ver (S.ver j)&&mA (S.o j) then j::bZ S gs xs else bZ S gs xs
  |_=>bZ S gs xs
def hG (gs:List (Nat×Bool))(s:Sh):Sh:=
 match gs with
 |[]=>s
 |_=>.opt gs s
def St.fzs (S:St)(js:List Nat):St:=js.foldl St.fz S
def nX (C:Ctx)(S:St)(gs:List (Nat×Bool))(dst:Nat)(f:Nat)(args:List Operand):Option (St×Sh×List PI):=
 (C.sig f).bind fun s=>
    match s.mode with
    |.dat=>
     (kZ C (S.fzs (bZ S gs args)) gs args).bind fun u=>
       bif Ty.subs u.1 s.args then some (bif s.res.pure then S else S.fzs (bZ S gs args),.dat s.res,[.call gs dst f u.2]) else Option.none
    |_=>Option.none
def AX (C:Ctx)(S:St)(dst:Nat)(f:Nat)(args:List Operand):la:=
 (C.sig f).bind fun s=>
    match s.mode with
    |.row T e=>
     (kZ C (S.fzs (bZ S [] args)) [] args).bind fun u=>
       bif Ty.subs u.1 s.args then some (mkObj (bif e.pure then S else S.fzs (bZ S [] args)) dst (.row T e),[.call [] dst f u.2,.setO dst (.r dst),.setR dst (.con .none)]) else Option.none
    |_=>Option.none
def mV (C:Ctx)(S:St)(gs:List (Nat×Bool))(dst:Nat)(x:Operand)(args:List Operand):Option (St×Sh×List PI):=
 match use C S gs x with
 |some (.fn as r,e)=>
  match lF as r with
  |some _=>Option.none
  |Option.none=>
  (kZ C (S.fzs (bZ S gs args)) gs args).bind fun u=>
    bif Ty.subs u.1 as then some (bif r.pure then S else S.fzs (bZ S gs args),.dat r,[.callc gs dst e u.2]) else Option.none
 |_=>Option.none
theorem pI:∀(js:List Nat) (S:St),(S.fzs js).ver=S.ver∧(S.fzs js).r=S.r
 |[],S=>⟨rfl,rfl⟩
 |j::js,S=>by
  obtain⟨h1,h2⟩:=pI js (S.fz j);obtain⟨k1,k2⟩:=G4 S j;exact⟨h1.trans k1,h2.trans k2⟩
section
variable {C:Ctx} {S:St} {ρ:Env} {σ:Im} {own:Nat→Option Nat} {hv:Nat→Value} {w0:World} {σ0:Base} {A:Nat→Prop} {a:Act} {w:World} {gs:List (Nat×Bool)} {Φ:aU} {dst:Nat}
theorem Inv.fzs:∀(js:List Nat) {S:St} {σ:Im} {own:Nat→Option Nat},Inv C S ρ σ own hv w0 σ0 A a w→∃σ' own',σ.le σ'∧Inv C (S.fzs js) ρ σ' own' hv w0 σ0 A a w
 |[],S,σ,own,h=>⟨σ,own,.refl σ,h⟩
 |j::js,S,σ,own,h=>by
  obtain⟨σ1,dp,hle,h1⟩:=h.fz j;obtain⟨σ2,gT,lx,h2⟩:=Inv.fzs js h1;exact⟨σ2,gT,hle.trans lx,h2⟩
theorem Inv.world (h:Inv C S ρ σ own hv w0 σ0 A a w){σ':Im}{w':World}(hle:σ.le σ')(aE:σ'.ok w')(hb:Below w.heap.size w w')(df:∀k o x,σ'.c k o=some x→σ.c k o=some x∨w.heap.size≤k)
 (cT:∀k x,σ'.m k=some x→σ.m k=some x∨w.heap.size≤k):Inv C S ρ σ' own hv w0 σ0 A a w':=by
 have aN:=h.below.size;refine h.step (fun _=>False) rfl hle aE (fun k o x hx=>(df k o x hx).imp id (fun e=>⟨by omega,.inr e⟩)) (fun k x hx=>(cT k x hx).imp id (fun e=>⟨by omega,.inr e⟩)) (hb.mono aN) (.refl S hv) (fun j _=>⟨rfl,rfl,rfl,fun k hk=>⟨hk,hb.block k (h.owns k j hk).2.1⟩⟩) (fun _ hf=>hf.elim) (fun k j hk=>?_) (fun _=>id) (fun t=>.inl ⟨rfl,rfl,rfl⟩) (fun _ _=>rfl) (fun k hk _=>hb.block k hk) (fun k i hk=>.inl ⟨i,hk⟩) (fun _ hf=>hf.elim);obtain⟨g1,g2,g3,g4⟩:=h.owns k j hk;refine⟨g1,by have:=hb.size;omega,fun o=>?_,?_⟩
 ·cases hc:σ'.c k o with
  |none=>rfl
  |some x=>rcases df k o x hc with e|e
           ·rw[g3 o] at e;cases e
           ·omega
 ·cases hc:σ'.m k with
  |none=>rfl
  |some x=>rcases cT k x hc with e|e
           ·rw[g4] at e;cases e
           ·omega
theorem CtxOK.mono {C:Ctx}{σ σ':Im}(h:CtxOK C σ)(hle:σ.le σ'):CtxOK C σ':=⟨fun g x hx=>(h.glob g x hx).mono hle⟩
theorem M4 (h:Inv C S ρ σ own hv w0 σ0 A a w)(hC:CtxOK C σ0)(hg:holds gs ρ=true){xs:List Operand}{u:List Ty×List PE}{ts:List Ty}(hu:kZ C S gs xs=some u)(hs:Ty.subs u.1 ts=true):pj C σ ts (xs.map a.eval) (PE.evs ρ u.2):=by
 obtain⟨l1,l2,aR⟩:=aia h hC hg _ _ hu;have hl:=Ty.subs_len _ _ hs;refine⟨by rw[List.length_map];omega,by rw[PE.evs_eq,List.length_map];omega,fun i t hi=>?_⟩;obtain⟨s,dY,cH⟩:=Ty.subs_get _ _ hs i t hi;exact(aR i s dY).sub cH
theorem T3 {o:Oper}{f:Nat}{args:Array Operand}{ts:Array TypeId}(ba:dt C){s:Sig}(hs:C.sig f=some s)(ho:o.op=.call {callee:=.value (.func f),args:=args,argTypes:=ts}):
 (execOp a.eval o).run C.P w=.ok (.enter f (args.map a.eval)) w:=by
 obtain⟨fn,h1,h2,h3⟩:=ba.2 f s hs;obtain⟨bd,kJ⟩:=Option.isSome_iff_exists.1 h2;have h4:¬fn.name= "runtime.NumGoroutine" :=by simpa using h3
 simp[execOp,ho,resolve,Act.eval,Deferred.ofValue,invoke,callFunc,h1,kJ,h4]
theorem ahj {o:Oper}{x:Operand}{f:Nat}{vs:List Value}{args:Array Operand}{ts:Array TypeId}(ba:dt C){s:Sig}(hs:C.sig f=some s)(hx:a.eval x=.func (.func f) #[] vs.toArray)(ho:o.op=.call {callee:=.value x,args:=args,argTypes:=ts}):
 (execOp a.eval o).run C.P w=.ok (.enter f (args.map a.eval++vs.toArray)) w:=by
 obtain⟨fn,h1,h2,h3⟩:=ba.2 f s hs;obtain⟨bd,kJ⟩:=Option.isSome_iff_exists.1 h2;have h4:¬fn.name= "runtime.NumGoroutine" :=by simpa using h3
 simp[execOp,ho,resolve,hx,Deferred.ofValue,invoke,callFunc,h1,kJ,h4]
theorem XI (h:Inv C S ρ σ own hv w0 σ0 A a w)(hC:CtxOK C σ0)(ht:¬A dst)(ak:dst<a.tmps.size)(dy:∀g,g∈gs→A g.1)(hg:holds gs ρ=true){f:Nat}{s:Sig}{js:List Nat}{vals:List Value}{ds:List D}{d:D}(oy:s.mode=.dat)(hfn:kC C f s ds d)
 (jb:∀σ1 dp,σ.le σ1→Inv C (S.fzs js) ρ σ1 dp hv w0 σ0 A a w→pj C σ1 s.args vals ds) {K:Act→World→Prop} {Q:Exit→Act→World→Prop}
 (hK:∀a' w',Good C w0 σ0 ((bif s.res.pure then S else S.fzs js).setR dst (hG gs (.dat s.res))) (ρ.setR dst d) (fun u=>A u∨u=dst) a' w'→a'.tmps.size=a.tmps.size→K a' w'):
 Calls C.P f vals.toArray w (fun e lY=>match e with|.returned v=>K (a.put (some dst) v) lY|.panicked chain=>Q (.panic chain) a lY|.outgrown=>LetsOut Q):=by
 obtain⟨σ1,dp,lu,h1⟩:=Inv.fzs js h;have uA:=hfn σ1 w vals.toArray h1.ok (hC.mono h1.le) (by simpa using jb σ1 dp lu h1);refine uA.mono fun e w' hh=>?_;obtain⟨v,σ',rfl,hle,aE,hb,df,cT,kN⟩:=hh;simp only[po,oy] at kN;refine hK _ _ ?_ (size_put _ _ _);have hh:holds gs (ρ.setR dst d)=true:=by rw[BW (t:=dst) (d:=d) fun g hm e=>ht (by rw[←e];exact dy g hm)];exact hg
 have put:∀{S2:St} {σ2:Im} {gT:Nat→Option Nat},Inv C S2 ρ σ2 gT hv w0 σ0 A a w'→Rep C.cap σ2 s.res v d→Good C w0 σ0 (S2.setR dst (hG gs (.dat s.res))) (ρ.setR dst d) (fun u=>A u∨u=dst) (a.put (some dst) v) w':=by
  intro S2 σ2 gT h2 hr;cases gs with
  |nil=>exact⟨_,_,_,h2.setReg ht (s:=.dat s.res) hr ak (fun _ _ e=>by cases e)⟩
  |cons g bH=>
   refine⟨_,_,_,h2.setReg ht (s:=.opt (g::bH) (.dat s.res)) ⟨fun _=>hr,fun e=>absurd (hh.symm.trans e) (by decide)⟩ ak (fun gs s e=>?_)⟩;cases e;exact⟨dy,fun _ _ e=>by cases e⟩
 cases hp:s.res.pure with
 |true=>
  simp only[cond_true];exact put (h.world (.refl σ) (h.ok.below hb) hb (fun _ _ _ hx=>.inl hx) (fun _ _ hx=>.inl hx)) (kN.pure hp)
 |false=>
  simp only[cond_false];exact put (h1.world hle aE hb df cT) kN
theorem N9 {o:Oper}{f:Nat}{args:Array Value}{K:Act→World→Prop}{Q:Exit→Act→World→Prop}(hd:o.dst=some dst)(hx:(execOp a.eval o).run C.P w=.ok (.enter f args) w)
 (h:Calls C.P f args w (fun e lY=>match e with|.returned v=>K (a.put (some dst) v) lY|.panicked chain=>Q (.panic chain) a lY|.outgrown=>LetsOut Q)):o.wp C.P a w K Q:=by
 simp only[Oper.wp,hx,Oper.upon,hd];refine h.mono fun e lY hh=>?_;cases e<;>exact hh
theorem aqd (h:Inv C S ρ σ own hv w0 σ0 A a w)(hC:CtxOK C σ0)(ba:dt C)(hΦ:cW C Φ)(ht:¬A dst)(ak:dst<a.tmps.size)(dy:∀g,g∈gs→A g.1)(hg:holds gs ρ=true){f:Nat}{args:Array Operand}{ts:Array TypeId}{r:St×Sh×List PI}
 (hr:nX C S gs dst f args.toList=some r) {o:Oper} (hd:o.dst=some dst) (ho:o.op=.call {callee:=.value (.func f),args:=args,argTypes:=ts}):bT C w0 σ0 Φ S ρ A a w o (r.1.setR dst (hG gs r.2.1),r.2.2):=by
 simp only[nX,Option.bind_eq_some_iff] at hr;obtain⟨s,hs,hr⟩:=hr;split at hr
 case h_2=>cases hr
 rename_i oy;simp only[Option.bind_eq_some_iff] at hr;obtain⟨u,hu,hr⟩:=hr;cases cq:Ty.subs u.1 s.args<;>simp only[cq,cond_true,cond_false] at hr
 ·cases hr
 cases hr;intro ρ' aq K Q hK;simp only[PI.runs,PI.run,hg,cond_true,Option.bind_eq_some_iff,Option.map_eq_some_iff] at aq;obtain⟨ρ1,⟨d,bm,rfl⟩,aq⟩:=aq;cases aq;have hfn:=(hΦ f _ d bm s hs).1 (by rw[oy];rfl);refine N9 hd (T3 ba hs ho) ?_;have ly:args.map a.eval=(args.toList.map a.eval).toArray:=by apply Array.ext';rw[Array.toList_map]
 rw[ly];have jd:(fun u=>A u∨o.dst=some u)=(fun u=>A u∨u=dst):=by funext u;rw[hd];simp[eq_comm]
 rw[jd] at hK;exact XI h hC ht ak dy hg (js:=bZ S gs args.toList) oy hfn (fun σ1 dp _ h1=>M4 h1 hC hg hu cq) hK
theorem ap8 (h:Inv C S ρ σ own hv w0 σ0 A a w)(hC:CtxOK C σ0)(ba:dt C)(hΦ:cW C Φ)(ht:¬A dst)(ak:dst<a.tmps.size)(dy:∀g,g∈gs→A g.1)(hg:holds gs ρ=true){x:Operand}{args:Array Operand}{ts:Array TypeId}{r:St×Sh×List PI}
 (hr:mV C S gs dst x args.toList=some r) {o:Oper} (hd:o.dst=some dst) (ho:o.op=.call {callee:=.value x,args:=args,argTypes:=ts}):bT C w0 σ0 Φ S ρ A a w o (r.1.setR dst (hG gs r.2.1),r.2.2):=by
 unfold mV at hr;split at hr
 case h_2=>cases hr
 rename_i as r0 e Qg;split at hr
 case h_1=>cases hr
 rename_i Pp;simp only[Option.bind_eq_some_iff] at hr;obtain⟨u,hu,hr⟩:=hr;cases cq:Ty.subs u.1 as<;>simp only[cq,cond_true,cond_false] at hr
 ·cases hr
 cases hr;have hx:=bW h hC hg Qg;intro ρ' aq K Q hK;simp only[PI.runs,PI.run,hg,cond_true,Option.bind_eq_some_iff] at aq;obtain⟨ρ1,sJ,aq⟩:=aq;cases aq;split at sJ
 case h_2=>cases sJ
 rename_i f caps bJ;simp only[Option.map_eq_some_iff] at sJ;obtain⟨d,bm,rfl⟩:=sJ;rw[bJ] at hx;generalize fA:a.eval x=xv at hx;generalize aY:Ty.fn as r0=ty at hx;cases hx with
 |fn f cs vs ds hc h1 h2 aR=>
  cases aY;have hs:=ba.1 f cs hc Pp;have hfn:=(hΦ f _ d bm _ hs).1 rfl;refine N9 hd (ahj ba hs fA ho) ?_;have ly:args.map a.eval++vs.toArray=(args.toList.map a.eval++vs).toArray:=by apply Array.ext';simp
  rw[ly];have jd:(fun u=>A u∨o.dst=some u)=(fun u=>A u∨u=dst):=by funext u;rw[hd];simp[eq_comm]
  rw[jd] at hK;refine XI h hC ht ak dy hg (js:=bZ S gs args.toList) (s:=⟨cs.args++cs.caps,cs.res,.dat⟩) rfl hfn (fun σ1 dp lu i1=>?_) hK;obtain⟨g1,g2,g3⟩:=M4 i1 hC hg hu cq;refine⟨by simp only[List.length_append,g1,h1],by simp only[List.length_append,g2,h2],fun i t hi=>?_⟩;rw[List.getElem?_append] at hi;split at hi
  ·rename_i ak;have:=g3 i t hi;rw[List.getD_eq_getElem?_getD,List.getD_eq_getElem?_getD,List.getElem?_append_left (by omega),List.getElem?_append_left (by omega)];simpa [List.getD_eq_getElem?_getD] using this
  ·rename_i gn;have:=(aR _ t hi).mono lu;rw[List.getD_eq_getElem?_getD,List.getD_eq_getElem?_getD,List.getElem?_append_right (by omega),List.getElem?_append_right (by omega),g1,g2];simpa [List.getD_eq_getElem?_getD] using this
theorem aqa (h:Inv C S ρ σ own hv w0 σ0 A a w)(hC:CtxOK C σ0)(ba:dt C)(hΦ:cW C Φ)(ht:¬A dst)(ak:dst<a.tmps.size){f:Nat}{args:Array Operand}{ts:Array TypeId}{r:St×List PI}
 (hr:AX C S dst f args.toList=some r) {o:Oper} (hd:o.dst=some dst) (ho:o.op=.call {callee:=.value (.func f),args:=args,argTypes:=ts}):bT C w0 σ0 Φ S ρ A a w o r:=by
 simp only[AX,Option.bind_eq_some_iff] at hr;obtain⟨s,hs,hr⟩:=hr;split at hr
 case h_2=>cases hr
 rename_i T e oy;simp only[Option.bind_eq_some_iff] at hr;obtain⟨u,hu,hr⟩:=hr;cases cq:Ty.subs u.1 s.args<;>simp only[cq,cond_true,cond_false] at hr
 ·cases hr
 cases hr;intro ρ' aq K Q hK;have hgt:holds ([]:List (Nat×Bool)) ρ=true:=rfl;simp only[PI.runs,PI.run,hgt,cond_true,Option.bind_eq_some_iff,Option.map_eq_some_iff] at aq;obtain⟨ρ1,⟨d,bm,rfl⟩,ρ2,g2,ρ3,g3,g4⟩:=aq;cases g2;cases g3;cases g4;have hfn:=(hΦ f _ d bm s hs).1 (by rw[oy];rfl);obtain⟨σ1,dp,lu,h1⟩:=Inv.fzs (bZ S [] args.toList) h;have ly:args.map a.eval=(args.toList.map a.eval).toArray:=by apply Array.ext';rw[Array.toList_map]
 refine N9 hd (T3 ba hs ho) ?_;rw[ly];have uA:=hfn σ1 w (args.toList.map a.eval).toArray h1.ok (hC.mono h1.le) (by simpa using M4 h1 hC rfl hu cq);refine uA.mono fun e' w' hh=>?_;obtain⟨v,σ',rfl,hle,aE,hb,df,cT,kN⟩:=hh;simp only[po,oy] at kN;obtain⟨cells,xs,rfl,bS,ia,pP⟩:=kN;refine hK _ _ ?_ (size_put _ _ _);have jd:(fun u=>A u∨o.dst=some u)=(fun u=>A u∨u=dst):=by funext u;rw[hd];simp[eq_comm]
 rw[jd];have main:∀{S2:St} {σ1 σ2:Im} {gT:Nat→Option Nat},Inv C S2 ρ σ1 gT hv w0 σ0 A a w→σ1.le σ2→σ2.ok w'→(∀k o x,σ2.c k o=some x→σ1.c k o=some x∨w.heap.size≤k)→(∀k x,σ2.m k=some x→σ1.m k=some x∨w.heap.size≤k)→gy C.cap σ2 e cells xs→(∀k,v.ownBlock=some k→(∀o,σ2.c k o=none)∧σ2.m k=none)→
  Good C w0 σ0 (mkObj S2 dst (.row T e)) ((ρ.setO dst (.list xs)).setR dst .none) (fun u=>A u∨u=dst) (a.put (some dst) v) w':=by
  intro S2 σ1 σ2 gT h2 lx PO awi awk avC avF;have aN:=h1.below.size
  have kM:=h2.newOσ dst (.row T e) (.list xs) v (fun k=>decide (v.ownBlock=some k)) lx PO awi awk hb (fun k hk=>bS.lt k (by simpa using hk)) (fun k hk=>avF k (by simpa using hk)) ⟨cells,xs,by simp[Env.setO,aQ],by
        rw[aQ];refine⟨bS.1,?_⟩;rcases bS.2 with e1|⟨g,cap,cur,e1,e2,e3⟩
        ·exact .inl e1
        ·exact .inr ⟨g,cap,cur,e1,by omega,e3⟩,avC,fun k hk=>by rw[aQ] at hk;simp[fF,hk]⟩
  have aae:=kM.setObj ht (j:=dst) (v:=v) (aQ _ _ _) ak;have e:(S2.newO dst (.row T e)).ver dst=S2.ver dst+1:=aQ _ _ _;rw[e] at aae;exact⟨_,_,_,aae⟩
 have eρ:((ρ.setR dst (.list xs)).setO dst ((PE.r dst).ev (ρ.setR dst (.list xs)))).setR dst ((PE.con D.none).ev ((ρ.setR dst (.list xs)).setO dst ((PE.r dst).ev (ρ.setR dst (.list xs)))))=(ρ.setO dst (.list xs)).setR dst .none:=by
  have:∀d1 d2:D,bV (bV ρ.r dst d1) dst d2=bV ρ.r dst d2:=by
   intro d1 d2;funext i;simp only[fL];split<;>rfl
  simp[Env.setR,Env.setO,PE.ev,aQ,this]
 show Good C w0 σ0 _ _ _ _ _;rw[eρ];cases hp:e.pure with
 |true=>
  simp only[cond_true];refine main h (.refl σ) (h.ok.below hb) (fun _ _ _ hx=>.inl hx) (fun _ _ hx=>.inl hx) ?_ (fun k hk=>?_)
  ·obtain⟨vs,k1,k2⟩:=ia;exact⟨vs,fun i x hx=>(k1 i x hx).pure hp,k2⟩
  ·obtain⟨f1,f2⟩:=pP k hk;refine⟨fun o=>?_,?_⟩
   ·cases hc:σ.c k o with
    |none=>rfl
    |some x=>have:=hle.c _ _ _ (lu.c _ _ _ hc);rw[f1 o] at this;cases this
   ·cases hc:σ.m k with
    |none=>rfl
    |some x=>have:=hle.m _ _ (lu.m _ _ hc);rw[f2] at this;cases this
 |false=>
  simp only[cond_false];exact main h1 hle aE df cT ia pP
end
def gK:Nat:=1000000013
abbrev mS:=Sh×Option (Ty×PE)
def Eo (C:Ctx)(S:St)(x:Operand):mS:=(gf S [] x,use C S [] x)
def XK (c:Nat×Nat):mS:=(.ptr c.1 c.2 0,none)
def cw:List Nat→List Nat→Nat→Option Nat
 |i::is,j::js,k=>bif Nat.beq i k then some j else cw is js k
 |_,_,_=>none
def aBa:Sh→Sh→List (Nat×Nat)
 |.obj i _,.obj j _=>[(i,j)]
 |.ptr i _ _,.ptr j _ _=>[(i,j)]
 |.fclo _ a,.fclo _ b=>(a.zip b).map fun x=>(x.1.1,x.2.1)
 |_,_=>[]
def R1:List Sh→List Sh→List (Nat×Nat)
 |a::as,b::bs=>aBa a b++R1 as bs
 |_,_=>[]
def aA9:Ob→Ob→List (Nat×Nat)
 |.box _ a,.box _ b=>R1 a b
 |_,_=>[]
def aa8:List (Nat×Nat)→Nat→Nat
 |[],_=>gK
 |x::l,i=>bif Nat.beq x.1 i then x.2 else aa8 l i
def azs (S:St)(obs:List (Nat×Ob))(p:List (Nat×Nat)):List (Nat×Nat):=p++p.flatMap fun x=>aA9 (dN obs x.1) (S.o x.2)
def Yy (S:St)(shs:List Sh)(obs:List (Nat×Ob))(acts:List mS):List Nat:=obs.map fun o=>aa8 (azs S obs (R1 shs (acts.map (·.1)))) o.1
section
variable (ver:Nat→Nat) (is js:List Nat)
def DS:List (Nat×Nat)→Option (List (Nat×Nat))
 |[]=>some []
 |x::l=>bif Nat.beq x.2 0 then(cw is js x.1).bind fun j=>(DS l).map fun r=>(j,ver j)::r else none
def ku:Sh→Option Sh
 |.dat t=>some (.dat t)
 |.none=>some .none
 |.obj i v=>bif Nat.beq v 0 then(cw is js i).map fun j=>.obj j (ver j) else none
 |.ptr i v off=>bif Nat.beq v 0 then(cw is js i).map fun j=>.ptr j (ver j) off else none
 |.fclo f caps=>(DS ver is js caps).map (.fclo f)
 |_=>none
def DT:List Sh→Option (List Sh)
 |[]=>some []
 |s::l=>(ku ver is js s).bind fun a=>(DT l).map (a::·)
def oY:Ob→Option Ob
 |.row T e=>some (.row T e)
 |.mp a b=>some (.mp a b)
 |.box ag shs=>(DT ver is js shs).map (.box ag)
 |_=>none
end
def Bd (c:Sh):Sh→Bool
 |.none=>true
 |.dat b=>match c with|.dat a=>Ty.sub a b|_=>false
 |x=>Sh.beq c x
def wX:List Sh→List Sh→Bool
 |[],[]=>true
 |a::as,b::bs=>Bd a b&&wX as bs
 |_,_=>false
def wW:Ob→Ob→Bool
 |.box x a,.box y b=>(x==y)&&wX a b
 |.row T a,.row U b=>Nat.beq T U&&Ty.beq a b
 |.mp a b,.mp c d=>Ty.beq a c&&Ty.beq b d
 |_,_=>false
def pH (S:St)(is js:List Nat):List (Nat×Ob)→List Nat→Bool
 |[],[]=>true
 |o::obs,j::jl=>(match oY S.ver is js o.2 with|some x=>wW (S.o j) x|none=>false)&&pH S is js obs jl
 |_,_=>false
def Bb (S:St)(is js:List Nat)(a:mS)(s:Sh):Option PE:=
 match s with
 |.dat t=>(match a.2 with|some x=>bif Ty.sub x.1 t then some x.2 else none|none=>none)
 |.none=>some (.con .none)
 |s=>(match ku S.ver is js s with|some x=>bif Sh.beq a.1 x then some (.con .none) else none|none=>none)
def sk (S:St)(is js:List Nat):List mS→List Sh→Option (List PE)
 |[],[]=>some []
 |a::as,s::ss=>(Bb S is js a s).bind fun e=>(sk S is js as ss).map (e::·)
 |_,_=>none
def nW:List Sh→List Nat
 |[]=>[]
 |.obj i _::l=>i::nW l
 |.ptr i _ _::l=>i::nW l
 |.fclo _ c::l=>c.map (·.1)++nW l
 |_::l=>nW l
def aF (l:List Nat)(x:Nat):Bool:=l.any (Nat.beq x)
def tP (ver:Nat→Nat)(shs:List Sh)(is js:List Nat):Nat→Nat:=fun j=>match cw js is j with|some i=>bif aF (nW shs) i then ver j else ver j+1|none=>ver j
def St.handed (S:St)(shs:List Sh)(obs:List (Nat×Ob))(is js:List Nat):St:=
 ⟨S.r,fun j=>match cw js is j with|some i=>(match oY (tP S.ver shs is js) is js (dN obs i) with|some o=>o|none=>.dead)|none=>S.o j,tP S.ver shs is js⟩
def wZ (S:St):List Operand→List Sh→List Nat
 |x::xs,s::ss=>(bif mz s then bZ S [] [x] else[])++wZ S xs ss
 |_,_=>[]
def DZ:List Nat→Nat→List PI
 |[],_=>[]
 |j::js,k=>.setO j (.tget (.o gK) k)::DZ js (k+1)
def Oq (S:St)(res:Ty)(f:Nat)(shs:List Sh)(obs:List (Nat×Ob))(acts:List mS)(is js:List Nat):Option (St×Ty×List PI):=
 (sk S is js acts shs).bind fun es=>
    bif Cy shs obs&&(ji is&&ji js&&pH S is js obs js&&ni (S.o gK)&& !aF js gK) then some (S.handed shs obs is js,res,.mcall gK f (es++js.map .o)::DZ js 1) else none
def Ot (C:Ctx)(S:St)(res:Ty)(f:Nat)(shs:List Sh)(obs:List (Nat×Ob))(acts:List mS):Option (St×Ty×List PI):=
 Oq S res f shs obs acts (obs.map (·.1)) (Yy S shs obs acts)
def pA (C:Ctx)(S:St)(f:Nat)(args:List Operand)(caps:List (Nat×Nat)):Option (St×Ty×List PI):=
 (C.sig f).bind fun s=>
    match s.mode with
    |.ob shs obs=>Ot C (S.fzs (wZ S args shs)) s.res f shs obs (args.map (Eo C (S.fzs (wZ S args shs)))++caps.map XK)
    |_=>none
theorem aaB {l:List Nat}{x:Nat}:aF l x=true↔x∈l:=by
 unfold aF;rw[List.any_eq_true];exact⟨fun⟨y,hy,h⟩=>by rw[Nat.eq_of_beq_eq_true h];exact hy,fun h=>⟨x,h,Nat.beq_refl x⟩⟩
theorem aa3:∀{is js:List Nat} {i j:Nat},cw is js i=some j→∃k:Nat,is[k]?=some i∧js[k]?=some j
 |[],_,i,j,h=>by cases h
 |_::_,[],i,j,h=>by cases h
 |x::is,y::js,i,j,h=>by
  simp only[cw] at h;cases hb:Nat.beq x i<;>simp only[hb,cond_true,cond_false] at h
  ·obtain⟨k,h1,h2⟩:=aa3 h;exact⟨k+1,h1,h2⟩
  ·cases h;exact⟨0,by rw[Nat.eq_of_beq_eq_true hb];rfl,rfl⟩
theorem H8:∀{is js:List Nat} {i j k:Nat},is.Nodup→is[k]?=some i→js[k]?=some j→cw is js i=some j
 |[],_,i,j,k,_,h,_=>by simp at h
 |_::_,[],i,j,k,_,_,h=>by simp at h
 |x::is,y::js,i,j,k,hn,h1,h2=>by
  simp only[cw];cases k with
  |zero=>simp at h1 h2;subst h1 h2;rw[Nat.beq_refl];rfl
  |succ k=>
   simp at h1 h2;have aG:x≠i:=fun e=>by subst e;exact(List.nodup_cons.1 hn).1 (List.mem_of_getElem? h1)
   rw[ez aG];exact H8 (List.nodup_cons.1 hn).2 h1 h2
theorem H9 {is js:List Nat}(h2:js.Nodup){i j:Nat}(h:cw is js i=some j):cw js is j=some i:=by
 obtain⟨k,g1,g2⟩:=aa3 h;exact H8 h2 g2 g1
theorem axR (obs:List (Nat×Ob))(f:Nat→D):∀{is js:List Nat} {i j:Nat},is=obs.map (·.1)→cw is js i=some j→mE obs (js.map f) i=f j:=by
 induction obs with
 |nil=>intro is js i j h1 h2;subst h1;cases h2
 |cons x l ih=>
  intro is js i j h1 h2;subst h1;cases js with
  |nil=>cases h2
  |cons y js=>
   simp only[List.map_cons,cw] at h2;simp only[List.map_cons,mE];cases hb:Nat.beq x.1 i<;>simp only[hb,cond_true,cond_false] at h2 ⊢
   ·exact ih rfl h2
   ·cases h2;rfl
theorem aa0:∀{obs:List (Nat×Ob)} {js:List Nat} {os:List D} {i j:Nat},os.length=obs.length→cw (obs.map (·.1)) js i=some j→∃k:Nat,js[k]?=some j∧mE obs os i=os.getD k .none
 |[],_,_,i,j,_,h=>by cases h
 |_::_,[],_,i,j,_,h=>by cases h
 |_::_,_::_,[],i,j,hl,h=>by simp at hl
 |x::obs,y::js,o::os,i,j,hl,h=>by
  simp only[List.map_cons,cw] at h;simp only[mE];cases hb:Nat.beq x.1 i<;>simp only[hb,cond_true,cond_false] at h ⊢
  ·obtain⟨k,h1,h2⟩:=aa0 (obs:=obs) (js:=js) (os:=os) (by simpa using hl) h;exact⟨k+1,h1,by simpa using h2⟩
  ·cases h;exact⟨0,rfl,rfl⟩
theorem aa6:∀{obs:List (Nat×Ob)} {js:List Nat} {i:Nat},js.length=obs.length→cw (obs.map (·.1)) js i=none→dN obs i=.dead
 |[],_,i,_,_=>rfl
 |x::obs,[],i,hl,h=>by simp at hl
 |x::obs,y::js,i,hl,h=>by
  simp only[List.map_cons,cw] at h;simp only[dN];cases hb:Nat.beq x.1 i<;>simp only[hb,cond_true,cond_false] at h ⊢
  ·exact aa6 (by simpa using hl) h
  ·cases h
theorem YG {S:St}{is js:List Nat}:∀{obs:List (Nat×Ob)} {jl:List Nat},pH S is js obs jl=true→jl.length=obs.length
 |[],[],_=>rfl
 |[],_::_,h=>by simp[pH] at h
 |_::_,[],h=>by simp[pH] at h
 |o::obs,j::jl,h=>by simp only[pH,Bool.and_eq_true] at h;simp[YG h.2]
theorem YF {S:St}{is js:List Nat}:∀{obs:List (Nat×Ob)} {jl:List Nat},pH S is js obs jl=true→∀{i j:Nat},cw (obs.map (·.1)) jl i=some j→∃x,oY S.ver is js (dN obs i)=some x∧wW (S.o j) x=true
 |[],_,_,i,j,h=>by cases h
 |_::_,[],_,i,j,h=>by cases h
 |o::obs,y::jl,hf,i,j,h=>by
  simp only[pH,Bool.and_eq_true] at hf;simp only[List.map_cons,cw] at h;simp only[dN];cases hb:Nat.beq o.1 i<;>simp only[hb,cond_true,cond_false] at h ⊢
  ·exact YF hf.2 h
  ·cases h;have h1:=hf.1;split at h1
   ·rename_i x hx;exact⟨x,hx,h1⟩
   ·cases h1
theorem YH:∀{a b:List Sh},wX a b=true→a.length=b.length∧∀(i:Nat) (y:Sh),b[i]?=some y→∃x,a[i]?=some x∧Bd x y=true
 |[],[],_=>⟨rfl,fun i y h=>by simp at h⟩
 |[],_::_,h=>by simp[wX] at h
 |_::_,[],h=>by simp[wX] at h
 |a::as,b::bs,h=>by
  simp only[wX,Bool.and_eq_true] at h;obtain⟨g1,g2⟩:=YH h.2;refine⟨by simp[g1],fun i y hy=>?_⟩;cases i with
  |zero=>simp at hy;subst hy;exact⟨a,rfl,h.1⟩
  |succ i=>simp at hy;simpa using g2 i y hy
theorem TU {ver:Nat→Nat}{is js:List Nat}:∀{a b:List Sh},DT ver is js a=some b→b.length=a.length∧∀(i:Nat) (x:Sh),a[i]?=some x→∃y,b[i]?=some y∧ku ver is js x=some y
 |[],b,h=>by simp only[DT,Option.some.injEq] at h;subst h;exact⟨rfl,fun i x h=>by simp at h⟩
 |s::l,b,h=>by
  simp only[DT,Option.bind_eq_some_iff,Option.map_eq_some_iff] at h;obtain⟨y,hy,r,hr,rfl⟩:=h;obtain⟨g1,g2⟩:=TU hr;refine⟨by simp[g1],fun i x hx=>?_⟩;cases i with
  |zero=>simp at hx;subst hx;exact⟨y,rfl,hy⟩
  |succ i=>simp at hx;simpa using g2 i x hx
theorem Mw {ver:Nat→Nat}{is js:List Nat}:∀{a b:List (Nat×Nat)},DS ver is js a=some b→b.length=a.length∧∀(i x v:Nat),a[i]?=some (x,v)→∃j,b[i]?=some (j,ver j)∧cw is js x=some j∧v=0
 |[],b,h=>by simp only[DS,Option.some.injEq] at h;subst h;exact⟨rfl,fun i x v h=>by simp at h⟩
 |s::l,b,h=>by
  simp only[DS] at h;cases hb:Nat.beq s.2 0<;>simp only[hb,cond_true,cond_false] at h
  ·cases h
  simp only[Option.bind_eq_some_iff,Option.map_eq_some_iff] at h;obtain⟨y,hy,r,hr,rfl⟩:=h;obtain⟨g1,g2⟩:=Mw hr;refine⟨by simp[g1],fun i x v hx=>?_⟩;cases i with
  |zero=>simp at hx;subst hx;exact⟨y,rfl,hy,Nat.eq_of_beq_eq_true hb⟩
  |succ i=>simp at hx;simpa using g2 i x v hx
theorem TS {ver:Nat→Nat}{is js:List Nat}{s x:Sh}(h:ku ver is js s=some x):(∀gs s',s≠.opt gs s')∧∀gs s',x≠.opt gs s':=by
 cases s<;>simp only[ku] at h
 case none=>cases h;exact⟨(fun _ _ e=>by cases e),(fun _ _ e=>by cases e)⟩
 case dat=>cases h;exact⟨(fun _ _ e=>by cases e),(fun _ _ e=>by cases e)⟩
 case obj i v=>
  cases hb:Nat.beq v 0<;>simp only[hb,cond_true,cond_false] at h
  ·cases h
  simp only[Option.map_eq_some_iff] at h;obtain⟨j,_,rfl⟩:=h;exact⟨(fun _ _ e=>by cases e),(fun _ _ e=>by cases e)⟩
 case ptr i v off=>
  cases hb:Nat.beq v 0<;>simp only[hb,cond_true,cond_false] at h
  ·cases h
  simp only[Option.map_eq_some_iff] at h;obtain⟨j,_,rfl⟩:=h;exact⟨(fun _ _ e=>by cases e),(fun _ _ e=>by cases e)⟩
 case fclo f caps=>
  simp only[Option.map_eq_some_iff] at h;obtain⟨j,_,rfl⟩:=h;exact⟨(fun _ _ e=>by cases e),(fun _ _ e=>by cases e)⟩
 all_goals cases h
section
variable {C:Ctx} {S S1:St} {ρ ρ1:Env} {σ σ1:Im} {own dp:Nat→Option Nat} {hv aT:Nat→Value} {w0:World} {σ0:Base} {A:Nat→Prop} {a:Act} {w w1:World} {Φ:aU} {dst:Nat}
 {is js:List Nat} {shs:List Sh} {obs:List (Nat×Ob)} {ρf:Env}
theorem ag7 (hσ:Im.leR C.cap σ σ1){ed:Nat→Value}(fl:∀i j,cw is js i=some j→ed i=hv j){s x:Sh}(hr:ku S.ver is js s=some x){v:Value}{d:D}(h:aJ C S ρ σ hv x v d):aJ C (fp shs obs) ρf σ1 ed s v d:=by
 cases s<;>simp only[ku] at hr
 case none=>trivial
 case dat=>cases hr;exact hσ.rep h
 case obj i ver=>
  cases hb:Nat.beq ver 0<;>simp only[hb,cond_true,cond_false] at hr
  ·cases hr
  simp only[Option.map_eq_some_iff] at hr;obtain⟨j,hj,rfl⟩:=hr;exact⟨by rw[Nat.eq_of_beq_eq_true hb];exact Nat.zero_le _,fun _=>by rw[fl i j hj];exact h.2 rfl⟩
 case ptr i ver off=>
  cases hb:Nat.beq ver 0<;>simp only[hb,cond_true,cond_false] at hr
  ·cases hr
  simp only[Option.map_eq_some_iff] at hr;obtain⟨j,hj,rfl⟩:=hr;exact⟨by rw[Nat.eq_of_beq_eq_true hb];exact Nat.zero_le _,fun _=>by rw[fl i j hj];exact h.2 rfl⟩
 case fclo f caps=>
  simp only[Option.map_eq_some_iff] at hr;obtain⟨c,hc,rfl⟩:=hr;obtain⟨g1,g2⟩:=Mw hc;obtain⟨vs,h1,h2,h3⟩:=h;refine⟨vs,h1,by omega,fun i x ver hi=>?_⟩;obtain⟨j,e1,e2,e3⟩:=g2 i x ver hi;exact⟨by rw[e3];exact Nat.zero_le _,fun _=>by rw[fl x j e2];exact(h3 i j _ e1).2 rfl⟩
 all_goals cases hr
theorem aCw (hσ:σ.le σ1){ed:Nat→Value}(fl:∀i j,cw is js i=some j→ed i=aT j){s x:Sh}(hr:ku S1.ver is js s=some x){v:Value}{d:D}(h:aJ C (fp shs obs) ρf σ ed s v d):aJ C S1 ρ1 σ1 aT x v d:=by
 cases s<;>simp only[ku] at hr
 case none=>cases hr;trivial
 case dat=>cases hr;exact Rep.mono hσ h
 case obj i ver=>
  cases hb:Nat.beq ver 0<;>simp only[hb,cond_true,cond_false] at hr
  ·cases hr
  simp only[Option.map_eq_some_iff] at hr;obtain⟨j,hj,rfl⟩:=hr;exact⟨Nat.le_refl _,fun _=>by rw[←fl i j hj];exact h.2 (Nat.eq_of_beq_eq_true hb)⟩
 case ptr i ver off=>
  cases hb:Nat.beq ver 0<;>simp only[hb,cond_true,cond_false] at hr
  ·cases hr
  simp only[Option.map_eq_some_iff] at hr;obtain⟨j,hj,rfl⟩:=hr;exact⟨Nat.le_refl _,fun _=>by rw[←fl i j hj];exact h.2 (Nat.eq_of_beq_eq_true hb)⟩
 case fclo f caps=>
  simp only[Option.map_eq_some_iff] at hr;obtain⟨c,hc,rfl⟩:=hr;obtain⟨g1,g2⟩:=Mw hc;obtain⟨vs,h1,h2,h3⟩:=h;refine⟨vs,h1,by omega,fun i j ver hi=>?_⟩;have ak:i<caps.length:=by have:=(List.getElem?_eq_some_iff.1 hi).1;omega
  obtain⟨j',e1,e2,e3⟩:=g2 i _ _ (List.getElem?_eq_getElem ak);rw[hi] at e1;cases e1;exact⟨Nat.le_refl _,fun _=>by rw[←fl _ j e2];exact(h3 i _ _ (List.getElem?_eq_getElem ak)).2 e3⟩
 all_goals cases hr
theorem aq4 {c x:Sh}(hf:Bd c x=true){v:Value}{d:D}(h:aJ C S ρ σ hv c v d):aJ C S ρ σ hv x v d:=by
 cases x with
 |none=>trivial
 |dat b=>
  simp only[Bd] at hf;split at hf
  ·exact Rep.sub h hf
  ·cases hf
 |_=>simp only[Bd] at hf;rw[Sh.beq_eq _ _ hf] at h;exact h
theorem azO (hσ:Im.leR C.cap σ σ1){ed:Nat→Value}{CC:Nat→Option Nat}(fl:∀i j,cw is js i=some j→ed i=hv j)(bS:∀k j i,own k=some j→cw js is j=some i→CC k=some i)(bC:js.Nodup){i j N:Nat}(cN:cw is js i=some j)(hρ:ρf.o i=ρ.o j){ob x:Ob}
 (hr:oY S.ver is js ob=some x) (hf:wW (S.o j) x=true) (h:bX C S ρ σ own hv w N j (S.o j)):bX C (fp shs obs) ρf σ1 CC ed w N i ob:=by
 have sA:=H9 bC cN;cases ob<;>simp only[oY] at hr
 case row T e=>
  cases hr;cases ho:S.o j<;>rw[ho] at hf h<;>simp only[wW,Bool.and_eq_true] at hf<;>try (cases hf;done)
  obtain⟨cells,xs,h1,h2,h3,h4⟩:=h;rw[Nat.eq_of_beq_eq_true hf.1,Ty.beq_eq _ _ hf.2] at*;exact⟨cells,xs,by rw[hρ];exact h1,by rw[fl i j cN];exact h2,h3.monoR hσ,fun k hk=>bS k j i (h4 k (by rw[←fl i j cN];exact hk)) sA⟩
 case mp kt et=>
  cases hr;cases ho:S.o j<;>rw[ho] at hf h<;>simp only[wW,Bool.and_eq_true] at hf<;>try (cases hf;done)
  obtain⟨k,arr,clock,es,h1,h2,h3,h4,h5,h6,h7⟩:=h;rw[Ty.beq_eq _ _ hf.1,Ty.beq_eq _ _ hf.2] at*;exact⟨k,arr,clock,es,by rw[fl i j cN];exact h1,bS k j i h2 sA,h3,by rw[hρ];exact h4,h5,h6,fun n e p he hp=>⟨hσ.rep (h7 n e p he hp).1,hσ.rep (h7 n e p he hp).2⟩⟩
 case box ag cs=>
  simp only[Option.map_eq_some_iff] at hr;obtain⟨fO,eP,rfl⟩:=hr;cases ho:S.o j<;>rw[ho] at hf h<;>simp only[wW,Bool.and_eq_true] at hf<;>try (cases hf;done)
  obtain⟨k,vs,T,ds,h1,h2,h3,h4,h5,h6,h7⟩:=h;obtain⟨l1,g1⟩:=YH hf.2;obtain⟨l2,g2⟩:=TU eP;refine⟨k,vs,T,ds,by rw[fl i j cN];exact h1,bS k j i h2 sA,h3,by omega,by rw[hρ];exact h5,by omega,fun n s hs=>?_⟩;obtain⟨y,hy,B8⟩:=g2 n s hs;obtain⟨z,hz,BF⟩:=g1 n y hy;exact⟨(TS B8).1,ag7 hσ fl B8 (aq4 BF (h7 n z hz).2)⟩
 all_goals cases hr
theorem azP (hσ:σ.le σ1){ed:Nat→Value}{CC:Nat→Option Nat}(fl:∀i j,cw is js i=some j→ed i=aT j)(bS:∀k i j,CC k=some i→cw is js i=some j→dp k=some j){i j N:Nat}(cN:cw is js i=some j)(hρ:ρ1.o j=ρf.o i){ob x:Ob}
 (hr:oY S1.ver is js ob=some x) (h:bX C (fp shs obs) ρf σ CC ed w N i ob):bX C S1 ρ1 σ1 dp aT w N j x:=by
 cases ob<;>simp only[oY] at hr
 case row T e=>
  cases hr;obtain⟨cells,xs,h1,h2,h3,h4⟩:=h;exact⟨cells,xs,by rw[hρ];exact h1,by rw[←fl i j cN];exact h2,h3.mono hσ,fun k hk=>bS k i j (h4 k (by rw[fl i j cN];exact hk)) cN⟩
 case mp kt et=>
  cases hr;obtain⟨k,arr,clock,es,h1,h2,h3,h4,h5,h6,h7⟩:=h;exact⟨k,arr,clock,es,by rw[←fl i j cN];exact h1,bS k i j h2 cN,h3,by rw[hρ];exact h4,h5,h6,fun n e p he hp=>⟨(h7 n e p he hp).1.mono hσ,(h7 n e p he hp).2.mono hσ⟩⟩
 case box ag cs=>
  simp only[Option.map_eq_some_iff] at hr;obtain⟨fO,eP,rfl⟩:=hr;obtain⟨k,vs,T,ds,h1,h2,h3,h4,h5,h6,h7⟩:=h;obtain⟨l2,g2⟩:=TU eP;refine⟨k,vs,T,ds,by rw[←fl i j cN];exact h1,bS k i j h2 cN,h3,by omega,by rw[hρ];exact h5,by omega,fun n s hs=>?_⟩;have ak:n<cs.length:=by have:=(List.getElem?_eq_some_iff.1 hs).1;omega
  obtain⟨y,hy,B8⟩:=g2 n _ (List.getElem?_eq_getElem ak);rw[hs] at hy;cases hy;exact⟨(TS B8).2,aCw hσ fl B8 (h7 n _ (List.getElem?_eq_getElem ak)).2⟩
 all_goals cases hr
theorem aCv {ver:Nat→Nat}{ob x:Ob}(hr:oY ver is js ob=some x):x≠.tr:=by
 cases ob<;>simp only[oY] at hr
 case row=>cases hr;intro e;cases e
 case mp=>cases hr;intro e;cases e
 case box=>
  simp only[Option.map_eq_some_iff] at hr;obtain⟨_,_,rfl⟩:=hr;intro e;cases e
 all_goals cases hr
theorem CtxOK.noM (h:CtxOK C σ):CtxOK C σ.noM:=⟨fun g x hx=>(h.glob g x hx).noM⟩
def y4 (C:Ctx)(S:St)(ρ:Env)(σ:Im)(hv:Nat→Value)(x:mS)(v:Value)(d:D):Prop:=aJ C S ρ σ hv x.1 v d∧∀y,x.2=some y→Rep C.cap σ y.1 v (y.2.ev ρ)
theorem YD:∀{acts:List mS} {shs:List Sh} {es:List PE},sk S is js acts shs=some es→acts.length=shs.length∧es.length=shs.length∧∀(t:Nat) (s:Sh),shs[t]?=some s→∃x e,acts[t]?=some x∧es[t]?=some e∧Bb S is js x s=some e
 |[],[],es,h=>by simp only[sk,Option.some.injEq] at h;subst h;exact⟨rfl,rfl,fun t s h=>by simp at h⟩
 |[],_::_,es,h=>by simp[sk] at h
 |_::_,[],es,h=>by simp[sk] at h
 |x::acts,s::shs,es,h=>by
  simp only[sk,Option.bind_eq_some_iff,Option.map_eq_some_iff] at h;obtain⟨e,he,r,hr,rfl⟩:=h;obtain⟨g1,g2,g3⟩:=YD hr;refine⟨by simp[g1],by simp[g2],fun t s' hs=>?_⟩;cases t with
  |zero=>simp at hs;subst hs;exact⟨x,e,rfl,rfl,he⟩
  |succ t=>simp at hs;simpa using g3 t s' hs
theorem aq2 (hσ:Im.leR C.cap σ σ1){ed:Nat→Value}(fl:∀i j,cw is js i=some j→ed i=hv j){x:mS}{s:Sh}{e:PE}(hf:Bb S is js x s=some e){v:Value}{d:D}(h:y4 C S ρ σ hv x v d):aJ C (fp shs obs) ρf σ1 ed s v (e.ev ρ):=by
 have gen:∀s,(match ku S.ver is js s with|some y=>bif Sh.beq x.1 y then some (PE.con .none) else none|none=>none)=some e→mz s=false→aJ C (fp shs obs) ρf σ1 ed s v (e.ev ρ):=by
  intro s hm hd;split at hm
  ·rename_i y hy;cases hb:Sh.beq x.1 y<;>simp only[hb,cond_true,cond_false] at hm
   ·cases hm
   have h1:=h.1;rw[Sh.beq_eq _ _ hb] at h1;have:=ag7 (shs:=shs) (obs:=obs) (ρf:=ρf) hσ fl hy h1;cases s with
   |dat t=>cases hd
   |opt gs s'=>exact absurd rfl ((TS hy).1 gs s')
   |eptr j ver size off=>simp[ku] at hy
   |_=>exact this
  ·cases hm
 unfold Bb at hf;split at hf
 ·rename_i t;split at hf
  ·rename_i y hy;cases hb:Ty.sub y.1 t<;>simp only[hb,cond_true,cond_false] at hf
   ·cases hf
   cases hf;exact hσ.rep ((h.2 y hy).sub hb)
  ·cases hf
 ·trivial
 ·rename_i kL oz;refine gen _ hf ?_;cases s<;>first|rfl|exact absurd rfl (kL _)
theorem apQ {ed Qk:Nat→Value}{σ σ':Im}{ρf ρf':Env}{args:Nat→Value}{ds ds':Nat→D}(h1:∀(t:Nat) (s:Sh),shs[t]?=some s→aJ C (fp shs obs) ρf σ ed s (args t) (ds t))(h2:∀(t:Nat) (s:Sh),shs[t]?=some s→mz s=false→aJ C (fp shs obs) ρf' σ' Qk s (args t) (ds' t))
 (hz:∀s,s∈shs→∃x,ku S.ver is js s=some x) {i:Nat} (hi:i∈nW shs):Qk i=ed i:=by
 have key:∀(l:List Sh),(∀s,s∈l→∃t:Nat,shs[t]?=some s)→i∈nW l→Qk i=ed i:=by
  intro l
  induction l with
  |nil=>intro _ h;cases h
  |cons s l ih=>
   intro hl hi;obtain⟨t,ht⟩:=hl s (List.mem_cons_self ..);have ox:∀s,s∈l→∃t:Nat,shs[t]?=some s:=fun s hs=>hl s (List.mem_cons_of_mem _ hs);obtain⟨x,hx⟩:=hz s (List.mem_of_getElem? ht);have a1:=h1 t s ht;have a2:=h2 t s ht;cases s<;>simp only[nW] at hi
   case obj j ver=>
        simp only[ku] at hx;cases hb:Nat.beq ver 0<;>simp only[hb,cond_true,cond_false] at hx
        ·cases hx
        rcases List.mem_cons.1 hi with e|e
        ·subst e;rw[←(a1.2 (Nat.eq_of_beq_eq_true hb)),←((a2 rfl).2 (Nat.eq_of_beq_eq_true hb))]
        ·exact ih ox e
   case ptr j ver off=>
        simp only[ku] at hx;cases hb:Nat.beq ver 0<;>simp only[hb,cond_true,cond_false] at hx
        ·cases hx
        rcases List.mem_cons.1 hi with e|e
        ·subst e;obtain⟨k1,e1,e2⟩:=a1.2 (Nat.eq_of_beq_eq_true hb);obtain⟨k2,e3,e4⟩:=(a2 rfl).2 (Nat.eq_of_beq_eq_true hb);rw[e2] at e4;cases e4;rw[e1,e3]
        ·exact ih ox e
   case fclo f caps=>
        simp only[ku,Option.map_eq_some_iff] at hx;obtain⟨c,hc,_⟩:=hx;obtain⟨_,g2⟩:=Mw hc;rcases List.mem_append.1 hi with e|e
        ·obtain⟨y,hy,e1⟩:=List.mem_map.1 e;subst e1;obtain⟨m,hm⟩:=List.getElem?_of_mem hy;obtain⟨vs,b1,b2,b3⟩:=a1;obtain⟨y0,c1,c2,c3⟩:=a2 rfl;rw[b1] at c1;have gE:vs=y0:=by simpa using c1
         subst gE;obtain⟨_,_,_,xB⟩:=g2 m y.1 y.2 hm;rw[←(b3 m y.1 y.2 hm).2 xB,←(c3 m y.1 y.2 hm).2 xB]
        ·exact ih ox e
   all_goals exact ih ox hi
 exact key shs (fun s hs=>List.getElem?_of_mem hs) hi
end
section
variable {C:Ctx} {S:St} {ρ:Env} {σ:Im} {own:Nat→Option Nat} {hv:Nat→Value} {w0:World} {σ0:Base} {A:Nat→Prop} {a:Act} {w:World} {Φ:aU} {dst:Nat}
 {is js:List Nat} {shs:List Sh} {obs:List (Nat×Ob)}
theorem Below.weak {B:Nat}{w w':World}(h:Below 0 w w')(hk:∀k,k<B→w'.heap[k]?=w.heap[k]?):Below B w w':=⟨h.os,h.tape,h.output,h.size,hk⟩
def np (js is:List Nat)(own:Nat→Option Nat):Nat→Option Nat:=fun k=>(own k).bind (cw js is)
def CB (js is:List Nat)(own own':Nat→Option Nat):Nat→Option Nat:=fun k=>
 match own' k with
 |some i=>cw is js i
 |none=>match own k with|some j=>(match cw js is j with|some _=>none|none=>some j)|none=>none
theorem handed (h:Inv C S ρ σ own hv w0 σ0 A a w)(hC:CtxOK C σ0)(awB:Cy shs obs=true)(BI:is=obs.map (·.1))(Z3:is.Nodup)(HH:js.Nodup)(Hs:pH S is js obs js=true){acts:List mS}{es:List PE}(ib:sk S is js acts shs=some es)
 (Ho:S.o gK=.dead) (HT:gK∉js) {vals:List Value} (hvl:vals.length=acts.length) (auZ:∀(t:Nat) (x:mS),acts[t]?=some x→∃d,y4 C S ρ σ hv x (vals.getD t undef) d) {f:Nat} {res:Ty} {d:D}
 (hfn:lb C f shs obs res (es.map (PE.ev ρ)++js.map ρ.o) d):
 Calls C.P f vals.toArray w fun e w'=>∃v dr os,e=.returned v∧d=.tup (dr::os)∧os.length=js.length∧
  ∀ρ':Env,ρ'.r=ρ.r→(∀(k j:Nat),js[k]?=some j→ρ'.o j=os.getD k .none)→(∀j,j∉js→j≠gK→ρ'.o j=ρ.o j)→
   ∃σ1 dp aT,Inv C (S.handed shs obs is js) ρ' σ1 dp aT w0 σ0 A a w'∧Rep C.cap σ1 res v dr:=by
 obtain⟨al1,al2,jb⟩:=YD ib;have fC:=YG Hs;have sK:w0.heap.size≤w.heap.size:=h.below.size;obtain⟨tr,fx,cx,hf,q7⟩:=h.frame
 let ed:Nat→Value:=fun i=>match cw is js i with|some j=>hv j|none=>undef
 have fl:∀i j,cw is js i=some j→ed i=hv j:=fun i j e=>by simp only[ed,e]
 have ZT:Im.leR C.cap σ σ.noM:=⟨Rep.noM,fun _ _ _ e=>e⟩
 have BT:∀k x,σ.noM.m k=some x→σ.m k=some x∧x≠cK:=by
  intro k x e;by_cases hd:σ.m k=some cK
  ·simp[Im.noM,hd] at e
  ·simp only[Im.noM,if_neg hd] at e;exact⟨e,fun e2=>hd (by rw[e,e2])⟩
 have ot:(es.map (PE.ev ρ)++js.map ρ.o).drop shs.length=js.map ρ.o:=by rw[List.drop_append];simp[al2]
 have avK:∀t e,es[t]?=some e→(es.map (PE.ev ρ)++js.map ρ.o).getD t .none=e.ev ρ:=fun t e he=>by
  have ak:=(List.getElem?_eq_some_iff.1 he).1;rw[List.getD_eq_getElem?_getD,List.getElem?_append_left (by simpa using ak),List.getElem?_map,he];rfl
 have awM:∀s,s∈shs→∃x,ku S.ver is js s=some x:=by
  intro s hs;obtain⟨t,ht⟩:=List.getElem?_of_mem hs;obtain⟨x,e,_,_,he⟩:=jb t s ht;unfold Bb at he;split at he
  ·exact⟨_,rfl⟩
  ·exact⟨_,rfl⟩
  ·split at he
   ·rename_i y hy;exact⟨y,hy⟩
   ·cases he
 have ZN:∀t,aJ C (fp shs obs) (lI obs (es.map (PE.ev ρ)++js.map ρ.o) ((es.map (PE.ev ρ)++js.map ρ.o).drop shs.length)) σ.noM ed (shs.getD t .none) (vals.toArray.getD t undef) ((es.map (PE.ev ρ)++js.map ρ.o).getD t .none):=by
  intro t;cases hs:shs[t]? with
  |none=>rw[List.getD_eq_getElem?_getD,hs];trivial
  |some s=>
   obtain⟨x,e,hx,he,Hq⟩:=jb t s hs;obtain⟨d',au0⟩:=auZ t x hx;rw[List.getD_eq_getElem?_getD (l:=shs),hs,avK t e he];have e1:vals.toArray.getD t undef=vals.getD t undef:=by simp[Array.getD_eq_getD_getElem?,List.getD_eq_getElem?_getD]
   rw[e1];exact aq2 ZT fl Hq au0
 have avY:∀i,bX C (fp shs obs) (lI obs (es.map (PE.ev ρ)++js.map ρ.o) ((es.map (PE.ev ρ)++js.map ρ.o).drop shs.length)) σ.noM (np js is own) ed w w0.heap.size i (dN obs i):=by
  intro i;cases cN:cw is js i with
  |none=>subst BI;rw[aa6 fC cN];trivial
  |some j=>
   subst BI;obtain⟨x,hx,Ht⟩:=YF Hs cN;refine azO ZT fl (fun k j' i' hk hl=>by simp only[np,hk,Option.bind_some,hl]) HH cN ?_ hx Ht (h.objs j);show mE obs _ i=_;rw[ot];exact axR obs ρ.o rfl cN
 have uA:=hfn w0.heap.size σ.noM (np js is own) ed w vals.toArray (fun k=>(∃j,own k=some j∧cw js is j=none)∨σ.m k=some cK∨(cx k)) awB ⟨h.ok.c,fun k x e=>h.ok.m k x (BT k x e).1⟩ ((hC.mono h.le).noM)
  (fun k e=>(BT k _ e).2 rfl) sK (by simp;omega) (fun k i hk=>by
    simp only[np,Option.bind_eq_some_iff] at hk;obtain⟨j,hj,_⟩:=hk;obtain⟨g1,g2,g3,g4⟩:=h.owns k j hj;exact⟨g1,g2,g3,by by_cases e:σ.m k=some cK<;>simp[Im.noM,e,g4]⟩) (fun k hk=>by
    rcases hk with⟨j,hj,hn⟩|hk|hk
    ·obtain⟨g1,g2,g3,g4⟩:=h.owns k j hj;exact⟨g2,by simp[np,hj,hn],g3,by by_cases e:σ.m k=some cK<;>simp[Im.noM,e,g4]⟩
    ·have BQ:=h.ok.m k _ hk;have hn:own k=none:=by
      cases e:own k with
      |none=>rfl
      |some j=>rw[(h.owns k j e).2.2.2] at hk;cases hk
     refine⟨BQ.lt,by simp[np,hn],fun o=>?_,by simp[Im.noM,hk]⟩;cases e:σ.c k o with
     |none=>exact e
     |some x=>
      have c1:=h.ok.c k o x e;rcases BQ with⟨m1,_⟩|⟨_,m2⟩
      ·exact absurd rfl m1
      ·simp[World.cell?,m2] at c1
    ·have j8:=σ0.sub _ _ _ _ hf.F k hk;have hn:own k=none:=by
      cases e:own k with
      |none=>rfl
      |some j=>exact absurd j8 (hf.own k j e)
     refine⟨σ0.lt _ _ _ _ hf.F k j8,by simp[np,hn],fun o=>?_,?_⟩
     ·cases e:σ.c k o with
      |none=>exact e
      |some x=>exact absurd hk (hf.c k o x e)
     ·cases e:σ.m k with
      |none=>simp[Im.noM,e]
      |some x=>exact absurd hk (hf.m k x e)) ZN avY
 refine uA.mono fun e w' hh=>?_;obtain⟨v,σ',own',hv',dr,os,rfl,hd,PQ,hle,aE,hb,il,df,cT,HG,aab,Pq,PN,kN⟩:=hh;refine⟨v,dr,os,rfl,hd,by omega,fun ρ' gQ oB uN=>?_⟩;have HK:∀k,k<w.heap.size→own k=none→w'.heap[k]?=w.heap[k]?:=fun k hk hn=>il k hk (by simp[np,hn]);have PW:∀k j,own k=some j→cw js is j=none→w'.heap[k]?=w.heap[k]?:=fun k j hk hn=>il k (h.owns k j hk).2.1 (by simp[np,hk,hn])
 have avq:∀k o x,σ.c k o=some x→own k=none:=fun k o x e=>by
  cases e1:own k with
  |none=>rfl
  |some j=>rw[(h.owns k j e1).2.2.1 o] at e;cases e
 have Z1:∀k x,σ.m k=some x→own k=none:=fun k x e=>by
  cases e1:own k with
  |none=>rfl
  |some j=>rw[(h.owns k j e1).2.2.2] at e;cases e
 have HM:σ.ok w':=⟨fun k o x e=>by rw[World.cell?_of_block (HK k (h.lt e) (avq k o x e))];exact h.ok.c k o x e,fun k x e=>(h.ok.m k x e).keep (HK k (h.ltm e) (Z1 k x e))⟩
 have lu:σ.le (σ'.plus σ):=Im.plus_le2 aE HM;have lx:σ'.le (σ'.plus σ):=Im.plus_le1 σ' σ;have eP:∀k o x,(σ'.plus σ).c k o=some x→σ'.c k o=some x:=fun k o x e=>(Im.plus_c e).elim id (fun e=>hle.c k o x e)
 have xm:∀k x,(σ'.plus σ).m k=some x→σ'.m k=some x∨(σ.m k=some x∧x=cK):=fun k x e=>(Im.plus_m e).elim .inl (fun e=>by
  by_cases hd:x=cK
  ·exact .inr ⟨e,hd⟩
  ·refine .inl (hle.m k x ?_);have:σ.m k≠some cK:=fun e2=>hd (by rw[e] at e2;cases e2;rfl);simp only[Im.noM,if_neg this,e])
 let aT:Nat→Value:=fun j=>match cw js is j with|some i=>hv' i|none=>hv j
 have axl:∀i j,cw is js i=some j→hv' i=aT j:=fun i j e=>by simp only[aT,H9 HH e]
 have avy:∀i,i∈nW shs→hv' i=ed i:=fun i hi=>apQ (S:=S) (is:=is) (js:=js) (args:=fun t=>vals.toArray.getD t undef) (ds:=fun t=>(es.map (PE.ev ρ)++js.map ρ.o).getD t .none) (ds':=fun t=>(es.map (PE.ev ρ)++js.map ρ.o).getD t .none) (fun t s hs=>by
  have:=ZN t;rw[List.getD_eq_getElem?_getD (l:=shs),hs] at this;exact this) (fun t s hs hd=>Pq t s hs hd) awM hi
 have sr:Compat S hv (S.handed shs obs is js) aT:=by
  refine⟨fun j=>?_,fun j e=>?_⟩
  ·show S.ver j≤tP S.ver shs is js j;unfold tP;split
   ·cases aF (nW shs) _<;>simp
   ·exact Nat.le_refl _
  ·change tP S.ver shs is js j=S.ver j at e;show aT j=hv j;simp only[aT];unfold tP at e;split at e
   ·rename_i i hi;cases hb:aF (nW shs) i<;>rw[hb] at e
    ·simp at e
    ·try simp only[hi]
     rw[avy i (aaB.1 hb),fl i j (H9 Z3 hi)]
   ·rename_i hi;try simp only[hi]
 have pP:∀k j,CB js is own own' k=some j→(k<w.heap.size→own k≠none)∧w0.heap.size≤k∧k<w'.heap.size∧(∀o,σ'.c k o=none)∧σ'.m k=none∧σ.m k≠some cK:=by
  intro k j hk;simp only[CB] at hk;split at hk
  ·rename_i i hi;obtain⟨g1,g2,g3,g4,g5⟩:=aab k i hi;have g6:k<w.heap.size→own k≠none:=fun ak e=>g5 ak (by simp[np,e]);refine⟨g6,g1,g2,g3,g4,fun e=>?_⟩;exact g6 (h.ltm e) (Z1 k _ e)
  ·split at hk
   ·rename_i j' bF;split at hk
    ·cases hk
    ·rename_i hn;obtain⟨g1,g2,g3,g4⟩:=h.owns k j' bF;have j4:(∃j,own k=some j∧cw js is j=none)∨σ.m k=some cK∨(cx k):=.inl ⟨j',bF,hn⟩;refine⟨fun _ e=>(by rw[bF] at e;cases e),g1,Nat.lt_of_lt_of_le g2 hb.size,fun o=>?_,?_,fun e=>?_⟩
     ·cases e:σ'.c k o with
      |none=>rfl
      |some x=>exact absurd j4 (df k o x e).2
     ·cases e:σ'.m k with
      |none=>rfl
      |some x=>exact absurd j4 (cT k x e).2
     ·rw[g4] at e;cases e
   ·cases hk
 refine⟨σ'.plus σ,CB js is own own',aT,⟨h.defers.mono lu,Im.plus_ok aE HM,h.le.trans lu,h.old,fun k o x e=>?_,fun k x e=>?_,h.below.trans (Below.weak hb fun k hk=>?_),h.bw,fun k j hk=>?_,fun t=>?_,fun j=>?_,h.opts,?_⟩,kN.mono lx⟩
 ·rcases(df k o x (eP k o x e)).1 with e1|e1
  ·exact h.newc k o x e1
  ·exact .inr e1
 ·rcases xm k x e with e1|e1
  ·rcases(cT k x e1).1 with e2|e2
   ·exact h.newm k x (BT k x e2).1
   ·exact .inr e2
  ·exact h.newm k x e1.1
 ·have cn:k<w0.heap.size:=Nat.lt_of_lt_of_le hk h.bw;refine HK k (by omega) ?_;cases e:own k with
  |none=>rfl
  |some j=>have:=(h.owns k j e).1;omega
 ·obtain⟨_,g1,g2,g3,g4,g5⟩:=pP k j hk;refine⟨g1,g2,fun o=>?_,?_⟩
  ·cases e:(σ'.plus σ).c k o with
   |none=>rfl
   |some x=>have:=eP k o x e;rw[g3 o] at this;cases this
  ·cases e:(σ'.plus σ).m k with
   |none=>rfl
   |some x=>
    rcases xm k x e with e1|e1
    ·rw[g4] at e1;cases e1
    ·exact absurd (by rw[e1.1,e1.2]) g5
 ·show aJ C _ ρ' _ aT (S.r t) _ (ρ'.r t);rw[gQ]
  exact aJ.mono lu sr (fun gs s e=>by
   unfold holds;rw[gQ]) (fun gs s e=>(h.opts t gs s e).2) (h.regs t)
 ·show bX C _ ρ' _ _ aT w' _ j (match cw js is j with|some i=>(match oY (tP S.ver shs is js) is js (dN obs i) with|some o=>o|none=>.dead)|none=>S.o j);split
  ·rename_i i hi;have cN:=H9 Z3 hi;split
   ·rename_i x hx;refine azP (S1:=S.handed shs obs is js) lx axl (fun k i' j' hk hl=>by simp only[CB,hk,hl]) cN ?_ hx (PN i);subst BI;obtain⟨k,bx,cn⟩:=aa0 (os:=os) PQ cN;show ρ'.o j=mE obs os i;rw[cn];exact oB k j bx
   ·trivial
  ·rename_i hn
   have PG:j∉js:=fun hm=>by
        obtain⟨k,hk⟩:=List.getElem?_of_mem hm;have ak:k<is.length:=by
         have:=(List.getElem?_eq_some_iff.1 hk).1;rw[BI,List.length_map];omega
        have:=H8 HH hk (List.getElem?_eq_getElem ak);rw[hn] at this;cases this
   by_cases Hy:j=gK
   ·subst Hy;rw[Ho];trivial
   ·refine(h.objs j).mono lu sr (by show aT j=hv j;simp only[aT,hn]) (uN j PG Hy) (fun k hk=>⟨?_,PW k j hk hn⟩);have:own' k=none:=by
     cases e:own' k with
     |none=>rfl
     |some i=>exact absurd (by simp[np,hk,hn]) ((aab k i e).2.2.2.2 (h.owns k j hk).2.1)
    simp only[CB,this,hk,hn]
 ·refine⟨tr,fx,cx,⟨σ0.keep _ _ _ _ _ hf.F hb fun k hk=>?_,fun k j hk j8=>?_,fun k o x e hc=>?_,fun k x e hc=>?_,fun k e hB hk=>?_⟩,fun j hj=>?_⟩
  ·refine HK k (σ0.lt _ _ _ _ hf.F k hk) ?_;cases e:own k with
   |none=>rfl
   |some j=>exact absurd hk (hf.own k j e)
  ·have ak:=σ0.lt _ _ _ _ hf.F k j8;have:=(pP k j hk).1 ak;cases e:own k with
   |none=>exact this e
   |some j'=>exact hf.own k j' e j8
  ·exact(df k o x (eP k o x e)).2 (.inr (.inr hc))
  ·rcases xm k x e with e1|e1
   ·exact(cT k x e1).2 (.inr (.inr hc))
   ·exact hf.m k x e1.1 hc
  ·rcases xm k _ e with e1|e1
   ·have ak:=σ0.lt _ _ _ _ hf.F k hk;refine HG k e1 hB ak ?_;have:own k=none:=by
     cases e:own k with
     |none=>rfl
     |some j=>exact absurd hk (hf.own k j e)
    simp[np,this]
   ·exact hf.d k e1.1 hB hk
  ·change (match cw js is j with|some i=>(match oY (tP S.ver shs is js) is js (dN obs i) with|some o=>o|none=>.dead)|none=>S.o j)=.tr at hj;split at hj
   ·rename_i i hi;split at hj
    ·rename_i x hx;exact absurd hj (aCv hx)
    ·cases hj
   ·rename_i hn
    have PG:j∉js:=fun hm=>by
     obtain⟨k,hk⟩:=List.getElem?_of_mem hm;have ak:k<is.length:=by
         have:=(List.getElem?_eq_some_iff.1 hk).1;rw[BI,List.length_map];omega
     have:=H8 HH hk (List.getElem?_eq_getElem ak);rw[hn] at this;cases this
    have Hy:j≠gK:=fun e=>by subst e;rw[Ho] at hj;cases hj
    rw[uN j PG Hy];exact q7 j hj
theorem aht:∀(js:List Nat) (k:Nat) {ρ ρ':Env} {l:List D},PI.runs Φ (DZ js k) ρ=some ρ'→ρ.o gK=.tup l→gK∉js→js.Nodup→
 ρ'.r=ρ.r∧(∀(i j:Nat),js[i]?=some j→ρ'.o j=l.getD (k+i) .none)∧∀j,j∉js→ρ'.o j=ρ.o j
 |[],k,ρ,ρ',l,h,hs,hn,hd=>by
  simp only[DZ,PI.runs,Option.some.injEq] at h;subst h;exact⟨rfl,fun i j e=>by simp at e,fun _ _=>rfl⟩
 |x::js,k,ρ,ρ',l,h,hs,hn,hd=>by
  simp only[DZ,PI.runs,PI.run,Option.bind_some,PE.ev,hs,D.tget] at h;simp only[List.mem_cons,not_or] at hn;have eD:=List.nodup_cons.1 hd;obtain⟨g1,g2,g3⟩:=aht js (k+1) h (by simp only[Env.setO];rw[bq _ _ hn.1];exact hs) hn.2 eD.2;refine⟨g1,fun i j e=>?_,fun j hj=>?_⟩
  ·cases i with
   |zero=>simp at e;subst e;rw[g3 _ eD.1];simp[Env.setO,aQ]
   |succ i=>simp at e;rw[g2 i j e];congr 1;omega
  ·simp only[List.mem_cons,not_or] at hj;rw[g3 j hj.2];simp only[Env.setO];exact bq _ _ hj.1
theorem aiO (h:Inv C S ρ σ own hv w0 σ0 A a w)(hC:CtxOK C σ0)(x:Operand):∃d,y4 C S ρ σ hv (Eo C S x) (a.eval x) d:=by
 cases x with
 |tmp t=>
  refine⟨ρ.r t,?_,fun y hy=>bW (gs:=[]) h hC rfl hy⟩;have:=(nI (gs:=[]) h rfl t).1;simpa [Act.eval,Eo,gf] using this
 |_=>exact⟨.none,trivial,fun y hy=>bW (gs:=[]) h hC rfl hy⟩
theorem Yg (h:Inv C S ρ σ own hv w0 σ0 A a w)(hC:CtxOK C σ0)(hΦ:cW C Φ){f:Nat}{args:List Operand}{caps:List (Nat×Nat)}{vs:List Value}(gE:vs.length=caps.length)
 (j2:∀(i j ver:Nat),caps[i]?=some (j,ver)→ver≤S.ver j∧(ver=S.ver j→vs.getD i undef=hv j)) (ave:∀(i j ver:Nat),caps[i]?=some (j,ver)→ver=S.ver j→∃k,hv j=.pointer (some ⟨k,0,none⟩)) {r:St×Ty×List PI} (hr:pA C S f args caps=some r)
 {ρ1:Env} (aq:PI.runs Φ r.2.2 ρ=some ρ1):
 Calls C.P f (args.map a.eval++vs).toArray w fun e w'=>∃v σ1 dp aT,e=.returned v∧Inv C r.1 ρ1 σ1 dp aT w0 σ0 A a w'∧Rep C.cap σ1 r.2.1 v ((ρ1.o gK).tget 0):=by
 simp only[pA,Option.bind_eq_some_iff] at hr;obtain⟨s,hs,hr⟩:=hr;split at hr
 case h_2=>cases hr
 rename_i shs obs oy;obtain⟨σ2,gT,lx,h2⟩:=Inv.fzs (wZ S args shs) h;have dL:=(pI (wZ S args shs) S).1;generalize S.fzs (wZ S args shs)=S2 at hr h2 dL;unfold Ot Oq at hr;generalize Yy S2 shs obs (args.map (Eo C S2)++caps.map XK)=js at hr;simp only[Option.bind_eq_some_iff] at hr;obtain⟨es,ib,hr⟩:=hr;cases hb:(Cy shs obs&&(ji (obs.map (·.1))&&ji js&&pH S2 (obs.map (·.1)) js obs js&&ni (S2.o gK)&& !aF js gK))<;>simp only[hb,cond_true,cond_false] at hr
 ·cases hr
 cases hr;simp only[Bool.and_eq_true,Bool.not_eq_true'] at hb;obtain⟨b0,⟨⟨⟨b1,b2⟩,b3⟩,b4⟩,b5⟩:=hb;have kL:=mG b1;have oz:=mG b2;have Ho:S2.o gK=.dead:=by
  cases e:S2.o gK<;>rw[e] at b4<;>first|rfl|cases b4
 have HT:gK∉js:=fun hm=>by rw[aaB.2 hm] at b5;cases b5
 simp only[PI.runs,PI.run,Option.bind_eq_some_iff,Option.map_eq_some_iff] at aq;obtain⟨ρ2,⟨d,hd,rfl⟩,aq⟩:=aq;rw[PE.evs_eq,List.map_append,List.map_map] at hd;have e1:js.map (PE.ev ρ∘PE.o)=js.map ρ.o:=rfl;rw[e1] at hd;have hfn:=(hΦ f _ d hd s hs).2 shs obs oy
 have uA:=handed h2 hC b0 rfl kL oz b3 ib Ho HT (vals:=args.map a.eval++vs) (by simp[gE]) (fun t x hx=>by
  rw[List.getElem?_append] at hx;split at hx
  ·rename_i ak;rw[List.length_map] at ak;rw[List.getElem?_map,List.getElem?_eq_getElem ak] at hx;cases hx;have:(args.map a.eval++vs).getD t undef=a.eval args[t]:=by
        rw[List.getD_eq_getElem?_getD,List.getElem?_append_left (by simpa using ak),List.getElem?_map,List.getElem?_eq_getElem ak];rfl
   rw[this];exact aiO h2 hC _
  ·rename_i gn;rw[List.length_map] at gn hx;rw[List.getElem?_map,Option.map_eq_some_iff] at hx;obtain⟨c,hc,rfl⟩:=hx;obtain⟨j,ver⟩:=c;have cr:(args.map a.eval++vs).getD t undef=vs.getD (t-args.length) undef:=by
        rw[List.getD_eq_getElem?_getD,List.getElem?_append_right (by simpa using gn),List.length_map,List.getD_eq_getElem?_getD]
   obtain⟨g1,g2⟩:=j2 _ j ver hc;refine⟨.none,⟨by rw[dL];exact g1,fun e=>?_⟩,fun y hy=>by cases hy⟩;rw[dL] at e;obtain⟨k,hk⟩:=ave _ j ver hc e;exact⟨k,hk,by rw[cr,g2 e,hk]⟩) (hfn:=hfn)
 refine uA.mono fun e w' hh=>?_;obtain⟨v,dr,os,rfl,rfl,PQ,mf⟩:=hh;obtain⟨g1,g2,g3⟩:=aht js 1 (l:=dr::os) aq (by simp[Env.setO,aQ]) HT oz
 obtain⟨σ1,dp,aT,hinv,bQ⟩:=mf ρ1 g1 (fun k j hk=>by
  have:=g2 k j hk;rw[Nat.add_comm] at this;simpa using this) (fun j hj aG=>by rw[g3 j hj];simp only[Env.setO];exact bq _ _ aG)
 refine⟨v,σ1,dp,aT,rfl,hinv,?_⟩;rw[g3 gK HT];simpa [Env.setO,aQ,D.tget] using bQ
def oL (S:St)(dst:Option Nat)(r:St×Ty×List PI):St×List PI:=
 match dst with
 |some d=>(r.1.setR d (.dat r.2.1),r.2.2++[.setR d (.tget (.o gK) 0)])
 |none=>(r.1,r.2.2)
theorem aCL {a b:List PI}{ρ:Env}:PI.runs Φ (a++b) ρ=(PI.runs Φ a ρ).bind (PI.runs Φ b):=by
 induction a generalizing ρ with
 |nil=>simp[PI.runs]
 |cons x a ih=>
  simp only[List.cons_append,PI.runs];cases x.run Φ ρ with
  |none=>rfl
  |some ρ1=>simp[ih]
theorem XH {o:Oper}{f:Nat}{vals:List Value}(ht:∀d,o.dst=some d→¬A d∧d<a.tmps.size){r:St×Ty×List PI}(hx:(execOp a.eval o).run C.P w=.ok (.enter f vals.toArray) w)
 (hc:∀ρ1,PI.runs Φ r.2.2 ρ=some ρ1→Calls C.P f vals.toArray w fun e w'=>∃v σ1 dp aT,e=.returned v∧Inv C r.1 ρ1 σ1 dp aT w0 σ0 A a w'∧Rep C.cap σ1 r.2.1 v ((ρ1.o gK).tget 0)):bT C w0 σ0 Φ S ρ A a w o (oL S o.dst r):=by
 intro ρ' aq K Q hK;simp only[Oper.wp,hx,Oper.upon];cases hd:o.dst with
 |none=>
  rw[hd] at aq hK;refine(hc ρ' aq).mono fun e w' hh=>?_;obtain⟨v,σ1,dp,aT,rfl,hinv,bQ⟩:=hh;refine hK _ _ ⟨σ1,dp,aT,?_⟩ rfl;have:(fun u=>A u∨(none:Option Nat)=some u)=A:=by funext u;simp
  rw[this];exact hinv
 |some d=>
  rw[hd] at aq hK;obtain⟨t1,t2⟩:=ht d hd;simp only[oL,aCL,Option.bind_eq_some_iff] at aq;obtain⟨ρ1,h1,h2⟩:=aq;simp[PI.runs,PI.run,PE.ev] at h2;subst h2;refine(hc ρ1 h1).mono fun e w' hh=>?_;obtain⟨v,σ1,dp,aT,rfl,hinv,bQ⟩:=hh;refine hK _ _ ⟨σ1,dp,aT,?_⟩ (size_put _ _ _);have:(fun u=>A u∨some d=some u)=(fun u=>A u∨u=d):=by funext u;simp[eq_comm]
  rw[this];exact hinv.setReg t1 (s:=.dat r.2.1) bQ t2 (fun _ _ e=>by cases e)
theorem Yh (h:Inv C S ρ σ own hv w0 σ0 A a w)(hC:CtxOK C σ0)(ba:dt C)(hΦ:cW C Φ){f:Nat}{args:Array Operand}{ts:Array TypeId}{r:St×Ty×List PI}{o:Oper}(ht:∀d,o.dst=some d→¬A d∧d<a.tmps.size)
 (hr:pA C S f args.toList []=some r) (ho:o.op=.call {callee:=.value (.func f),args:=args,argTypes:=ts}):bT C w0 σ0 Φ S ρ A a w o (oL S o.dst r):=by
 have hs:∃s,C.sig f=some s:=by
  simp only[pA,Option.bind_eq_some_iff] at hr;obtain⟨s,hs,_⟩:=hr;exact⟨s,hs⟩
 obtain⟨s,hs⟩:=hs;have hx:=T3 (a:=a) (w:=w) ba hs ho;have ly:args.map a.eval=(args.toList.map a.eval++[]).toArray:=by apply Array.ext';simp
 rw[ly] at hx;exact XH ht hx fun ρ1 aq=>Yg h hC hΦ (vs:=[]) rfl (fun i j ver e=>by simp at e) (fun i j ver e=>by simp at e) hr aq
def wI (S:St):List (Nat×Nat)→Bool
 |[]=>true
 |c::l=>Nat.beq c.2 (S.ver c.1)&&(match S.o c.1 with|.box ..=>true|_=>false)&&wI S l
theorem XM (h:Inv C S ρ σ own hv w0 σ0 A a w):∀{l:List (Nat×Nat)},wI S l=true→∀(i j ver:Nat),l[i]?=some (j,ver)→ver=S.ver j∧∃k,hv j=.pointer (some ⟨k,0,none⟩)
 |[],_,i,j,ver,e=>by simp at e
 |c::l,hl,i,j,ver,e=>by
  simp only[wI,Bool.and_eq_true] at hl;cases i with
  |zero=>
   simp at e;subst e;refine⟨Nat.eq_of_beq_eq_true hl.1.1,?_⟩;have h1:=hl.1.2;have h2:=h.objs j;split at h1
   ·rename_i ag shs eo;simp only at eo;rw[eo] at h2;obtain⟨k,cs,T,ds,g1,_⟩:=h2;exact⟨k,g1⟩
   ·cases h1
  |succ i=>simp at e;exact XM h hl.2 i j ver e
def wP (C:Ctx)(S:St)(t:Nat)(args:List Operand):Option (St×Ty×List PI):=
 match kA S [] t with
 |.fclo f caps=>bif wI S caps then pA C S f args caps else none
 |_=>none
theorem Yf (h:Inv C S ρ σ own hv w0 σ0 A a w)(hC:CtxOK C σ0)(ba:dt C)(hΦ:cW C Φ){t:Nat}{args:Array Operand}{ts:Array TypeId}{r:St×Ty×List PI}{o:Oper}(ht:∀d,o.dst=some d→¬A d∧d<a.tmps.size)
 (hr:wP C S t args.toList=some r) (ho:o.op=.call {callee:=.value (.tmp t),args:=args,argTypes:=ts}):bT C w0 σ0 Φ S ρ A a w o (oL S o.dst r):=by
 unfold wP at hr;split at hr
 case h_2=>cases hr
 rename_i f caps iu;cases hb:wI S caps<;>simp only[hb,cond_true,cond_false] at hr
 ·cases hr
 have jh:=(nI (gs:=[]) h rfl t).1;rw[iu] at jh;obtain⟨vs,h1,h2,h3⟩:=jh;have hs:∃s,C.sig f=some s:=by
  simp only[pA,Option.bind_eq_some_iff] at hr;obtain⟨s,hs,_⟩:=hr;exact⟨s,hs⟩
 obtain⟨s,hs⟩:=hs;have hx:=ahj (a:=a) (w:=w) (vs:=vs) (x:=.tmp t) ba hs (by simpa [Act.eval] using h1) ho;have ly:args.map a.eval++vs.toArray=(args.toList.map a.eval++vs).toArray:=by apply Array.ext';simp
 rw[ly] at hx;exact XH ht hx fun ρ1 aq=>Yg h hC hΦ h2 h3 (fun i j ver e _=>(XM h hb i j ver e).2) hr aq
def zH (S:St):List Operand→Option (List (Nat×Nat))
 |[]=>some []
 |x::xs=>
  match x with
  |.tmp t=>
   match kA S [] t with
   |.ptr j ver off=>bif Nat.beq ver (S.ver j)&&Nat.beq off 0 then(zH S xs).map fun r=>(j,ver)::r else none
   |_=>none
  |_=>none
def A0 (C:Ctx)(S:St)(dst:Nat)(fn:Fn)(first caps:Array Operand):Option (St×List PI):=
 match fn,first.toList with
 |.func f,[]=>
  match C.sig f with
  |some s=>bif p7 s.mode then(zH S caps.toList).map fun c=>(S.setR dst (.fclo f c),[.setR dst (.con .none)]) else none
  |none=>none
 |_,_=>none
theorem XN (h:Inv C S ρ σ own hv w0 σ0 A a w):∀{l:List Operand} {c:List (Nat×Nat)},zH S l=some c→c.length=l.length∧∀(i j ver:Nat),c[i]?=some (j,ver)→ver≤S.ver j∧(ver=S.ver j→(l.map a.eval).getD i undef=hv j)
 |[],c,e=>by simp only[zH,Option.some.injEq] at e;subst e;exact⟨rfl,fun i j ver e=>by simp at e⟩
 |x::xs,c,e=>by
  simp only[zH] at e;split at e
  case h_2=>cases e
  rename_i t;split at e
  case h_2=>cases e
  rename_i j ver off iu;cases hb:(Nat.beq ver (S.ver j)&&Nat.beq off 0)<;>simp only[hb,cond_true,cond_false] at e
  ·cases e
  simp only[Bool.and_eq_true] at hb;simp only[Option.map_eq_some_iff] at e;obtain⟨r,hr,rfl⟩:=e;obtain⟨g1,g2⟩:=XN h hr;have jh:=(nI (gs:=[]) h rfl t).1;rw[iu] at jh;refine⟨by simp[g1],fun i j' nL e=>?_⟩;cases i with
  |zero=>
   simp at e;obtain⟨rfl,rfl⟩:=e;refine⟨jh.1,fun e=>?_⟩;obtain⟨k,k1,k2⟩:=jh.2 e;have e0:off=0:=Nat.eq_of_beq_eq_true hb.2;subst e0;rw[k1,←k2];simp[Act.eval]
  |succ i=>simp at e;simpa using g2 i j' nL e
theorem aql (h:Inv C S ρ σ own hv w0 σ0 A a w)(ht:¬A dst)(ak:dst<a.tmps.size){fn:Fn}{first caps:Array Operand}{r:St×List PI}{o:Oper}(hr:A0 C S dst fn first caps=some r)(hd:o.dst=some dst)(ho:o.op=.makeFunc fn first caps):bT C w0 σ0 Φ S ρ A a w o r:=by
 unfold A0 at hr;split at hr
 case h_2=>cases hr
 rename_i f BE;split at hr
 case h_2=>cases hr
 rename_i s hs;cases hb:p7 s.mode<;>simp only[hb,cond_true,cond_false] at hr
 ·cases hr
 simp only[Option.map_eq_some_iff] at hr;obtain⟨c,hc,rfl⟩:=hr;obtain⟨g1,g2⟩:=XN h hc;have BB:first=#[]:=by rw[←Array.toList_inj];simpa using BE
 refine bT.value hd fun ρ' aq=>⟨.func (.func f) #[] (caps.toList.map a.eval).toArray,w,?_,?_⟩
 ·subst BB;have e9:caps.map a.eval=(caps.toList.map a.eval).toArray:=by apply Array.ext';rw[Array.toList_map]
  simp[execOp,ho,Instr.makeFunc,e9]
 ·have hρ:ρ'=ρ.setR dst .none:=by simp[PI.runs,PI.run,PE.ev] at aq;exact aq.symm
  subst hρ;exact⟨_,_,_,h.setReg ht (s:=.fclo f c) ⟨_,rfl,by simp[g1],g2⟩ ak (fun _ _ e=>by cases e)⟩
end
end Cx
namespace Cx
open Go Go.RowKit
inductive Gh where
 |fz (j:Nat)|fbox (b:Nat)|rereg (t j:Nat)|recell (b i j:Nat)|home (b i j:Nat) (T:TypeId)
def Gh.run (C:Ctx)(S:St):Gh→Option (St×List PI)
 |.fz j=>some (S.fz j,[])
 |.fbox b=>Bk S b
 |.rereg t j=>vW S t j
 |.recell b i j=>DR S b i j
 |.home b i j T=>BX C S b i j T
def iZ (C:Ctx):List Gh→St→Option (St×List PI)
 |[],S=>some (S,[])
 |g::gs,S=>(g.run C S).bind fun r=>(iZ C gs r.1).map fun q=>(q.1,r.2++q.2)
theorem nG {Φ:aU}:∀{a b:List PI} {ρ:Env},PI.runs Φ (a++b) ρ=(PI.runs Φ a ρ).bind (PI.runs Φ b)
 |[],b,ρ=>by simp[PI.runs]
 |x::a,b,ρ=>by
  simp only[List.cons_append,PI.runs];cases x.run Φ ρ with
  |none=>rfl
  |some ρ1=>simp[nG (a:=a) (b:=b)]
def og (S:St)(ops:Array Oper)(o:Oper):Option (List (Nat×Bool)):=
 match o.guard with
 |none=>some []
 |some (j,want)=>
  match(ops[j]?).bind (·.dst) with
  |some t=>
   match S.r t with
   |.dat .bool=>some [(t,want)]
   |.opt gs (.dat .bool)=>some ((t,want)::gs)
   |_=>none
  |none=>none
def sY (S:St)(gs:List (Nat×Bool)):Op→List Nat
 |.build _ ps=>bZ S gs (ps.toList.map (·.2))
 |.buildSlice _ _ ps=>bZ S gs (ps.toList.map (·.2))
 |.box _ x=>bZ S gs [x]
 |.pick _ x y=>bZ S gs [x,y]
 |.slice _ x _ _ _=>bZ S gs [x]
 |.mapUpdate _ _ k v=>bZ S gs [k,v]
 |.insert _ _ k v=>bZ S gs [k,v]
 |.store _ x v=>match gf S gs x with|.eptr ..=>bZ S gs [v]|_=>[]
 |_=>[]
def zI:List Sh→List Nat
 |[]=>[]
 |.obj j _::r=>j::zI r
 |_::r=>zI r
def EA (S:St)(gs:List (Nat×Bool)):List Operand→List Nat
 |[]=>[]
 |x::xs=>
  match gf S gs x with
  |.ptr j ver off=>bif Nat.beq ver (S.ver j)&&(match S.o j with|.box ..=>true|_=>false) then j::EA S gs xs else EA S gs xs
  |_=>EA S gs xs
def adJ (C:Ctx):Fn→Bool
 |.func f=>(match C.sig f with|some s=>p7 s.mode|none=>false)
 |_=>false
def pre (C:Ctx)(S:St)(gs:List (Nat×Bool))(op:Op):List Gh:=
 match op with
 |.makeFunc fn _ caps=>
  bif adJ C fn then[] else(EA S gs caps.toList).flatMap fun b=>(match S.o b with|.box _ shs=>(zI shs).map .fz|_=>[])++[.fbox b]
 |.load T x=>
  match gf S gs x,oE C.P T,C.P.info? T with
  |.ptr j _ off,some true,some inf=>(match S.o j with|.box _ shs=>(zI ((shs.drop off).take inf.size)).map .fz|_=>[])
  |_,_,_=>[]
 |op=>(sY S gs op).map .fz
def oP (C:Ctx)(S:St)(gs:List (Nat×Bool))(o:Oper):List Gh:=
 match o.op,o.dst with
 |.assign x,some t=>bif C.fr.any (Nat.beq t) then(bZ S gs [x]).map .fz else[]
 |_,_=>[]
def Of (P:Program):Nat→TypeId→List (Option TypeId)
 |0,_=>[]
 |n+1,t=>
  match P.underlying t with
  |some (.struct fs)=>fs.toList.flatMap fun f=>Of P n f.type
  |some (.array len e)=>(List.replicate len (Of P n e)).flatten
  |some (.slice e)=>[some e]
  |_=>[none]
def homes (P:Program)(b off:Nat)(T:TypeId):List Gh:=
 ((Of P 12 T).zipIdx).filterMap fun x=>x.1.map fun e=>.home b (off+x.2) (Z9 b (off+x.2)) e
def H4 (nh:List Nat)(l:List Gh):List Gh:=l.filter fun g=>match g with|.home _ _ j _=> !(nh.any (Nat.beq j))|_=>true
def ag6 (b off n:Nat):List Gh:=(List.range n).map fun i=>.recell b (off+i) (Z9 b (off+i))
def post (C:Ctx)(S:St)(o:Oper):List Gh:=
 match o.op,o.dst with
 |.assign _,some t=>[.rereg t t]
 |.alloc T,some t=>H4 C.nh (homes C.P t 0 T)
 |.store T x _,_=>
  match gf S [] x with
  |.ptr j _ off=>H4 C.nh (homes C.P j off T)++ag6 j off (match C.P.info? T with|some i=>i.size|none=>0)
  |_=>[]
 |_,_=>[]
def p9:Sh→Bool
 |.opt ..=>false
 |_=>true
def sd (C:Ctx)(S:St)(dst:Nat)(T:TypeId)(x:Operand):la:=
 match x with
 |.const v=>(nK C.P T).bind fun t=>(nM t).bind fun z=>bif iQ t v then some (S.setR dst (.dat z.1),[.setR dst (.con z.2)]) else none
 |_=>none
def core (C:Ctx)(S:St)(gs:List (Nat×Bool))(o:Oper):Option (St×List PI):=
 match o.dst with
 |some dst=>
  match nl C S gs dst o.op with
  |some r=>bif p9 r.1 then some (S.setR dst (hG gs r.1),r.2) else none
  |none=>
   match o.op,gs with
   |.assign x,[]=>
    bif C.fr.any (Nat.beq dst) then
          match oM C S [] dst x with
          |some r=>some (S.setR dst r.1,r.2)
          |none=>sd C S dst o.type x
    else
    match A1 C S dst o.type x with
    |some r=>some r
    |none=>
     match oM C S [] dst x with
     |some r=>some (S.setR dst r.1,r.2)
     |none=>sd C S dst o.type x
   |.alloc T,[]=>AT C S dst T
   |.box T x,[]=>AV C S dst T x
   |.buildSlice T n ps,gs=>
    match gs with
    |[]=>uf C S [] dst T n ps.toList
    |_=>wQ C S gs dst T n ps.toList
   |.makeSlice T l c,[]=>AZ C S dst T l c
   |.makeMap T r,[]=>AY C S dst T r
   |.range T x,[]=>A2 C S dst T x
   |.convert T U x,[]=>AW C S dst T U x
   |.call c,gs=>
    match c.callee,gs with
    |.builtin .append,[]=>
     match c.args.toList,c.argTypes.toList with
     |[s,x],[T,T']=>bif Nat.beq T T' then AU C S dst T s x else none
     |_,_=>none
    |.value (.func f),gs=>
     match nX C S gs dst f c.args.toList with
     |some r=>some (r.1.setR dst (hG gs r.2.1),r.2.2)
     |none=>
      match gs with
      |[]=>
       match AX C S dst f c.args.toList with
       |some r=>some r
       |none=>(pA C S f c.args.toList []).map (oL S (some dst))
      |_=>none
    |.value x,gs=>
     match mV C S gs dst x c.args.toList with
     |some r=>some (r.1.setR dst (hG gs r.2.1),r.2.2)
     |none=>
      match x,gs with
      |.tmp t,[]=>(wP C S t c.args.toList).map (oL S (some dst))
      |_,_=>none
    |_,_=>none
   |.makeFunc fn first caps,[]=>A0 C S dst fn first caps
   |_,_=>none
 |none=>
  match o.op,gs with
  |.store T x v,[]=>sc C S T x v
  |.mapUpdate T m k v,[]=>qL C S T m k v
  |.insert T m k v,[]=>qL C S T m k v
  |.panic _,[]=>some (S,[.chk (.nt (.con (.bool true)))])
  |.call c,[]=>
   match c.callee with
   |.value (.func f)=>(pA C S f c.args.toList []).map (oL S none)
   |.value (.tmp t)=>(wP C S t c.args.toList).map (oL S none)
   |_=>none
  |_,_=>none
def aff (dst:Nat)(l:List PI):Bool:=l.all fun p=>p.modR.all (Nat.beq dst)&&p.modO.isEmpty
def hH (gs:List (Nat×Bool))(dst:Option Nat)(l:List PI):Bool:=
 match gs,dst with
 |[],_=>true
 |_,some d=>aff d l
 |_,none=>false
def AP (C:Ctx)(S:St)(ops:Array Oper)(o:Oper):Option (St×List PI):=
 (og S ops o).bind fun gs=>
 (iZ C (pre C S gs o.op++oP C S gs o) S).bind fun r1=>
 (core C r1.1 gs o).bind fun r2=>
 (iZ C (post C r2.1 o) r2.1).bind fun r3=>
 bif hH gs o.dst r2.2 then some (r3.1,r1.2++r2.2++r3.2) else none
def D3:PI:=.chk (.con (.v (.bool false)))
def wM (C:Ctx)(S:St)(ops:Array Oper)(o:Oper):Option (St×List PI):=
 match AP C S ops o with
 |some r=>some r
 |none=>some (match o.dst with|some d=>S.setR d .none|none=>S,[D3])
section
variable {C:Ctx} {S:St} {ρ:Env} {σ:Im} {own:Nat→Option Nat} {hv:Nat→Value} {w0:World} {σ0:Base} {A:Nat→Prop} {a:Act} {w:World} {gs:List (Nat×Bool)} {Φ:aU} {dst:Nat}
theorem Gh.sound {g:Gh}{r:St×List PI}(h:Good C w0 σ0 S ρ A a w)(hr:g.run C S=some r):y6 C w0 σ0 Φ S ρ A a w r:=by
 obtain⟨σ,own,hv,h⟩:=h;cases g with
 |fz j=>
  simp only[Gh.run,Option.some.injEq] at hr;subst hr;intro ρ' aq;rw[mO aq];obtain⟨σ',own',_,h'⟩:=h.fz j;exact⟨σ',own',hv,h'⟩
 |fbox b=>exact aum h hr
 |rereg t j=>exact aCu h hr
 |recell b i j=>exact aCt h hr
 |home b i j T=>exact awv h hr
theorem OS:∀(l:List Gh) {S:St} {ρ ρ':Env} {r:St×List PI},Good C w0 σ0 S ρ A a w→iZ C l S=some r→PI.runs Φ r.2 ρ=some ρ'→Good C w0 σ0 r.1 ρ' A a w
 |[],S,ρ,ρ',r,h,hr,aq=>by
  simp only[iZ,Option.some.injEq] at hr;subst hr;rw[mO aq];exact h
 |g::l,S,ρ,ρ',r,h,hr,aq=>by
  simp only[iZ,Option.bind_eq_some_iff,Option.map_eq_some_iff] at hr;obtain⟨q,hq,q2,fD,rfl⟩:=hr;simp only[nG,Option.bind_eq_some_iff] at aq;obtain⟨ρ1,h1,h2⟩:=aq;exact OS (r:=q2) l (Gh.sound (Φ:=Φ) h hq ρ1 h1) fD h2
theorem YU (h:Good C w0 σ0 S ρ A a w){ops:Array Oper}{o:Oper}(hg:og S ops o=some gs):Region.wanted o (yielded ops a.tmps)=holds gs ρ:=by
 obtain⟨σ,own,hv,h⟩:=h;unfold og at hg;unfold Region.wanted;split at hg
 ·rename_i e;cases hg;simp[e,holds]
 ·rename_i j want e;simp only[e];split at hg
  case h_2=>cases hg
  rename_i t ht;have jh:=h.regs t;have hy:∀v,a.tmps.getD t undef=v→(∀b,v=.bool b→yielded ops a.tmps j=some b)∧(v=undef→yielded ops a.tmps j=none):=by
   intro v hv';unfold yielded;rw[ht];simp only[Option.bind_some];rw[Array.getD_eq_getD_getElem?] at hv';cases m4:a.tmps[t]? with
   |none=>rw[m4] at hv';simp at hv';subst hv';exact⟨fun b e=>absurd e (by simp[undef]),fun _=>rfl⟩
   |some u=>rw[m4] at hv';simp at hv';subst hv';exact⟨fun b e=>by subst e;rfl,fun e=>by subst e;rfl⟩
  split at hg
  ·rename_i es;cases hg;rw[es] at jh;obtain⟨b,jc,dh⟩:=Rep.bool_inv jh;rw[(hy _ jc).1 b rfl];simp[holds,dh,D.b_bool]
  ·rename_i bH es;cases hg;rw[es] at jh;simp only[holds,List.all_cons];cases hh:holds bH ρ with
   |true=>
    obtain⟨b,jc,dh⟩:=Rep.bool_inv (jh.1 hh);rw[(hy _ jc).1 b rfl];unfold holds at hh;rw[hh,dh];simp[D.b_bool]
   |false=>
    rw[(hy _ (jh.2 hh)).2 rfl];unfold holds at hh;rw[hh];simp
  ·cases hg
theorem YT (h:Good C w0 σ0 S ρ A a w){ops:Array Oper}{o:Oper}(hg:og S ops o=some gs)(hj:∀j want t,o.guard=some (j,want)→(ops[j]?).bind (·.dst)=some t→A t):∀g,g∈gs→A g.1:=by
 obtain⟨σ,own,hv,h⟩:=h;unfold og at hg;split at hg
 ·cases hg;simp
 ·rename_i j want e;split at hg
  case h_2=>cases hg
  rename_i t ht;have hA:=hj j want t e ht;split at hg
  ·cases hg;intro g hm;simp at hm;subst hm;exact hA
  ·rename_i bH es;cases hg;intro g hm;rcases List.mem_cons.1 hm with e'|eQ
   ·subst e';exact hA
   ·exact(h.opts t bH _ es).1 g eQ
  ·cases hg
theorem aAS (h:Inv C S ρ σ own hv w0 σ0 A a w)(hC:CtxOK C σ0)(hg:holds gs ρ=true){o:Oper}{r:Sh×List PI}(hr:nl C S gs dst o.op=some r):dQ C S ρ σ hv Φ dst a w o r:=by
 unfold nl at hr;split at hr
 ·rename_i x e;exact afj h hC hg hr (.inl e)
 ·rename_i c x y e;exact aAR h hC hg hr e
 ·rename_i op T x y T' e;exact aAs h hC hg hr e
 ·rename_i op T x e;exact aAW h hC hg hr e
 ·rename_i s d x e;exact aAw h hC hg hr e
 ·rename_i T x e;exact IV h hC hg hr e
 ·rename_i T x i e;exact aAA h hC hg hr e
 ·rename_i T x i e;exact aAC h hC hg hr e
 ·rename_i T x i e;exact aAF h hC hg hr e
 ·rename_i T x i e;exact aAH h hC hg hr e
 ·rename_i x i e;exact aAy h hC hg hr e
 ·rename_i T m k ok e;exact aAN h hC hg hr e
 ·rename_i T x lo hi mx e;exact aAU h hC hg hr e
 ·rename_i f a b e;exact aAD h hC hg hr e
 ·rename_i T ps e;exact aAu h hC hg hr e
 ·rename_i x e;exact aAP h hC hg hr e
 ·cases hr;intro ρ' aq;have:=(T5 hg aq).1;cases this
 ·rename_i c e;split at hr
  ·rename_i x T hc ha ht;refine aAJ h hC hg hr ?_;rw[e];cases c with|mk callee args argTypes=>
   simp only at hc ha ht;have h1:args=#[x]:=by rw[←Array.toList_inj];exact ha
   have h2:argTypes=#[T]:=by rw[←Array.toList_inj];exact ht
   rw[hc,h1,h2]
  ·rename_i x y hc ha;refine afh (ts:=c.argTypes) h hC hg hr ?_;rw[e];cases c with|mk callee args argTypes=>
   simp only at hc ha;have h1:args=#[x,y]:=by rw[←Array.toList_inj];exact ha
   rw[hc,h1];rfl
  ·rename_i x y hc ha;refine afh (ts:=c.argTypes) h hC hg hr ?_;rw[e];cases c with|mk callee args argTypes=>
   simp only at hc ha;have h1:args=#[x,y]:=by rw[←Array.toList_inj];exact ha
   rw[hc,h1];rfl
  ·cases hr
 ·cases hr
theorem aqt (h:Inv C S ρ σ own hv w0 σ0 A a w)(ht:¬A dst)(ak:dst<a.tmps.size){T:TypeId}{x:Operand}{r:St×List PI}(hr:sd C S dst T x=some r){o:Oper}(hd:o.dst=some dst)(ho:o.op=.assign x):bT C w0 σ0 Φ S ρ A a w o r:=by
 unfold sd at hr;split at hr
 case h_2=>cases hr
 rename_i v;simp only[Option.bind_eq_some_iff] at hr;obtain⟨t,_,z,hz,hr⟩:=hr;cases hc:iQ t v<;>simp only[hc,cond_true,cond_false] at hr
 ·cases hr
 cases hr;have bQ:=(wq (cap:=C.cap) (σ:=σ) hz hc).1;refine bT.value hd fun ρ' aq=>⟨v,w,by simp[execOp,ho,Act.eval],?_⟩
 have hρ:ρ'=ρ.setR dst z.2:=by simp[PI.runs,PI.run,PE.ev] at aq;exact aq.symm
 subst hρ;exact⟨_,_,_,h.setReg ht (s:=.dat z.1) bQ ak (fun _ _ e=>by cases e)⟩
theorem apn (h:Inv C S ρ σ own hv w0 σ0 A a w)(hC:CtxOK C σ0)(ba:dt C)(hΦ:cW C Φ){o:Oper}(ht:∀d,o.dst=some d→¬A d∧d<a.tmps.size)(dy:∀g,g∈gs→A g.1)(hg:holds gs ρ=true){r:St×List PI}
 (hr:core C S gs o=some r):bT C w0 σ0 Φ S ρ A a w o r:=by
 unfold core at hr;split at hr
 ·rename_i dst hd;obtain⟨gp,gq⟩:=ht dst hd;split at hr
  ·rename_i q hq;cases eE:p9 q.1<;>simp only[eE,cond_true,cond_false] at hr
   ·cases hr
   cases hr;have aaf:=aAS (Φ:=Φ) h hC hg hq;cases gs with
   |nil=>exact aaf.eff h gp gq hd
   |cons g bH=>exact aaf.effG h gp gq dy hg hd
  ·rename_i PH;clear PH;split at hr
   ·rename_i x e
    have mv:∀r,(match oM C S [] dst x with|some r=>some (S.setR dst r.1,r.2)|none=>sd C S dst o.type x)=some r→bT C w0 σ0 Φ S ρ A a w o r:=by
     intro r hr;split at hr
     ·rename_i q hq;cases hr;exact(afj (Φ:=Φ) h hC hg hq (.inr e)).eff h gp gq hd
     ·exact aqt h gp gq hr hd e
    cases cS:C.fr.any (Nat.beq dst)<;>simp only[cS,cond_true,cond_false] at hr
    ·split at hr
     ·rename_i q hq;cases hr;exact aqn h hC gp gq hq hd e
     ·exact mv r hr
    ·exact mv r hr
   ·rename_i T e;exact apX h gp gq hr hd e
   ·rename_i T x e;exact ap1 h hC gp gq hr hd e
   ·rename_i T n ps e;split at hr
    ·exact ap3 h hC gp gq hr hd e
    ·exact aqf h hC gp gq dy hg hr hd e
   ·rename_i T l c e;exact aqj h hC gp gq hr hd e
   ·rename_i T m e;exact aqh h gp gq hr hd e
   ·rename_i T x e;exact aqp h gp gq hr hd e
   ·rename_i T U x e;exact ap5 h hC gp gq hr hd e
   ·rename_i c e;cases c with|mk callee args argTypes=>
    split at hr
    ·rename_i hc;simp only at hc;split at hr
     ·rename_i s x T T' ha Qf;simp only at ha Qf;cases hT:Nat.beq T T'<;>simp only[hT,cond_true,cond_false] at hr
      ·cases hr
      have w9:=Nat.eq_of_beq_eq_true hT;subst w9;refine apZ h hC gp gq hr hd ?_;have h1:args=#[s,x]:=by rw[←Array.toList_inj];exact ha
      have h2:argTypes=#[T,T]:=by rw[←Array.toList_inj];exact Qf
      rw[e,hc,h1,h2]
     ·cases hr
    ·rename_i f hc;simp only at hc;split at hr
     ·rename_i q hq;cases hr;exact aqd h hC ba hΦ gp gq dy hg hq hd (by rw[e,hc])
     ·split at hr
      ·split at hr
       ·rename_i q hq;cases hr;exact aqa h hC ba hΦ gp gq hq hd (by rw[e,hc])
       ·simp only[Option.map_eq_some_iff] at hr;obtain⟨q,hq,rfl⟩:=hr;rw[←hd];exact Yh h hC ba hΦ ht hq (by rw[e,hc])
      ·cases hr
    ·rename_i x PF hc;simp only at hc;split at hr
     ·rename_i q hq;cases hr;exact ap8 h hC ba hΦ gp gq dy hg hq hd (by rw[e,hc])
     ·split at hr
      ·simp only[Option.map_eq_some_iff] at hr;obtain⟨q,hq,rfl⟩:=hr;rw[←hd];exact Yf h hC ba hΦ ht hq (by rw[e,hc])
      ·cases hr
    ·cases hr
   ·rename_i fn first caps e;exact aql h gp gq hr hd e
   ·cases hr
 ·rename_i hd;split at hr
  ·rename_i T x v e;exact aqr h hC hr hd e
  ·rename_i T m k v e;exact Yj h hC hr hd (.inl e)
  ·rename_i T m k v e;exact Yj h hC hr hd (.inr e)
  ·cases hr;intro ρ' aq;simp[PI.runs,PI.run,PE.ev,D.bool,D.b] at aq
  ·rename_i c e;cases c with|mk callee args argTypes=>
   split at hr
   ·rename_i f hc;simp only at hc;simp only[Option.map_eq_some_iff] at hr;obtain⟨q,hq,rfl⟩:=hr;rw[←hd];exact Yh h hC ba hΦ ht hq (by rw[e,hc])
   ·rename_i t hc;simp only at hc;simp only[Option.map_eq_some_iff] at hr;obtain⟨q,hq,rfl⟩:=hr;rw[←hd];exact Yf h hC ba hΦ ht hq (by rw[e,hc])
   ·cases hr
  ·cases hr
theorem apl {g:Nat×Bool}{bH:List (Nat×Bool)}{o:Oper}{r:St×List PI}(hr:core C S (g::bH) o=some r):
 ∃dst S2 s,o.dst=some dst∧r.1=S2.setR dst (.opt (g::bH) s)∧((∃js,S2=S.fzs js)∨∃j,S2=S.newO j .dead)∧(∀gs s',s≠.opt gs s')∧(∀x,o.op≠.assign x)∧(∀T,o.op≠.alloc T)∧∀T x v,o.op≠.store T x v:=by
 unfold core at hr;split at hr
 ·rename_i dst hd;split at hr
  ·rename_i q hq;cases eE:p9 q.1<;>simp only[eE,cond_true,cond_false] at hr
   ·cases hr
   cases hr;refine⟨dst,S,q.1,hd,rfl,.inl ⟨[],rfl⟩,(fun gs s' e=>by rw[e] at eE;cases eE),fun x e=>?_,fun T e=>?_,fun T x v e=>?_⟩<;>(rw[e] at hq;simp[nl] at hq)
  ·rename_i PH;clear PH;split at hr
   case h_4=>
        rename_i T n ps e;split at hr
        ·rename_i hx;cases hx
        ·unfold wQ at hr;split at hr
         case h_2=>cases hr
         simp only[Option.bind_eq_some_iff] at hr;obtain⟨e0,he0,hr⟩:=hr;split at hr
         ·cases hr;exact⟨dst,_,.dat (.slice e0.rol),hd,rfl,.inr ⟨dst,rfl⟩,(fun _ _ e=>by cases e),(fun x e'=>by rw[e] at e';cases e'),(fun x e'=>by rw[e] at e';cases e'),(fun _ _ _ e'=>by rw[e] at e';cases e')⟩
         ·cases hr
   case h_9=>
        rename_i c e;split at hr
        ·rename_i hx;cases hx
        ·rename_i f hc;split at hr
         ·rename_i q hq;cases hr;simp only[nX,Option.bind_eq_some_iff] at hq;obtain⟨s,hs,hq⟩:=hq;split at hq
          case h_2=>cases hq
          simp only[Option.bind_eq_some_iff] at hq;obtain⟨u,hu,hq⟩:=hq;cases cq:Ty.subs u.1 s.args<;>simp only[cq,cond_true,cond_false] at hq
          ·cases hq
          cases hq;refine⟨dst,_,.dat s.res,hd,rfl,?_,(fun _ _ e=>by cases e),(fun x e'=>by rw[e] at e';cases e'),(fun x e'=>by rw[e] at e';cases e'),(fun _ _ _ e'=>by rw[e] at e';cases e')⟩;left;cases s.res.pure
          ·exact⟨_,rfl⟩
          ·exact⟨[],rfl⟩
         ·cases hr
        ·rename_i x PF hc;have hr:∃q,mV C S (g::bH) dst x c.args.toList=some q∧(q.1.setR dst (hG (g::bH) q.2.1),q.2.2)=r:=by
          split at hr
          ·rename_i q hq;cases hr;exact⟨q,hq,rfl⟩
          ·split at hr
           all_goals (first|(cases hr;done)|(rename_i hx;cases hx;done)|(rename_i hx _;cases hx;done)|(rename_i hx _ _;cases hx;done)|(rename_i hx;exact absurd hx (by simp)))
         obtain⟨q,hq,rfl⟩:=hr;unfold mV at hq;split at hq
         case h_2=>cases hq
         rename_i as r0 ee Qg;split at hq
         case h_1=>cases hq
         simp only[Option.bind_eq_some_iff] at hq;obtain⟨u,hu,hq⟩:=hq;cases cq:Ty.subs u.1 as<;>simp only[cq,cond_true,cond_false] at hq
         ·cases hq
         cases hq;refine⟨dst,_,.dat r0,hd,rfl,?_,(fun _ _ e=>by cases e),(fun x e'=>by rw[e] at e';cases e'),(fun x e'=>by rw[e] at e';cases e'),(fun _ _ _ e'=>by rw[e] at e';cases e')⟩;left;cases r0.pure
         ·exact⟨_,rfl⟩
         ·exact⟨[],rfl⟩
        ·cases hr
   all_goals (first|(cases hr;done)|(rename_i hx;cases hx;done)|(rename_i hx _;cases hx;done))
 ·split at hr
  all_goals (first|(cases hr;done)|(rename_i hx;cases hx;done)|(rename_i hx _;cases hx;done))
theorem Z8 {ρ ρ1:Env}:∀{l:List (Nat×Bool)},(∀g,g∈l→ρ1.r g.1=ρ.r g.1)→holds l ρ1=holds l ρ
 |[],_=>rfl
 |x::l,h=>by
  have ih:=Z8 (l:=l) fun y hy=>h y (List.mem_cons_of_mem _ hy);unfold holds at ih ⊢;simp only[List.all_cons];rw[ih,h x (List.mem_cons_self ..)]
theorem YP:∀(l:List Gh) {S:St} {r:St×List PI},iZ C l S=some r→∀t,t∉r.2.flatMap PI.modR
 |[],S,r,hr=>by simp only[iZ,Option.some.injEq] at hr;subst hr;simp
 |g::l,S,r,hr=>by
  simp only[iZ,Option.bind_eq_some_iff,Option.map_eq_some_iff] at hr;obtain⟨q,hq,q2,fD,rfl⟩:=hr;have ih:=YP l fD;have hg:∀t,t∉q.2.flatMap PI.modR:=by
   cases g with
   |fz j=>simp only[Gh.run,Option.some.injEq] at hq;subst hq;simp
   |fbox b=>
    simp only[Gh.run,Bk] at hq;split at hq
    case h_2=>cases hq
    simp only[Option.bind_eq_some_iff] at hq;obtain⟨x,hx,hq⟩:=hq;rename_i ag shs eo;cases ag<;>simp only[cond_true,cond_false] at hq
    ·split at hq
     ·cases hq;simp[PI.modR]
     ·cases hq
    ·cases hq;simp[PI.modR]
   |rereg t j=>
    simp only[Gh.run,vW] at hq;split at hq
    ·rename_i j' ver es;cases hb:(Nat.beq ver (S.ver j')&&mA (S.o j')&& !Nat.beq j' j)<;>simp only[hb,cond_true,cond_false] at hq<;>cases hq<;>simp[PI.modR]
    ·cases hq;simp
   |recell b i j=>
    simp only[Gh.run,DR] at hq;split at hq
    ·split at hq
     ·rename_i ag shs eo j' ver es;cases hb:(Nat.beq ver (S.ver j')&&mA (S.o j')&& !Nat.beq j' j&& !Nat.beq b j&& !Nat.beq b j')<;>simp only[hb,cond_true,cond_false] at hq<;>cases hq<;>simp[PI.modR]
     ·cases hq;simp
    ·cases hq;simp
   |home b i j T=>
    simp only[Gh.run,BX] at hq;split at hq
    ·split at hq
     ·cases hb:(!Nat.beq b j)<;>simp only[hb,cond_true,cond_false] at hq<;>cases hq<;>simp[PI.modR]
     ·cases hq;simp
    ·cases hq;simp
  intro t hm;rw[List.flatMap_append,List.mem_append] at hm;exact hm.elim (hg t) (ih t)
theorem ape (h:Good C w0 σ0 S ρ A a w)(hC:CtxOK C σ0)(ba:dt C)(hΦ:cW C Φ){ops:Array Oper}{o:Oper}(ht:∀d,o.dst=some d→¬A d∧d<a.tmps.size)
 (hj:∀j want t,o.guard=some (j,want)→(ops[j]?).bind (·.dst)=some t→A t) {r:St×List PI} (hr:AP C S ops o=some r) {ρ':Env} (aq:PI.runs Φ r.2 ρ=some ρ')
 {K:Act→World→Prop} {Q:Exit→Act→World→Prop} (hK:∀a' w',Good C w0 σ0 r.1 ρ' (fun u=>A u∨o.dst=some u) a' w'→a'.tmps.size=a.tmps.size→K a' w'):
 if Region.wanted o (yielded ops a.tmps) then o.wp C.P a w K Q else K (a.put o.dst undef) w:=by
 simp only[AP,Option.bind_eq_some_iff] at hr;obtain⟨gs,dy,r1,gQ,r2,oB,r3,uN,hr⟩:=hr;have xj:=YT h dy hj;rw[YU h dy];cases hc:hH gs o.dst r2.2<;>simp only[hc,cond_true,cond_false] at hr
 ·cases hr
 cases hr;simp only[nG,Option.bind_eq_some_iff] at aq;obtain⟨ρ2,⟨ρ1,hρ1,hρ2⟩,hρ3⟩:=aq;have h1:=OS _ h gQ hρ1;have cD:=h1;obtain⟨σ1,dp,aT,i1⟩:=cD;have Hu:holds gs ρ1=holds gs ρ:=by
  cases gs with
  |nil=>rfl
  |cons g bH=>
   have hb:=(PI.runs_but hρ1).r
   have:∀x,x∈(g::bH)→ρ1.r x.1=ρ.r x.1:=fun x hm=>hb x.1 (by
        intro cP;exact YP _ gQ x.1 cP)
   exact Z8 this
 cases hh:holds gs ρ with
 |true=>
  simp only[if_true];rw[hh] at Hu;refine apn i1 hC ba hΦ ht xj Hu oB ρ2 hρ2 K Q (fun a' w' fh aN=>?_);exact hK a' w' (OS (r:=r3) _ fh uN hρ3) aN
 |false=>
  simp only[Bool.false_eq_true,if_false];rw[hh] at Hu;cases gs with
  |nil=>simp[holds] at hh
  |cons g bH=>
   obtain⟨dst,S2,s,hd,hS,w8,hns,n1,n2,n3⟩:=apl oB;obtain⟨t1,t2⟩:=ht dst hd;have jG:post C r2.1 o=[]:=by
        unfold post;split
        ·rename_i x t e _;exact absurd e (n1 x)
        ·rename_i T t e _;exact absurd e (n2 T)
        ·rename_i T x v e;exact absurd e (n3 T x v)
        ·rfl
   rw[jG] at uN;simp only[iZ,Option.some.injEq] at uN;subst uN;have:=mO hρ3;subst this;obtain⟨σ2,gT,i2⟩:∃σ2 gT,Inv C S2 ρ1 σ2 gT aT w0 σ0 A a w:=by
        rcases w8 with⟨js,rfl⟩|⟨j,rfl⟩
        ·obtain⟨σ2,gT,_,i2⟩:=Inv.fzs js i1;exact⟨σ2,gT,i2⟩
        ·exact⟨σ1,dp,i1.kill j⟩
   have B0:=i2.passed t1 t2 xj Hu (s:=s) hns (ρ'.r dst);have hρe:ρ1.setR dst (ρ'.r dst)=ρ':=by
        have hb:=PI.runs_but hρ2;simp only[hH,hd] at hc;unfold aff at hc;rw[List.all_eq_true] at hc
        have e1:∀t,t≠dst→ρ'.r t=ρ1.r t:=fun t aG=>hb.r t (fun hm=>by
         obtain⟨p,hp,sF⟩:=List.mem_flatMap.1 hm;have:=hc p hp;simp only[Bool.and_eq_true] at this;have:=List.all_eq_true.1 this.1 t sF;exact aG (Nat.eq_of_beq_eq_true this).symm)
        have e2:∀t,ρ'.o t=ρ1.o t:=fun t=>hb.o t (fun hm=>by
         obtain⟨p,hp,sF⟩:=List.mem_flatMap.1 hm;have:=hc p hp;simp only[Bool.and_eq_true] at this;have h9:=List.isEmpty_iff.1 this.2;rw[h9] at sF;cases sF)
        have r1:bV ρ1.r dst (ρ'.r dst)=ρ'.r:=by
         funext t;rw[fL];split
         ·rename_i e;subst e;rfl
         ·rename_i aG;exact(e1 t aG).symm
        have r2:ρ1.o=ρ'.o:=funext fun t=>(e2 t).symm;cases ρ' with|mk a b=>simp only[Env.setR] at r1 r2 ⊢;rw[r1,r2]
   rw[hρe] at B0;have jd:(fun u=>A u∨o.dst=some u)=(fun u=>A u∨u=dst):=by funext u;rw[hd];simp[eq_comm]
   rw[jd] at hK;rw[hd];refine hK _ _ ?_ (size_put _ _ _);simp only;rw[hS];exact⟨_,_,_,B0⟩
theorem apg (h:Good C w0 σ0 S ρ A a w)(hC:CtxOK C σ0)(ba:dt C)(hΦ:cW C Φ){ops:Array Oper}{o:Oper}(ht:∀d,o.dst=some d→¬A d∧d<a.tmps.size)
 (hj:∀j want t,o.guard=some (j,want)→(ops[j]?).bind (·.dst)=some t→A t) {r:St×List PI} (hr:wM C S ops o=some r) {ρ':Env} (aq:PI.runs Φ r.2 ρ=some ρ')
 {K:Act→World→Prop} {Q:Exit→Act→World→Prop} (hK:∀a' w',Good C w0 σ0 r.1 ρ' (fun u=>A u∨o.dst=some u) a' w'→a'.tmps.size=a.tmps.size→K a' w'):
 if Region.wanted o (yielded ops a.tmps) then o.wp C.P a w K Q else K (a.put o.dst undef) w:=by
 unfold wM at hr;split at hr
 ·rename_i q hq;cases hr;exact ape h hC ba hΦ ht hj hq aq hK
 ·cases hr;simp[PI.runs,PI.run,D3,PE.ev,D.b_bool] at aq
end
end Cx
