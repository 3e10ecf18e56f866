/-
  Shared texts of this claim.
-/
import Derived.Test.YtodhjdbleiakeaaGreatDoorNAC
import Derived.Tactics
import Derived.RangeFuncIn
import Derived.OrdersIn
set_option linter.unusedSimpArgs false
set_option linter.unusedVariables false
namespace Cx
open Go Go.RowKit
open Classical in
noncomputable def Im.noM (σ:Im):Im:=⟨σ.c,fun k=>if σ.m k=some cP then none else σ.m k⟩
theorem Rep.noM {cap:Nat→Option CSig}{σ:Im}{t:Ty}{v:Value}{d:D}(h:Rep cap σ t v d):Rep cap σ.noM t v d:=by
 induction h with
 |int k n h1 h2=>exact .int k n h1 h2
 |bool b=>exact .bool b
 |str s h=>exact .str s h
 |agg ts vs ds h1 h2 _ ho ih=>exact .agg ts vs ds h1 h2 ih ho
 |tup ts vs ds h1 h2 _ ih=>exact .tup ts vs ds h1 h2 ih
 |nil e=>exact .nil e
 |emp e a=>exact .emp e a
 |nils e=>exact .nils e
 |nsl0 e=>exact .nsl0 e
 |nsl e k o n c xs _ hx ih=>exact .nsl e k o n c xs ih hx
 |slice e k o n c xs vs hn hc hm _ hv ih=>exact .slice e k o n c xs vs hn hc hm ih hv
 |mapnil kt et=>exact .mapnil kt et
 |map kt et r jc es hm hl hx hk _ jU Dv=>
  refine .map kt et r jc es ?_ hl hx jU Dv;have aB:σ.m r≠some cP:=fun e=>by rw[hm] at e;cases e;exact DN hl hk rfl
  simp only[Im.noM,if_neg aB,hm]
 |ref t k o v d _ hv ih=>exact .ref t k o v d ih hv
 |fn f cs vs ds hc h1 h2 _ ih=>exact .fn f cs vs ds hc h1 h2 ih
 |fnnil aa r=>exact .fnnil aa r
def Im.plus (σ τ:Im):Im:=⟨fun k o=>(σ.c k o).or (τ.c k o),fun k=>(σ.m k).or (τ.m k)⟩
theorem Im.plus_le1 (σ τ:Im):σ.le (σ.plus τ):=⟨fun k o v h=>by simp[Im.plus,h],fun k v h=>by simp[Im.plus,h]⟩
theorem qw.det {w:World}{k:Nat}{x y:List (Value×Value)}(h:qw w k x)(g:qw w k y):x=y:=by
 rcases h with⟨_,a,c,h1,h2⟩|⟨h1,h2⟩<;>rcases g with⟨_,a',c',g1,g2⟩|⟨g1,g2⟩
 ·rw[h1] at g1;cases g1;rw[←h2,←g2]
 ·rw[h1] at g2;cases g2
 ·rw[h2] at g1;cases g1
 ·rw[h1,g1]
theorem Im.plus_le2 {σ τ:Im}{w:World}(h:σ.ok w)(g:τ.ok w):τ.le (σ.plus τ):=by
 refine⟨fun k o v e=>?_,fun k v e=>?_⟩
 ·show(σ.c k o).or (τ.c k o)=some v;cases hc:σ.c k o with
  |none=>simpa using e
  |some u=>have:=(h.c k o u hc).symm.trans (g.c k o v e);simpa using this
 ·show(σ.m k).or (τ.m k)=some v;cases hc:σ.m k with
  |none=>simpa using e
  |some u=>simpa using(h.m k u hc).det (g.m k v e)
theorem Im.plus_ok {σ τ:Im}{w:World}(h:σ.ok w)(g:τ.ok w):(σ.plus τ).ok w:=by
 refine⟨fun k o v e=>?_,fun k v e=>?_⟩
 ·change (σ.c k o).or (τ.c k o)=some v at e;cases hc:σ.c k o with
  |none=>rw[hc] at e;exact g.c k o v (by simpa using e)
  |some u=>rw[hc] at e;simp at e;subst e;exact h.c k o u hc
 ·change (σ.m k).or (τ.m k)=some v at e;cases hc:σ.m k with
  |none=>rw[hc] at e;exact g.m k v (by simpa using e)
  |some u=>rw[hc] at e;simp at e;subst e;exact h.m k u hc
theorem Im.plus_c {σ τ:Im}{k o:Nat}{v:Value}(h:(σ.plus τ).c k o=some v):σ.c k o=some v∨τ.c k o=some v:=by
 change (σ.c k o).or (τ.c k o)=some v at h;cases hc:σ.c k o with
 |none=>rw[hc] at h;exact .inr (by simpa using h)
 |some u=>rw[hc] at h;exact .inl (by simpa using h)
theorem Im.plus_m {σ τ:Im}{k:Nat}{v:List (Value×Value)}(h:(σ.plus τ).m k=some v):σ.m k=some v∨τ.m k=some v:=by
 change (σ.m k).or (τ.m k)=some v at h;cases hc:σ.m k with
 |none=>rw[hc] at h;exact .inr (by simpa using h)
 |some u=>rw[hc] at h;exact .inl (by simpa using h)
def Ty.pureT:Ty→Bool
 |.int _|.bool|.str|.nils _=>true
 |_=>false
def Ty.pure:Ty→Bool
 |.tup ts=>ts.all Ty.pureT
 |.agg ts=>ts.all Ty.pureT
 |t=>Ty.pureT t
theorem Rep.pureT {cap:Nat→Option CSig}{σ τ:Im}{t:Ty}{v:Value}{d:D}(h:Rep cap σ t v d)(hp:t.pureT=true):Rep cap τ t v d:=by
 cases h<;>simp[Ty.pureT] at hp<;>constructor<;>assumption
theorem Rep.pure {cap:Nat→Option CSig}{σ τ:Im}{t:Ty}{v:Value}{d:D}(h:Rep cap σ t v d)(hp:t.pure=true):Rep cap τ t v d:=by
 cases h with
 |agg ts vs ds h1 h2 h ho=>exact .agg ts vs ds h1 h2 (fun i t hi=>(h i t hi).pureT (bL.1 hp t (mg hi))) ho
 |tup ts vs ds h1 h2 h=>exact .tup ts vs ds h1 h2 (fun i t hi=>(h i t hi).pureT (bL.1 hp t (mg hi)))
 |int k n h1 h2=>exact .int k n h1 h2
 |bool b=>exact .bool b
 |str s h=>exact .str s h
 |nils e=>exact .nils e
 |_=>simp[Ty.pure,Ty.pureT] at hp
def pV (C:Ctx)(s:Sig)(σ':Im)(w w':World)(v:Value)(d:D):Prop:=
 match s.mode with
 |.dat=>Rep C.cap σ' s.res v d
 |.it _=>True
 |.ob ..=>True
 |.row T e=>∃cells xs,d=.list xs∧w'.ownsRow w.heap.size T e.size v xs.length cells∧gC C.cap σ' e cells xs∧∀k,v.ownBlock=some k→(∀o,σ'.c k o=none)∧σ'.m k=none
def pM (C:Ctx)(σ:Im)(ts:List Ty)(args:List Value)(ds:List D):Prop:=
 args.length=ts.length∧ds.length=ts.length∧∀(i:Nat) (t:Ty),ts[i]?=some t→Rep C.cap σ t (args.getD i undef) (ds.getD i .none)
def lu (C:Ctx)(f:Nat)(s:Sig)(ds:List D)(d:D):Prop:=
 ∀(σ:Im) (w:World) (args:Array Value),σ.ok w→CtxOK C σ→pM C σ s.args args.toList ds→
  Calls C.P f args w fun e w'=>∃v σ',e=.returned v∧σ.le σ'∧σ'.ok w'∧Below w.heap.size w w'∧
   (∀k o x,σ'.c k o=some x→σ.c k o=some x∨w.heap.size≤k)∧(∀k x,σ'.m k=some x→σ.m k=some x∨w.heap.size≤k)∧pV C s σ' w w' v d
def dT:List (Nat×Ob)→Nat→Ob
 |[],_=>.dead
 |x::l,j=>bif Nat.beq x.1 j then x.2 else dT l j
def mN:List (Nat×Ob)→List D→Nat→D
 |x::l,d::ds,j=>bif Nat.beq x.1 j then d else mN l ds j
 |_,_,_=>.none
def fA (shs:List Sh)(obs:List (Nat×Ob)):St:=⟨fun t=>shs.getD t .none,fun j=>dT obs j,fun _=>0⟩
def lU (obs:List (Nat×Ob))(ds os:List D):Env:=⟨fun t=>ds.getD t .none,fun j=>mN obs os j⟩
def mI:Sh→Bool
 |.dat _=>true
 |_=>false
def qx:Mode→Bool
 |.ob ..=>true
 |_=>false
def rZ:Sh→Bool
 |.none|.dat _|.obj ..|.ptr ..|.fclo ..=>true
 |_=>false
def LA:Ob→Bool
 |.row ..|.mp ..=>true
 |.box _ shs=>shs.all rZ
 |_=>false
def DQ (shs:List Sh)(obs:List (Nat×Ob)):Bool:=shs.all rZ&&obs.all fun x=>LA x.2
def lx (C:Ctx)(f:Nat)(shs:List Sh)(obs:List (Nat×Ob))(res:Ty)(ds:List D)(d:D):Prop:=
 ∀(N:Nat) (σ:Im) (own:Nat→Option Nat) (hv:Nat→Value) (w:World) (args:Array Value) (cx:Nat→Prop),DQ shs obs=true→σ.ok w→CtxOK C σ→(∀k,σ.m k≠some cP)→N≤w.heap.size→args.size=shs.length→
  (∀k j,own k=some j→N≤k∧k<w.heap.size∧(∀o,σ.c k o=none)∧σ.m k=none)→
  (∀k,cx k→k<w.heap.size∧own k=none∧(∀o,σ.c k o=none)∧σ.m k=none)→
  (∀t,aQ C (fA shs obs) (lU obs ds (ds.drop shs.length)) σ hv (shs.getD t .none) (args.getD t undef) (ds.getD t .none))→
  (∀j,cl C (fA shs obs) (lU obs ds (ds.drop shs.length)) σ own hv w N j (dT obs j))→
  Calls C.P f args w fun e w'=>∃v σ' own' hv' dr os,e=.returned v∧d=.tup (dr::os)∧os.length=obs.length∧σ.le σ'∧σ'.ok w'∧Below 0 w w'∧
   (∀k,k<w.heap.size→own k=none→w'.heap[k]?=w.heap[k]?)∧
   (∀k o x,σ'.c k o=some x→(σ.c k o=some x∨N≤k)∧¬cx k)∧(∀k x,σ'.m k=some x→(σ.m k=some x∨N≤k)∧¬cx k)∧(∀k,σ'.m k=some cP→N≤k→k<w.heap.size→own k≠none)∧
   (∀k j,own' k=some j→N≤k∧k<w'.heap.size∧(∀o,σ'.c k o=none)∧σ'.m k=none∧(k<w.heap.size→own k≠none))∧
   (∀(t:Nat) (sh:Sh),shs[t]?=some sh→mI sh=false→aQ C (fA shs obs) (lU obs ds os) σ' hv' sh (args.getD t undef) (ds.getD t .none))∧
   (∀j,cl C (fA shs obs) (lU obs ds os) σ' own' hv' w' N j (dT obs j))∧Rep C.cap σ' res v dr
theorem aQ.ctx {C C':Ctx}(ke:C'.cap=C.cap){S:St}{ρ:Env}{σ:Im}{hv:Nat→Value}{s:Sh}(hp:rZ s=true){v:Value}{d:D}(h:aQ C S ρ σ hv s v d):aQ C' S ρ σ hv s v d:=by
 cases s with
 |dat t=>show Rep C'.cap σ t v d;rw[ke];exact h
 |opt gs s=>cases hp
 |eptr j ver a b=>cases hp
 |yv=>cases hp
 |_=>exact h
theorem cl.ctx {C C':Ctx}(ke:C'.cap=C.cap){S:St}{ρ:Env}{σ:Im}{own:Nat→Option Nat}{hv:Nat→Value}{w:World}{N j:Nat}{ob:Ob}(hp:LA ob=true∨ob=.dead)(h:cl C S ρ σ own hv w N j ob):cl C' S ρ σ own hv w N j ob:=by
 rcases hp with hp|rfl
 ·cases ob with
  |row T e=>obtain⟨cells,xs,h1,h2,h3,h4⟩:=h;exact⟨cells,xs,h1,h2,by rw[ke];exact h3,h4⟩
  |mp kt et=>obtain⟨k,arr,clock,es,h1,h2,h3,h4,h5,h6,h7⟩:=h;exact⟨k,arr,clock,es,h1,h2,h3,h4,h5,h6,by rw[ke];exact h7⟩
  |box ag shs=>
   obtain⟨k,cs,T,ds,h1,h2,h3,h4,h5,h6,h7⟩:=h;exact⟨k,cs,T,ds,h1,h2,h3,h4,h5,h6,fun i s hs=>⟨(h7 i s hs).1,(h7 i s hs).2.ctx ke (bL.1 hp s (mg hs))⟩⟩
  |_=>cases hp
 ·trivial
theorem ab2 {obs:List (Nat×Ob)}(h:(obs.all fun x=>LA x.2)=true)(j:Nat):LA (dT obs j)=true∨dT obs j=.dead:=by
 induction obs with
 |nil=>exact .inr rfl
 |cons x l ih=>
  simp only[pP,ar] at h;simp only[dT];cases hb:Nat.beq x.1 j
  ·exact ih h.2
  ·exact .inl h.1
theorem lx.ctx {C C':Ctx}{f:Nat}{shs:List Sh}{obs:List (Nat×Ob)}{res:Ty}{ds:List D}{d:D}(h:lx C f shs obs res ds d)(hP:C'.P=C.P)(ke:C'.cap=C.cap)(Pn:C'.glob=C.glob):lx C' f shs obs res ds d:=by
 intro N σ own hv w args cx hp aE hC bp hN aR bX kg h1 h2;have aZ:=hp;simp only[DQ,ar] at aZ;have rM:∀t s,shs[t]?=some s→rZ s=true:=fun t s hs=>bL.1 aZ.1 s (mg hs);have hC':CtxOK C σ:=⟨fun g x hx=>by have:=hC.glob g x (by rw[Pn];exact hx);rwa [ke] at this⟩
 have:=h N σ own hv w args cx hp aE hC' bp hN aR bX kg (fun t=>by
  cases hs:shs[t]? with
  |none=>rw[aS,hs];trivial
  |some s=>have:=h1 t;rw[aS,hs] at this ⊢;exact this.ctx ke.symm (rM t s hs)) (fun j=>(h2 j).ctx ke.symm (ab2 aZ.2 j))
 rw[hP];refine this.mono fun e w' hh=>?_;obtain⟨v,σ',own',hv',dr,os,g1,g2,g3,g4,g5,g6,g7,g8,g9,g10,g11,g12,g13,g14⟩:=hh;exact⟨v,σ',own',hv',dr,os,g1,g2,g3,g4,g5,g6,g7,g8,g9,g10,g11,fun t sh hs hd=>(g12 t sh hs hd).ctx ke (rM t sh hs),fun j=>(g13 j).ctx ke (ab2 aZ.2 j),by rw[ke];exact g14⟩
def de (C:Ctx)(Φ:aT):Prop:=∀f ds d,Φ f ds=some d→∀s,C.sig f=some s→(qx s.mode=false→lu C f s ds d)∧∀shs obs,s.mode=.ob shs obs→lx C f shs obs s.res ds d
def lR:List Ty→Ty→Option (List Ty)
 |[.fn ys .bool],.tup []=>some ys
 |_,_=>none
def dD (C:Ctx):Prop:=(∀f cs,C.cap f=some cs→lR cs.args cs.res=none→C.sig f=some ⟨cs.args++cs.caps,cs.res,.dat⟩)∧∀f s,C.sig f=some s→∃fn,C.P.funcs[f]?=some fn∧fn.body.isSome=true∧(fn.name== "runtime.NumGoroutine")=false
def cm (S:St)(gs:List (Nat×Bool)):List Operand→List Nat
 |[]=>[]
 |x::xs=>
  match gj S gs x with
  |.obj j ver=>bif Nat.beq ver (S.ver j)&&mJ (S.o j) then j::cm S gs xs else cm S gs xs
  |_=>cm S gs xs
def iK (gs:List (Nat×Bool))(s:Sh):Sh:=
 match gs with
 |[]=>s
 |_=>.opt gs s
def St.fzs (S:St)(js:List Nat):St:=js.foldl St.fz S
def oK (C:Ctx)(S:St)(gs:List (Nat×Bool))(dst:Nat)(f:Nat)(args:List Operand):Option (St×Sh×List PI):=
 (C.sig f).bind fun s=>
    match s.mode with
    |.dat=>
     (ll C (S.fzs (cm S gs args)) gs args).bind fun u=>
       bif Ty.subs u.1 s.args then some (bif s.res.pure then S else S.fzs (cm S gs args),.dat s.res,[.call gs dst f u.2]) else Option.none
    |_=>Option.none
def B7 (C:Ctx)(S:St)(dst:Nat)(f:Nat)(args:List Operand):ls:=
 (C.sig f).bind fun s=>
    match s.mode with
    |.row T e=>
     (ll C (S.fzs (cm S [] args)) [] args).bind fun u=>
       bif Ty.subs u.1 s.args then some (mkObj (bif e.pure then S else S.fzs (cm S [] args)) dst (.row T e),[.call [] dst f u.2,.setO dst (.r dst),.setR dst (.con .none)]) else Option.none
    |_=>Option.none
def ns (C:Ctx)(S:St)(gs:List (Nat×Bool))(dst:Nat)(x:Operand)(args:List Operand):Option (St×Sh×List PI):=
 match use C S gs x with
 |some (.fn aa r,e)=>
  match lR aa r with
  |some _=>Option.none
  |Option.none=>
  (ll C (S.fzs (cm S gs args)) gs args).bind fun u=>
    bif Ty.subs u.1 aa then some (bif r.pure then S else S.fzs (cm S gs args),.dat r,[.callc gs dst e u.2]) else Option.none
 |_=>Option.none
theorem qj:∀(js:List Nat) (S:St),(S.fzs js).ver=S.ver∧(S.fzs js).r=S.r
 |[],S=>⟨rfl,rfl⟩
 |j::js,S=>by
  obtain⟨h1,h2⟩:=qj js (S.fz j);obtain⟨k1,k2⟩:=Hz S j;exact⟨h1.trans k1,h2.trans k2⟩
section
variable {C:Ctx} {S:St} {ρ:Env} {σ:Im} {own:Nat→Option Nat} {hv:Nat→Value} {w0:World} {σ0:Base} {A:Nat→Prop} {a:Act} {w:World} {gs:List (Nat×Bool)} {Φ:aT} {dst:Nat}
theorem Inv.fzs:∀(js:List Nat) {S:St} {σ:Im} {own:Nat→Option Nat},Inv C S ρ σ own hv w0 σ0 A a w→∃σ' own',σ.le σ'∧Inv C (S.fzs js) ρ σ' own' hv w0 σ0 A a w
 |[],S,σ,own,h=>⟨σ,own,.refl σ,h⟩
 |j::js,S,σ,own,h=>by
  obtain⟨σ1,dC,hle,h1⟩:=h.fz j;obtain⟨σ2,iu,lJ,h2⟩:=Inv.fzs js h1;exact⟨σ2,iu,hle.trans lJ,h2⟩
theorem Inv.world (h:Inv C S ρ σ own hv w0 σ0 A a w){σ':Im}{w':World}(hle:σ.le σ')(aE:σ'.ok w')(hb:Below w.heap.size w w')(dq:∀k o x,σ'.c k o=some x→σ.c k o=some x∨w.heap.size≤k)
 (db:∀k x,σ'.m k=some x→σ.m k=some x∨w.heap.size≤k):Inv C S ρ σ' own hv w0 σ0 A a w':=by
 have aR:=h.below.size;refine h.step (fun _=>False) rfl hle aE (fun k o x hx=>(dq k o x hx).imp id (fun e=>⟨by omega,.inr e⟩)) (fun k x hx=>(db k x hx).imp id (fun e=>⟨by omega,.inr e⟩)) (hb.mono aR) (.refl S hv) (fun j _=>⟨rfl,rfl,rfl,fun k hk=>⟨hk,hb.block k (h.owns k j hk).2.1⟩⟩) (fun _ hf=>hf.elim) (fun k j hk=>?_) (fun _=>id) (fun t=>.inl ⟨rfl,rfl,rfl⟩) (fun _ _=>rfl) (fun k hk _=>hb.block k hk) (fun k i hk=>.inl ⟨i,hk⟩) (fun _ hf=>hf.elim);obtain⟨g1,g2,g3,g4⟩:=h.owns k j hk;refine⟨g1,by have:=hb.size;omega,fun o=>?_,?_⟩
 ·cases hc:σ'.c k o with
  |none=>rfl
  |some x=>rcases dq k o x hc with e|e
           ·rw[g3 o] at e;cases e
           ·omega
 ·cases hc:σ'.m k with
  |none=>rfl
  |some x=>rcases db k x hc with e|e
           ·rw[g4] at e;cases e
           ·omega
theorem CtxOK.mono {C:Ctx}{σ σ':Im}(h:CtxOK C σ)(hle:σ.le σ'):CtxOK C σ':=⟨fun g x hx=>(h.glob g x hx).mono hle⟩
theorem MT (h:Inv C S ρ σ own hv w0 σ0 A a w)(hC:CtxOK C σ0)(hg:holds gs ρ=true){xs:List Operand}{u:List Ty×List PE}{ts:List Ty}(hu:ll C S gs xs=some u)(hs:Ty.subs u.1 ts=true):pM C σ ts (xs.map a.eval) (PE.evs ρ u.2):=by
 obtain⟨l1,l2,aV⟩:=ais h hC hg _ _ hu;have hl:=Ty.subs_len _ _ hs;refine⟨by rw[ix];omega,by rw[PE.evs_eq,ix];omega,fun i t hi=>?_⟩;obtain⟨s,eA,cL⟩:=Ty.subs_get _ _ hs i t hi;exact(aV i s eA).sub cL
theorem Us {o:Oper}{f:Nat}{args:Array Operand}{ts:Array TypeId}(bn:dD C){s:Sig}(hs:C.sig f=some s)(ho:o.op=.call {callee:=.value (.func f),args:=args,argTypes:=ts}):
 (execOp a.eval o).run C.P w=.ok (.enter f (args.map a.eval)) w:=by
 obtain⟨fn,h1,h2,h3⟩:=bn.2 f s hs;obtain⟨bd,jL⟩:=XC.1 h2;have h4:¬fn.name= "runtime.NumGoroutine" :=by simpa using h3
 simp[execOp,ho,resolve,Act.eval,Deferred.ofValue,invoke,callFunc,h1,jL,h4]
theorem ahj {o:Oper}{x:Operand}{f:Nat}{vs:List Value}{args:Array Operand}{ts:Array TypeId}(bn:dD C){s:Sig}(hs:C.sig f=some s)(hx:a.eval x=.func (.func f) #[] vs.toArray)(ho:o.op=.call {callee:=.value x,args:=args,argTypes:=ts}):
 (execOp a.eval o).run C.P w=.ok (.enter f (args.map a.eval++vs.toArray)) w:=by
 obtain⟨fn,h1,h2,h3⟩:=bn.2 f s hs;obtain⟨bd,jL⟩:=XC.1 h2;have h4:¬fn.name= "runtime.NumGoroutine" :=by simpa using h3
 simp[execOp,ho,resolve,hx,Deferred.ofValue,invoke,callFunc,h1,jL,h4]
theorem Yq (h:Inv C S ρ σ own hv w0 σ0 A a w)(hC:CtxOK C σ0)(ht:¬A dst)(ah:dst<a.tmps.size)(dG:∀g,g∈gs→A g.1)(hg:holds gs ρ=true){f:Nat}{s:Sig}{js:List Nat}{vals:List Value}{ds:List D}{d:D}(oT:s.mode=.dat)(hfn:lu C f s ds d)
 (jj:∀σ1 dC,σ.le σ1→Inv C (S.fzs js) ρ σ1 dC hv w0 σ0 A a w→pM C σ1 s.args vals ds) {K:Act→World→Prop} {Q:Exit→Act→World→Prop}
 (hK:∀a' w',Good C w0 σ0 ((bif s.res.pure then S else S.fzs js).setR dst (iK gs (.dat s.res))) (ρ.setR dst d) (fun u=>A u∨u=dst) a' w'→a'.tmps.size=a.tmps.size→K a' w'):
 Calls C.P f vals.toArray w (fun e j0=>match e with|.returned v=>K (a.put (some dst) v) j0|.panicked chain=>Q (.panic chain) a j0|.outgrown=>LetsOut Q):=by
 obtain⟨σ1,dC,lI,h1⟩:=Inv.fzs js h;have vl:=hfn σ1 w vals.toArray h1.ok (hC.mono h1.le) (by simpa using jj σ1 dC lI h1);refine vl.mono fun e w' hh=>?_;obtain⟨v,σ',rfl,hle,aE,hb,dq,db,kV⟩:=hh;simp only[pV,oT] at kV;refine hK _ _ ?_ (size_put _ _ _);have hh:holds gs (ρ.setR dst d)=true:=by rw[C8 (t:=dst) (d:=d) fun g hm e=>ht (by rw[←e];exact dG g hm)];exact hg
 have put:∀{S2:St} {σ2:Im} {iu:Nat→Option Nat},Inv C S2 ρ σ2 iu hv w0 σ0 A a w'→Rep C.cap σ2 s.res v d→Good C w0 σ0 (S2.setR dst (iK gs (.dat s.res))) (ρ.setR dst d) (fun u=>A u∨u=dst) (a.put (some dst) v) w':=by
  intro S2 σ2 iu h2 hr;cases gs with
  |nil=>exact⟨_,_,_,h2.setReg ht (s:=.dat s.res) hr ah (fun _ _ e=>by cases e)⟩
  |cons g bM=>
   refine⟨_,_,_,h2.setReg ht (s:=.opt (g::bM) (.dat s.res)) ⟨fun _=>hr,fun e=>absurd (hh.symm.trans e) (by decide)⟩ ah (fun gs s e=>?_)⟩;cases e;exact⟨dG,fun _ _ e=>by cases e⟩
 cases hp:s.res.pure with
 |true=>
  simp only[cond_true];exact put (h.world (.refl σ) (h.ok.below hb) hb (fun _ _ _ hx=>.inl hx) (fun _ _ hx=>.inl hx)) (kV.pure hp)
 |false=>
  simp only[cond_false];exact put (h1.world hle aE hb dq db) kV
theorem N6 {o:Oper}{f:Nat}{args:Array Value}{K:Act→World→Prop}{Q:Exit→Act→World→Prop}(hd:o.dst=some dst)(hx:(execOp a.eval o).run C.P w=.ok (.enter f args) w)
 (h:Calls C.P f args w (fun e j0=>match e with|.returned v=>K (a.put (some dst) v) j0|.panicked chain=>Q (.panic chain) a j0|.outgrown=>LetsOut Q)):o.wp C.P a w K Q:=by
 simp only[Oper.wp,hx,Oper.upon,hd];refine h.mono fun e j0 hh=>?_;cases e<;>exact hh
theorem ao2 (h:Inv C S ρ σ own hv w0 σ0 A a w)(hC:CtxOK C σ0)(bn:dD C)(hΦ:de C Φ)(ht:¬A dst)(ah:dst<a.tmps.size)(dG:∀g,g∈gs→A g.1)(hg:holds gs ρ=true){f:Nat}{args:Array Operand}{ts:Array TypeId}{r:St×Sh×List PI}
 (hr:oK C S gs dst f args.toList=some r) {o:Oper} (hd:o.dst=some dst) (ho:o.op=.call {callee:=.value (.func f),args:=args,argTypes:=ts}):bZ C w0 σ0 Φ S ρ A a w o (r.1.setR dst (iK gs r.2.1),r.2.2):=by
 simp only[oK,ax] at hr;obtain⟨s,hs,hr⟩:=hr;split at hr
 case h_2=>cases hr
 rename_i oT;simp only[ax] at hr;obtain⟨u,hu,hr⟩:=hr;cases cn:Ty.subs u.1 s.args<;>simp only[cn,cond_true,cond_false] at hr
 ·cases hr
 cases hr;intro ρ' ao K Q hK;simp only[PI.runs,PI.run,hg,cond_true,ax,aH] at ao;obtain⟨ρ1,⟨d,bu,rfl⟩,ao⟩:=ao;cases ao;have hfn:=(hΦ f _ d bu s hs).1 (by rw[oT];rfl);refine N6 hd (Us bn hs ho) ?_;have lM:args.map a.eval=(args.toList.map a.eval).toArray:=by apply w7;rw[Ak]
 rw[lM];have jn:(fun u=>A u∨o.dst=some u)=(fun u=>A u∨u=dst):=by funext u;rw[hd];simp[eq_comm]
 rw[jn] at hK;exact Yq h hC ht ah dG hg (js:=cm S gs args.toList) oT hfn (fun σ1 dC _ h1=>MT h1 hC hg hu cn) hK
theorem aoX (h:Inv C S ρ σ own hv w0 σ0 A a w)(hC:CtxOK C σ0)(bn:dD C)(hΦ:de C Φ)(ht:¬A dst)(ah:dst<a.tmps.size)(dG:∀g,g∈gs→A g.1)(hg:holds gs ρ=true){x:Operand}{args:Array Operand}{ts:Array TypeId}{r:St×Sh×List PI}
 (hr:ns C S gs dst x args.toList=some r) {o:Oper} (hd:o.dst=some dst) (ho:o.op=.call {callee:=.value x,args:=args,argTypes:=ts}):bZ C w0 σ0 Φ S ρ A a w o (r.1.setR dst (iK gs r.2.1),r.2.2):=by
 unfold ns at hr;split at hr
 case h_2=>cases hr
 rename_i aa r0 e Qn;split at hr
 case h_1=>cases hr
 rename_i Pq;simp only[ax] at hr;obtain⟨u,hu,hr⟩:=hr;cases cn:Ty.subs u.1 aa<;>simp only[cn,cond_true,cond_false] at hr
 ·cases hr
 cases hr;have hx:=cg h hC hg Qn;intro ρ' ao K Q hK;simp only[PI.runs,PI.run,hg,cond_true,ax] at ao;obtain⟨ρ1,tC,ao⟩:=ao;cases ao;split at tC
 case h_2=>cases tC
 rename_i f caps bO;simp only[aH] at tC;obtain⟨d,bu,rfl⟩:=tC;rw[bO] at hx;generalize fH:a.eval x=xv at hx;generalize bm:Ty.fn aa r0=ty at hx;cases hx with
 |fn f cs vs ds hc h1 h2 aV=>
  cases bm;have hs:=bn.1 f cs hc Pq;have hfn:=(hΦ f _ d bu _ hs).1 rfl;refine N6 hd (ahj bn hs fH ho) ?_;have lM:args.map a.eval++vs.toArray=(args.toList.map a.eval++vs).toArray:=by apply w7;simp
  rw[lM];have jn:(fun u=>A u∨o.dst=some u)=(fun u=>A u∨u=dst):=by funext u;rw[hd];simp[eq_comm]
  rw[jn] at hK;refine Yq h hC ht ah dG hg (js:=cm S gs args.toList) (s:=⟨cs.args++cs.caps,cs.res,.dat⟩) rfl hfn (fun σ1 dC lI i1=>?_) hK;obtain⟨g1,g2,g3⟩:=MT i1 hC hg hu cn;refine⟨by simp only[j4,g1,h1],by simp only[j4,g2,h2],fun i t hi=>?_⟩;rw[lz] at hi;split at hi
  ·rename_i ah;have:=g3 i t hi;rw[aS,aS,jA (by omega),jA (by omega)];simpa [aS] using this
  ·rename_i eV;have:=(aV _ t hi).mono lI;rw[aS,aS,kN (by omega),kN (by omega),g1,g2];simpa [aS] using this
theorem aoZ (h:Inv C S ρ σ own hv w0 σ0 A a w)(hC:CtxOK C σ0)(bn:dD C)(hΦ:de C Φ)(ht:¬A dst)(ah:dst<a.tmps.size){f:Nat}{args:Array Operand}{ts:Array TypeId}{r:St×List PI}
 (hr:B7 C S dst f args.toList=some r) {o:Oper} (hd:o.dst=some dst) (ho:o.op=.call {callee:=.value (.func f),args:=args,argTypes:=ts}):bZ C w0 σ0 Φ S ρ A a w o r:=by
 simp only[B7,ax] at hr;obtain⟨s,hs,hr⟩:=hr;split at hr
 case h_2=>cases hr
 rename_i T e oT;simp only[ax] at hr;obtain⟨u,hu,hr⟩:=hr;cases cn:Ty.subs u.1 s.args<;>simp only[cn,cond_true,cond_false] at hr
 ·cases hr
 cases hr;intro ρ' ao K Q hK;have hgt:holds ([]:List (Nat×Bool)) ρ=true:=rfl;simp only[PI.runs,PI.run,hgt,cond_true,ax,aH] at ao;obtain⟨ρ1,⟨d,bu,rfl⟩,ρ2,g2,ρ3,g3,g4⟩:=ao;cases g2;cases g3;cases g4;have hfn:=(hΦ f _ d bu s hs).1 (by rw[oT];rfl);obtain⟨σ1,dC,lI,h1⟩:=Inv.fzs (cm S [] args.toList) h;have lM:args.map a.eval=(args.toList.map a.eval).toArray:=by apply w7;rw[Ak]
 refine N6 hd (Us bn hs ho) ?_;rw[lM];have vl:=hfn σ1 w (args.toList.map a.eval).toArray h1.ok (hC.mono h1.le) (by simpa using MT h1 hC rfl hu cn);refine vl.mono fun e' w' hh=>?_;obtain⟨v,σ',rfl,hle,aE,hb,dq,db,kV⟩:=hh;simp only[pV,oT] at kV;obtain⟨cells,xs,rfl,bX,iN,mz⟩:=kV;refine hK _ _ ?_ (size_put _ _ _);have jn:(fun u=>A u∨o.dst=some u)=(fun u=>A u∨u=dst):=by funext u;rw[hd];simp[eq_comm]
 rw[jn];have main:∀{S2:St} {σ1 σ2:Im} {iu:Nat→Option Nat},Inv C S2 ρ σ1 iu hv w0 σ0 A a w→σ1.le σ2→σ2.ok w'→(∀k o x,σ2.c k o=some x→σ1.c k o=some x∨w.heap.size≤k)→(∀k x,σ2.m k=some x→σ1.m k=some x∨w.heap.size≤k)→gC C.cap σ2 e cells xs→(∀k,v.ownBlock=some k→(∀o,σ2.c k o=none)∧σ2.m k=none)→
  Good C w0 σ0 (mkObj S2 dst (.row T e)) ((ρ.setO dst (.list xs)).setR dst .none) (fun u=>A u∨u=dst) (a.put (some dst) v) w':=by
  intro S2 σ1 σ2 iu h2 lJ PS aus auu atE atJ;have aR:=h1.below.size
  have kU:=h2.newOσ dst (.row T e) (.list xs) v (fun k=>decide (v.ownBlock=some k)) lJ PS aus auu hb (fun k hk=>bX.lt k (by simpa using hk)) (fun k hk=>atJ k (by simpa using hk)) ⟨cells,xs,by simp[Env.setO,aU],by
        rw[aU];refine⟨bX.1,?_⟩;rcases bX.2 with e1|⟨g,cap,cur,e1,e2,e3⟩
        ·exact .inl e1
        ·exact .inr ⟨g,cap,cur,e1,by omega,e3⟩,atE,fun k hk=>by rw[aU] at hk;simp[fM,hk]⟩
  have abc:=kU.setObj ht (j:=dst) (v:=v) (aU _ _ _) ah;have e:(S2.newO dst (.row T e)).ver dst=S2.ver dst+1:=aU _ _ _;rw[e] at abc;exact⟨_,_,_,abc⟩
 have eρ:((ρ.setR dst (.list xs)).setO dst ((PE.r dst).ev (ρ.setR dst (.list xs)))).setR dst ((PE.con D.none).ev ((ρ.setR dst (.list xs)).setO dst ((PE.r dst).ev (ρ.setR dst (.list xs)))))=(ρ.setO dst (.list xs)).setR dst .none:=by
  have:∀d1 d2:D,cf (cf ρ.r dst d1) dst d2=cf ρ.r dst d2:=by
   intro d1 d2;funext i;simp only[fS];split<;>rfl
  simp[Env.setR,Env.setO,PE.ev,aU,this]
 show Good C w0 σ0 _ _ _ _ _;rw[eρ];cases hp:e.pure with
 |true=>
  simp only[cond_true];refine main h (.refl σ) (h.ok.below hb) (fun _ _ _ hx=>.inl hx) (fun _ _ hx=>.inl hx) ?_ (fun k hk=>?_)
  ·obtain⟨vs,k1,k2⟩:=iN;exact⟨vs,fun i x hx=>(k1 i x hx).pure hp,k2⟩
  ·obtain⟨f1,f2⟩:=mz k hk;refine⟨fun o=>?_,?_⟩
   ·cases hc:σ.c k o with
    |none=>rfl
    |some x=>have:=hle.c _ _ _ (lI.c _ _ _ hc);rw[f1 o] at this;cases this
   ·cases hc:σ.m k with
    |none=>rfl
    |some x=>have:=hle.m _ _ (lI.m _ _ hc);rw[f2] at this;cases this
 |false=>
  simp only[cond_false];exact main h1 hle aE dq db iN mz
end
def gU:Nat:=1000000013
abbrev m5:=Sh×Option (Ty×PE)
def FV (C:Ctx)(S:St)(x:Operand):m5:=(gj S [] x,use C S [] x)
def Ys (c:Nat×Nat):m5:=(.ptr c.1 c.2 0,none)
def cC:List Nat→List Nat→Nat→Option Nat
 |i::is,j::js,k=>bif Nat.beq i k then some j else cC is js k
 |_,_,_=>none
def azM:Sh→Sh→List (Nat×Nat)
 |.obj i _,.obj j _=>[(i,j)]
 |.ptr i _ _,.ptr j _ _=>[(i,j)]
 |.fclo _ a,.fclo _ b=>(a.zip b).map fun x=>(x.1.1,x.2.1)
 |_,_=>[]
def Sy:List Sh→List Sh→List (Nat×Nat)
 |a::aa,b::bs=>azM a b++Sy aa bs
 |_,_=>[]
def azL:Ob→Ob→List (Nat×Nat)
 |.box _ a,.box _ b=>Sy a b
 |_,_=>[]
def ab3:List (Nat×Nat)→Nat→Nat
 |[],_=>gU
 |x::l,i=>bif Nat.beq x.1 i then x.2 else ab3 l i
def ayt (S:St)(obs:List (Nat×Ob))(p:List (Nat×Nat)):List (Nat×Nat):=p++p.flatMap fun x=>azL (dT obs x.1) (S.o x.2)
def ZG (S:St)(shs:List Sh)(obs:List (Nat×Ob))(acts:List m5):List Nat:=obs.map fun o=>ab3 (ayt S obs (Sy shs (acts.map (·.1)))) o.1
section
variable (ver:Nat→Nat) (is js:List Nat)
def E8:List (Nat×Nat)→Option (List (Nat×Nat))
 |[]=>some []
 |x::l=>bif Nat.beq x.2 0 then(cC is js x.1).bind fun j=>(E8 l).map fun r=>(j,ver j)::r else none
def kK:Sh→Option Sh
 |.dat t=>some (.dat t)
 |.none=>some .none
 |.obj i v=>bif Nat.beq v 0 then(cC is js i).map fun j=>.obj j (ver j) else none
 |.ptr i v off=>bif Nat.beq v 0 then(cC is js i).map fun j=>.ptr j (ver j) off else none
 |.fclo f caps=>(E8 ver is js caps).map (.fclo f)
 |_=>none
def E9:List Sh→Option (List Sh)
 |[]=>some []
 |s::l=>(kK ver is js s).bind fun a=>(E9 l).map (a::·)
def pD:Ob→Option Ob
 |.row T e=>some (.row T e)
 |.mp a b=>some (.mp a b)
 |.box ag shs=>(E9 ver is js shs).map (.box ag)
 |_=>none
end
def Cn (c:Sh):Sh→Bool
 |.none=>true
 |.dat b=>match c with|.dat a=>Ty.sub a b|_=>false
 |x=>Sh.beq c x
def xR:List Sh→List Sh→Bool
 |[],[]=>true
 |a::aa,b::bs=>Cn a b&&xR aa bs
 |_,_=>false
def xQ:Ob→Ob→Bool
 |.box x a,.box y b=>(x==y)&&xR a b
 |.row T a,.row U b=>Nat.beq T U&&Ty.beq a b
 |.mp a b,.mp c d=>Ty.beq a c&&Ty.beq b d
 |_,_=>false
def qh (S:St)(is js:List Nat):List (Nat×Ob)→List Nat→Bool
 |[],[]=>true
 |o::obs,j::jl=>(match pD S.ver is js o.2 with|some x=>xQ (S.o j) x|none=>false)&&qh S is js obs jl
 |_,_=>false
def Cl (S:St)(is js:List Nat)(a:m5)(s:Sh):Option PE:=
 match s with
 |.dat t=>(match a.2 with|some x=>bif Ty.sub x.1 t then some x.2 else none|none=>none)
 |.none=>some (.con .none)
 |s=>(match kK S.ver is js s with|some x=>bif Sh.beq a.1 x then some (.con .none) else none|none=>none)
def sW (S:St)(is js:List Nat):List m5→List Sh→Option (List PE)
 |[],[]=>some []
 |a::aa,s::ss=>(Cl S is js a s).bind fun e=>(sW S is js aa ss).map (e::·)
 |_,_=>none
def oJ:List Sh→List Nat
 |[]=>[]
 |.obj i _::l=>i::oJ l
 |.ptr i _ _::l=>i::oJ l
 |.fclo _ c::l=>c.map (·.1)++oJ l
 |_::l=>oJ l
def aA (l:List Nat)(x:Nat):Bool:=l.any (Nat.beq x)
def uD (ver:Nat→Nat)(shs:List Sh)(is js:List Nat):Nat→Nat:=fun j=>match cC js is j with|some i=>bif aA (oJ shs) i then ver j else ver j+1|none=>ver j
def St.handed (S:St)(shs:List Sh)(obs:List (Nat×Ob))(is js:List Nat):St:=
 ⟨S.r,fun j=>match cC js is j with|some i=>(match pD (uD S.ver shs is js) is js (dT obs i) with|some o=>o|none=>.dead)|none=>S.o j,uD S.ver shs is js⟩
def xT (S:St):List Operand→List Sh→List Nat
 |x::xs,s::ss=>(bif mI s then cm S [] [x] else[])++xT S xs ss
 |_,_=>[]
def Fg:List Nat→Nat→List PI
 |[],_=>[]
 |j::js,k=>.setO j (.tget (.o gU) k)::Fg js (k+1)
def Oo (S:St)(res:Ty)(f:Nat)(shs:List Sh)(obs:List (Nat×Ob))(acts:List m5)(is js:List Nat):Option (St×Ty×List PI):=
 (sW S is js acts shs).bind fun es=>
    bif DQ shs obs&&(ju is&&ju js&&qh S is js obs js&&nI (S.o gU)&& !aA js gU) then some (S.handed shs obs is js,res,.mcall gU f (es++js.map .o)::Fg js 1) else none
def Oq (C:Ctx)(S:St)(res:Ty)(f:Nat)(shs:List Sh)(obs:List (Nat×Ob))(acts:List m5):Option (St×Ty×List PI):=
 Oo S res f shs obs acts (obs.map (·.1)) (ZG S shs obs acts)
def qd (C:Ctx)(S:St)(f:Nat)(args:List Operand)(caps:List (Nat×Nat)):Option (St×Ty×List PI):=
 (C.sig f).bind fun s=>
    match s.mode with
    |.ob shs obs=>Oq C (S.fzs (xT S args shs)) s.res f shs obs (args.map (FV C (S.fzs (xT S args shs)))++caps.map Ys)
    |_=>none
theorem abz {l:List Nat}{x:Nat}:aA l x=true↔x∈l:=by
 unfold aA;rw[sF];exact⟨fun⟨y,hy,h⟩=>by rw[aL h];exact hy,fun h=>⟨x,h,gY x⟩⟩
theorem abY:∀{is js:List Nat} {i j:Nat},cC is js i=some j→∃k:Nat,is[k]?=some i∧js[k]?=some j
 |[],_,i,j,h=>by cases h
 |_::_,[],i,j,h=>by cases h
 |x::is,y::js,i,j,h=>by
  simp only[cC] at h;cases hb:Nat.beq x i<;>simp only[hb,cond_true,cond_false] at h
  ·obtain⟨k,h1,h2⟩:=abY h;exact⟨k+1,h1,h2⟩
  ·cases h;exact⟨0,by rw[aL hb];rfl,rfl⟩
theorem IE:∀{is js:List Nat} {i j k:Nat},is.Nodup→is[k]?=some i→js[k]?=some j→cC is js i=some j
 |[],_,i,j,k,_,h,_=>by simp at h
 |_::_,[],i,j,k,_,_,h=>by simp at h
 |x::is,y::js,i,j,k,hn,h1,h2=>by
  simp only[cC];cases k with
  |zero=>simp at h1 h2;subst h1 h2;rw[gY];rfl
  |succ k=>
   simp at h1 h2;have aB:x≠i:=fun e=>by subst e;exact(m8.1 hn).1 (mg h1)
   rw[eu aB];exact IE (m8.1 hn).2 h1 h2
theorem IF {is js:List Nat}(h2:js.Nodup){i j:Nat}(h:cC is js i=some j):cC js is j=some i:=by
 obtain⟨k,g1,g2⟩:=abY h;exact IE h2 g2 g1
theorem avX (obs:List (Nat×Ob))(f:Nat→D):∀{is js:List Nat} {i j:Nat},is=obs.map (·.1)→cC is js i=some j→mN obs (js.map f) i=f j:=by
 induction obs with
 |nil=>intro is js i j h1 h2;subst h1;cases h2
 |cons x l ih=>
  intro is js i j h1 h2;subst h1;cases js with
  |nil=>cases h2
  |cons y js=>
   simp only[gE,cC] at h2;simp only[gE,mN];cases hb:Nat.beq x.1 i<;>simp only[hb,cond_true,cond_false] at h2 ⊢
   ·exact ih rfl h2
   ·cases h2;rfl
theorem abV:∀{obs:List (Nat×Ob)} {js:List Nat} {os:List D} {i j:Nat},os.length=obs.length→cC (obs.map (·.1)) js i=some j→∃k:Nat,js[k]?=some j∧mN obs os i=os.getD k .none
 |[],_,_,i,j,_,h=>by cases h
 |_::_,[],_,i,j,_,h=>by cases h
 |_::_,_::_,[],i,j,hl,h=>by simp at hl
 |x::obs,y::js,o::os,i,j,hl,h=>by
  simp only[gE,cC] at h;simp only[mN];cases hb:Nat.beq x.1 i<;>simp only[hb,cond_true,cond_false] at h ⊢
  ·obtain⟨k,h1,h2⟩:=abV (obs:=obs) (js:=js) (os:=os) (by simpa using hl) h;exact⟨k+1,h1,by simpa using h2⟩
  ·cases h;exact⟨0,rfl,rfl⟩
theorem ab1:∀{obs:List (Nat×Ob)} {js:List Nat} {i:Nat},js.length=obs.length→cC (obs.map (·.1)) js i=none→dT obs i=.dead
 |[],_,i,_,_=>rfl
 |x::obs,[],i,hl,h=>by simp at hl
 |x::obs,y::js,i,hl,h=>by
  simp only[gE,cC] at h;simp only[dT];cases hb:Nat.beq x.1 i<;>simp only[hb,cond_true,cond_false] at h ⊢
  ·exact ab1 (by simpa using hl) h
  ·cases h
theorem ZO {S:St}{is js:List Nat}:∀{obs:List (Nat×Ob)} {jl:List Nat},qh S is js obs jl=true→jl.length=obs.length
 |[],[],_=>rfl
 |[],_::_,h=>by simp[qh] at h
 |_::_,[],h=>by simp[qh] at h
 |o::obs,j::jl,h=>by simp only[qh,ar] at h;simp[ZO h.2]
theorem ZN {S:St}{is js:List Nat}:∀{obs:List (Nat×Ob)} {jl:List Nat},qh S is js obs jl=true→∀{i j:Nat},cC (obs.map (·.1)) jl i=some j→∃x,pD S.ver is js (dT obs i)=some x∧xQ (S.o j) x=true
 |[],_,_,i,j,h=>by cases h
 |_::_,[],_,i,j,h=>by cases h
 |o::obs,y::jl,hf,i,j,h=>by
  simp only[qh,ar] at hf;simp only[gE,cC] at h;simp only[dT];cases hb:Nat.beq o.1 i<;>simp only[hb,cond_true,cond_false] at h ⊢
  ·exact ZN hf.2 h
  ·cases h;have h1:=hf.1;split at h1
   ·rename_i x hx;exact⟨x,hx,h1⟩
   ·cases h1
theorem ZP:∀{a b:List Sh},xR a b=true→a.length=b.length∧∀(i:Nat) (y:Sh),b[i]?=some y→∃x,a[i]?=some x∧Cn x y=true
 |[],[],_=>⟨rfl,fun i y h=>by simp at h⟩
 |[],_::_,h=>by simp[xR] at h
 |_::_,[],h=>by simp[xR] at h
 |a::aa,b::bs,h=>by
  simp only[xR,ar] at h;obtain⟨g1,g2⟩:=ZP h.2;refine⟨by simp[g1],fun i y hy=>?_⟩;cases i with
  |zero=>simp at hy;subst hy;exact⟨a,rfl,h.1⟩
  |succ i=>simp at hy;simpa using g2 i y hy
theorem Ul {ver:Nat→Nat}{is js:List Nat}:∀{a b:List Sh},E9 ver is js a=some b→b.length=a.length∧∀(i:Nat) (x:Sh),a[i]?=some x→∃y,b[i]?=some y∧kK ver is js x=some y
 |[],b,h=>by simp only[E9,bf] at h;subst h;exact⟨rfl,fun i x h=>by simp at h⟩
 |s::l,b,h=>by
  simp only[E9,ax,aH] at h;obtain⟨y,hy,r,hr,rfl⟩:=h;obtain⟨g1,g2⟩:=Ul hr;refine⟨by simp[g1],fun i x hx=>?_⟩;cases i with
  |zero=>simp at hx;subst hx;exact⟨y,rfl,hy⟩
  |succ i=>simp at hx;simpa using g2 i x hx
theorem Mo {ver:Nat→Nat}{is js:List Nat}:∀{a b:List (Nat×Nat)},E8 ver is js a=some b→b.length=a.length∧∀(i x v:Nat),a[i]?=some (x,v)→∃j,b[i]?=some (j,ver j)∧cC is js x=some j∧v=0
 |[],b,h=>by simp only[E8,bf] at h;subst h;exact⟨rfl,fun i x v h=>by simp at h⟩
 |s::l,b,h=>by
  simp only[E8] at h;cases hb:Nat.beq s.2 0<;>simp only[hb,cond_true,cond_false] at h
  ·cases h
  simp only[ax,aH] at h;obtain⟨y,hy,r,hr,rfl⟩:=h;obtain⟨g1,g2⟩:=Mo hr;refine⟨by simp[g1],fun i x v hx=>?_⟩;cases i with
  |zero=>simp at hx;subst hx;exact⟨y,rfl,hy,aL hb⟩
  |succ i=>simp at hx;simpa using g2 i x v hx
theorem Uk {ver:Nat→Nat}{is js:List Nat}{s x:Sh}(h:kK ver is js s=some x):(∀gs s',s≠.opt gs s')∧∀gs s',x≠.opt gs s':=by
 cases s<;>simp only[kK] at h
 case none=>cases h;exact⟨(fun _ _ e=>by cases e),(fun _ _ e=>by cases e)⟩
 case dat=>cases h;exact⟨(fun _ _ e=>by cases e),(fun _ _ e=>by cases e)⟩
 case obj i v=>
  cases hb:Nat.beq v 0<;>simp only[hb,cond_true,cond_false] at h
  ·cases h
  simp only[aH] at h;obtain⟨j,_,rfl⟩:=h;exact⟨(fun _ _ e=>by cases e),(fun _ _ e=>by cases e)⟩
 case ptr i v off=>
  cases hb:Nat.beq v 0<;>simp only[hb,cond_true,cond_false] at h
  ·cases h
  simp only[aH] at h;obtain⟨j,_,rfl⟩:=h;exact⟨(fun _ _ e=>by cases e),(fun _ _ e=>by cases e)⟩
 case fclo f caps=>
  simp only[aH] at h;obtain⟨j,_,rfl⟩:=h;exact⟨(fun _ _ e=>by cases e),(fun _ _ e=>by cases e)⟩
 all_goals cases h
section
variable {C:Ctx} {S S1:St} {ρ ρ1:Env} {σ σ1:Im} {own dC:Nat→Option Nat} {hv aW:Nat→Value} {w0:World} {σ0:Base} {A:Nat→Prop} {a:Act} {w w1:World} {Φ:aT} {dst:Nat}
 {is js:List Nat} {shs:List Sh} {obs:List (Nat×Ob)} {ρf:Env}
theorem ag7 (hσ:Im.leR C.cap σ σ1){eE:Nat→Value}(fq:∀i j,cC is js i=some j→eE i=hv j){s x:Sh}(hr:kK S.ver is js s=some x){v:Value}{d:D}(h:aQ C S ρ σ hv x v d):aQ C (fA shs obs) ρf σ1 eE s v d:=by
 cases s<;>simp only[kK] at hr
 case none=>trivial
 case dat=>cases hr;exact hσ.rep h
 case obj i ver=>
  cases hb:Nat.beq ver 0<;>simp only[hb,cond_true,cond_false] at hr
  ·cases hr
  simp only[aH] at hr;obtain⟨j,hj,rfl⟩:=hr;exact⟨by rw[aL hb];exact oA _,fun _=>by rw[fq i j hj];exact h.2 rfl⟩
 case ptr i ver off=>
  cases hb:Nat.beq ver 0<;>simp only[hb,cond_true,cond_false] at hr
  ·cases hr
  simp only[aH] at hr;obtain⟨j,hj,rfl⟩:=hr;exact⟨by rw[aL hb];exact oA _,fun _=>by rw[fq i j hj];exact h.2 rfl⟩
 case fclo f caps=>
  simp only[aH] at hr;obtain⟨c,hc,rfl⟩:=hr;obtain⟨g1,g2⟩:=Mo hc;obtain⟨vs,h1,h2,h3⟩:=h;refine⟨vs,h1,by omega,fun i x ver hi=>?_⟩;obtain⟨j,e1,e2,e3⟩:=g2 i x ver hi;exact⟨by rw[e3];exact oA _,fun _=>by rw[fq x j e2];exact(h3 i j _ e1).2 rfl⟩
 all_goals cases hr
theorem aAX (hσ:σ.le σ1){eE:Nat→Value}(fq:∀i j,cC is js i=some j→eE i=aW j){s x:Sh}(hr:kK S1.ver is js s=some x){v:Value}{d:D}(h:aQ C (fA shs obs) ρf σ eE s v d):aQ C S1 ρ1 σ1 aW x v d:=by
 cases s<;>simp only[kK] at hr
 case none=>cases hr;trivial
 case dat=>cases hr;exact Rep.mono hσ h
 case obj i ver=>
  cases hb:Nat.beq ver 0<;>simp only[hb,cond_true,cond_false] at hr
  ·cases hr
  simp only[aH] at hr;obtain⟨j,hj,rfl⟩:=hr;exact⟨bk _,fun _=>by rw[←fq i j hj];exact h.2 (aL hb)⟩
 case ptr i ver off=>
  cases hb:Nat.beq ver 0<;>simp only[hb,cond_true,cond_false] at hr
  ·cases hr
  simp only[aH] at hr;obtain⟨j,hj,rfl⟩:=hr;exact⟨bk _,fun _=>by rw[←fq i j hj];exact h.2 (aL hb)⟩
 case fclo f caps=>
  simp only[aH] at hr;obtain⟨c,hc,rfl⟩:=hr;obtain⟨g1,g2⟩:=Mo hc;obtain⟨vs,h1,h2,h3⟩:=h;refine⟨vs,h1,by omega,fun i j ver hi=>?_⟩;have ah:i<caps.length:=by have:=(fi.1 hi).1;omega
  obtain⟨j',e1,e2,e3⟩:=g2 i _ _ (bK ah);rw[hi] at e1;cases e1;exact⟨bk _,fun _=>by rw[←fq _ j e2];exact(h3 i _ _ (bK ah)).2 e3⟩
 all_goals cases hr
theorem apV {c x:Sh}(hf:Cn c x=true){v:Value}{d:D}(h:aQ C S ρ σ hv c v d):aQ C S ρ σ hv x v d:=by
 cases x with
 |none=>trivial
 |dat b=>
  simp only[Cn] at hf;split at hf
  ·exact Rep.sub h hf
  ·cases hf
 |_=>simp only[Cn] at hf;rw[Sh.beq_eq _ _ hf] at h;exact h
theorem ayP (hσ:Im.leR C.cap σ σ1){eE:Nat→Value}{DU:Nat→Option Nat}(fq:∀i j,cC is js i=some j→eE i=hv j)(bX:∀k j i,own k=some j→cC js is j=some i→DU k=some i)(bp:js.Nodup){i j N:Nat}(cS:cC is js i=some j)(hρ:ρf.o i=ρ.o j){ob x:Ob}
 (hr:pD S.ver is js ob=some x) (hf:xQ (S.o j) x=true) (h:cl C S ρ σ own hv w N j (S.o j)):cl C (fA shs obs) ρf σ1 DU eE w N i ob:=by
 have gK:=IF bp cS;cases ob<;>simp only[pD] at hr
 case row T e=>
  cases hr;cases ho:S.o j<;>rw[ho] at hf h<;>simp only[xQ,ar] at hf<;>try (cases hf;done)
  obtain⟨cells,xs,h1,h2,h3,h4⟩:=h;rw[aL hf.1,Ty.beq_eq _ _ hf.2] at*;exact⟨cells,xs,by rw[hρ];exact h1,by rw[fq i j cS];exact h2,h3.monoR hσ,fun k hk=>bX k j i (h4 k (by rw[←fq i j cS];exact hk)) gK⟩
 case mp kt et=>
  cases hr;cases ho:S.o j<;>rw[ho] at hf h<;>simp only[xQ,ar] at hf<;>try (cases hf;done)
  obtain⟨k,arr,clock,es,h1,h2,h3,h4,h5,h6,h7⟩:=h;rw[Ty.beq_eq _ _ hf.1,Ty.beq_eq _ _ hf.2] at*;exact⟨k,arr,clock,es,by rw[fq i j cS];exact h1,bX k j i h2 gK,h3,by rw[hρ];exact h4,h5,h6,fun n e p he hp=>⟨hσ.rep (h7 n e p he hp).1,hσ.rep (h7 n e p he hp).2⟩⟩
 case box ag cs=>
  simp only[aH] at hr;obtain⟨cs',eT,rfl⟩:=hr;cases ho:S.o j<;>rw[ho] at hf h<;>simp only[xQ,ar] at hf<;>try (cases hf;done)
  obtain⟨k,vs,T,ds,h1,h2,h3,h4,h5,h6,h7⟩:=h;obtain⟨l1,g1⟩:=ZP hf.2;obtain⟨l2,g2⟩:=Ul eT;refine⟨k,vs,T,ds,by rw[fq i j cS];exact h1,bX k j i h2 gK,h3,by omega,by rw[hρ];exact h5,by omega,fun n s hs=>?_⟩;obtain⟨y,hy,Dl⟩:=g2 n s hs;obtain⟨z,hz,CS⟩:=g1 n y hy;exact⟨(Uk Dl).1,ag7 hσ fq Dl (apV CS (h7 n z hz).2)⟩
 all_goals cases hr
theorem ayQ (hσ:σ.le σ1){eE:Nat→Value}{DU:Nat→Option Nat}(fq:∀i j,cC is js i=some j→eE i=aW j)(bX:∀k i j,DU k=some i→cC is js i=some j→dC k=some j){i j N:Nat}(cS:cC is js i=some j)(hρ:ρ1.o j=ρf.o i){ob x:Ob}
 (hr:pD S1.ver is js ob=some x) (h:cl C (fA shs obs) ρf σ DU eE w N i ob):cl C S1 ρ1 σ1 dC aW w N j x:=by
 cases ob<;>simp only[pD] at hr
 case row T e=>
  cases hr;obtain⟨cells,xs,h1,h2,h3,h4⟩:=h;exact⟨cells,xs,by rw[hρ];exact h1,by rw[←fq i j cS];exact h2,h3.mono hσ,fun k hk=>bX k i j (h4 k (by rw[fq i j cS];exact hk)) cS⟩
 case mp kt et=>
  cases hr;obtain⟨k,arr,clock,es,h1,h2,h3,h4,h5,h6,h7⟩:=h;exact⟨k,arr,clock,es,by rw[←fq i j cS];exact h1,bX k i j h2 cS,h3,by rw[hρ];exact h4,h5,h6,fun n e p he hp=>⟨(h7 n e p he hp).1.mono hσ,(h7 n e p he hp).2.mono hσ⟩⟩
 case box ag cs=>
  simp only[aH] at hr;obtain⟨cs',eT,rfl⟩:=hr;obtain⟨k,vs,T,ds,h1,h2,h3,h4,h5,h6,h7⟩:=h;obtain⟨l2,g2⟩:=Ul eT;refine⟨k,vs,T,ds,by rw[←fq i j cS];exact h1,bX k i j h2 cS,h3,by omega,by rw[hρ];exact h5,by omega,fun n s hs=>?_⟩;have ah:n<cs.length:=by have:=(fi.1 hs).1;omega
  obtain⟨y,hy,Dl⟩:=g2 n _ (bK ah);rw[hs] at hy;cases hy;exact⟨(Uk Dl).2,aAX hσ fq Dl (h7 n _ (bK ah)).2⟩
 all_goals cases hr
theorem aAW {ver:Nat→Nat}{ob x:Ob}(hr:pD ver is js ob=some x):x≠.tr:=by
 cases ob<;>simp only[pD] at hr
 case row=>cases hr;intro e;cases e
 case mp=>cases hr;intro e;cases e
 case box=>
  simp only[aH] at hr;obtain⟨_,_,rfl⟩:=hr;intro e;cases e
 all_goals cases hr
theorem CtxOK.noM (h:CtxOK C σ):CtxOK C σ.noM:=⟨fun g x hx=>(h.glob g x hx).noM⟩
def Ah (C:Ctx)(S:St)(ρ:Env)(σ:Im)(hv:Nat→Value)(x:m5)(v:Value)(d:D):Prop:=aQ C S ρ σ hv x.1 v d∧∀y,x.2=some y→Rep C.cap σ y.1 v (y.2.ev ρ)
theorem ZL:∀{acts:List m5} {shs:List Sh} {es:List PE},sW S is js acts shs=some es→acts.length=shs.length∧es.length=shs.length∧∀(t:Nat) (s:Sh),shs[t]?=some s→∃x e,acts[t]?=some x∧es[t]?=some e∧Cl S is js x s=some e
 |[],[],es,h=>by simp only[sW,bf] at h;subst h;exact⟨rfl,rfl,fun t s h=>by simp at h⟩
 |[],_::_,es,h=>by simp[sW] at h
 |_::_,[],es,h=>by simp[sW] at h
 |x::acts,s::shs,es,h=>by
  simp only[sW,ax,aH] at h;obtain⟨e,he,r,hr,rfl⟩:=h;obtain⟨g1,g2,g3⟩:=ZL hr;refine⟨by simp[g1],by simp[g2],fun t s' hs=>?_⟩;cases t with
  |zero=>simp at hs;subst hs;exact⟨x,e,rfl,rfl,he⟩
  |succ t=>simp at hs;simpa using g3 t s' hs
theorem apT (hσ:Im.leR C.cap σ σ1){eE:Nat→Value}(fq:∀i j,cC is js i=some j→eE i=hv j){x:m5}{s:Sh}{e:PE}(hf:Cl S is js x s=some e){v:Value}{d:D}(h:Ah C S ρ σ hv x v d):aQ C (fA shs obs) ρf σ1 eE s v (e.ev ρ):=by
 have gen:∀s,(match kK S.ver is js s with|some y=>bif Sh.beq x.1 y then some (PE.con .none) else none|none=>none)=some e→mI s=false→aQ C (fA shs obs) ρf σ1 eE s v (e.ev ρ):=by
  intro s hm hd;split at hm
  ·rename_i y hy;cases hb:Sh.beq x.1 y<;>simp only[hb,cond_true,cond_false] at hm
   ·cases hm
   have h1:=h.1;rw[Sh.beq_eq _ _ hb] at h1;have:=ag7 (shs:=shs) (obs:=obs) (ρf:=ρf) hσ fq hy h1;cases s with
   |dat t=>cases hd
   |opt gs s'=>exact absurd rfl ((Uk hy).1 gs s')
   |eptr j ver size off=>simp[kK] at hy
   |_=>exact this
  ·cases hm
 unfold Cl at hf;split at hf
 ·rename_i t;split at hf
  ·rename_i y hy;cases hb:Ty.sub y.1 t<;>simp only[hb,cond_true,cond_false] at hf
   ·cases hf
   cases hf;exact hσ.rep ((h.2 y hy).sub hb)
  ·cases hf
 ·trivial
 ·rename_i kT oU;refine gen _ hf ?_;cases s<;>first|rfl|exact absurd rfl (kT _)
theorem aoH {eE Qp:Nat→Value}{σ σ':Im}{ρf ρf':Env}{args:Nat→Value}{ds ds':Nat→D}(h1:∀(t:Nat) (s:Sh),shs[t]?=some s→aQ C (fA shs obs) ρf σ eE s (args t) (ds t))(h2:∀(t:Nat) (s:Sh),shs[t]?=some s→mI s=false→aQ C (fA shs obs) ρf' σ' Qp s (args t) (ds' t))
 (hz:∀s,s∈shs→∃x,kK S.ver is js s=some x) {i:Nat} (hi:i∈oJ shs):Qp i=eE i:=by
 have key:∀(l:List Sh),(∀s,s∈l→∃t:Nat,shs[t]?=some s)→i∈oJ l→Qp i=eE i:=by
  intro l
  induction l with
  |nil=>intro _ h;cases h
  |cons s l ih=>
   intro hl hi;obtain⟨t,ht⟩:=hl s (dw ..);have yq:∀s,s∈l→∃t:Nat,shs[t]?=some s:=fun s hs=>hl s (dj _ hs);obtain⟨x,hx⟩:=hz s (mg ht);have a1:=h1 t s ht;have a2:=h2 t s ht;cases s<;>simp only[oJ] at hi
   case obj j ver=>
        simp only[kK] at hx;cases hb:Nat.beq ver 0<;>simp only[hb,cond_true,cond_false] at hx
        ·cases hx
        rcases cG.1 hi with e|e
        ·subst e;rw[←(a1.2 (aL hb)),←((a2 rfl).2 (aL hb))]
        ·exact ih yq e
   case ptr j ver off=>
        simp only[kK] at hx;cases hb:Nat.beq ver 0<;>simp only[hb,cond_true,cond_false] at hx
        ·cases hx
        rcases cG.1 hi with e|e
        ·subst e;obtain⟨k1,e1,e2⟩:=a1.2 (aL hb);obtain⟨k2,e3,e4⟩:=(a2 rfl).2 (aL hb);rw[e2] at e4;cases e4;rw[e1,e3]
        ·exact ih yq e
   case fclo f caps=>
        simp only[kK,aH] at hx;obtain⟨c,hc,_⟩:=hx;obtain⟨_,g2⟩:=Mo hc;rcases cY.1 hi with e|e
        ·obtain⟨y,hy,e1⟩:=dx.1 e;subst e1;obtain⟨m,hm⟩:=xf hy;obtain⟨vs,b1,b2,b3⟩:=a1;obtain⟨Ac,c1,c2,c3⟩:=a2 rfl;rw[b1] at c1;have gP:vs=Ac:=by simpa using c1
         subst gP;obtain⟨_,_,_,yI⟩:=g2 m y.1 y.2 hm;rw[←(b3 m y.1 y.2 hm).2 yI,←(c3 m y.1 y.2 hm).2 yI]
        ·exact ih yq e
   all_goals exact ih yq hi
 exact key shs (fun s hs=>xf hs) hi
end
section
variable {C:Ctx} {S:St} {ρ:Env} {σ:Im} {own:Nat→Option Nat} {hv:Nat→Value} {w0:World} {σ0:Base} {A:Nat→Prop} {a:Act} {w:World} {Φ:aT} {dst:Nat}
 {is js:List Nat} {shs:List Sh} {obs:List (Nat×Ob)}
theorem Below.weak {B:Nat}{w w':World}(h:Below 0 w w')(hk:∀k,k<B→w'.heap[k]?=w.heap[k]?):Below B w w':=⟨h.os,h.tape,h.output,h.size,hk⟩
def nP (js is:List Nat)(own:Nat→Option Nat):Nat→Option Nat:=fun k=>(own k).bind (cC js is)
def DT (js is:List Nat)(own own':Nat→Option Nat):Nat→Option Nat:=fun k=>
 match own' k with
 |some i=>cC is js i
 |none=>match own k with|some j=>(match cC js is j with|some _=>none|none=>some j)|none=>none
theorem handed (h:Inv C S ρ σ own hv w0 σ0 A a w)(hC:CtxOK C σ0)(auO:DQ shs obs=true)(CV:is=obs.map (·.1))(aa2:is.Nodup)(If:js.Nodup)(HY:qh S is js obs js=true){acts:List m5}{es:List PE}(iO:sW S is js acts shs=some es)
 (HU:S.o gU=.dead) (Is:gU∉js) {vals:List Value} (hvl:vals.length=acts.length) (as2:∀(t:Nat) (x:m5),acts[t]?=some x→∃d,Ah C S ρ σ hv x (vals.getD t undef) d) {f:Nat} {res:Ty} {d:D}
 (hfn:lx C f shs obs res (es.map (PE.ev ρ)++js.map ρ.o) d):
 Calls C.P f vals.toArray w fun e w'=>∃v dr os,e=.returned v∧d=.tup (dr::os)∧os.length=js.length∧
  ∀ρ':Env,ρ'.r=ρ.r→(∀(k j:Nat),js[k]?=some j→ρ'.o j=os.getD k .none)→(∀j,j∉js→j≠gU→ρ'.o j=ρ.o j)→
   ∃σ1 dC aW,Inv C (S.handed shs obs is js) ρ' σ1 dC aW w0 σ0 A a w'∧Rep C.cap σ1 res v dr:=by
 obtain⟨al1,al2,jj⟩:=ZL iO;have fJ:=ZO HY;have tD:w0.heap.size≤w.heap.size:=h.below.size;obtain⟨tr,fx,cx,hf,rN⟩:=h.frame
 let eE:Nat→Value:=fun i=>match cC is js i with|some j=>hv j|none=>undef
 have fq:∀i j,cC is js i=some j→eE i=hv j:=fun i j e=>by simp only[eE,e]
 have aaT:Im.leR C.cap σ σ.noM:=⟨Rep.noM,fun _ _ _ e=>e⟩
 have C6:∀k x,σ.noM.m k=some x→σ.m k=some x∧x≠cP:=by
  intro k x e;by_cases hd:σ.m k=some cP
  ·simp[Im.noM,hd] at e
  ·simp only[Im.noM,if_neg hd] at e;exact⟨e,fun e2=>hd (by rw[e,e2])⟩
 have vp:(es.map (PE.ev ρ)++js.map ρ.o).drop shs.length=js.map ρ.o:=by rw[List.drop_append];simp[al2]
 have atO:∀t e,es[t]?=some e→(es.map (PE.ev ρ)++js.map ρ.o).getD t .none=e.ev ρ:=fun t e he=>by
  have ah:=(fi.1 he).1;rw[aS,jA (by simpa using ah),cU,he];rfl
 have auY:∀s,s∈shs→∃x,kK S.ver is js s=some x:=by
  intro s hs;obtain⟨t,ht⟩:=xf hs;obtain⟨x,e,_,_,he⟩:=jj t s ht;unfold Cl at he;split at he
  ·exact⟨_,rfl⟩
  ·exact⟨_,rfl⟩
  ·split at he
   ·rename_i y hy;exact⟨y,hy⟩
   ·cases he
 have aaN:∀t,aQ C (fA shs obs) (lU obs (es.map (PE.ev ρ)++js.map ρ.o) ((es.map (PE.ev ρ)++js.map ρ.o).drop shs.length)) σ.noM eE (shs.getD t .none) (vals.toArray.getD t undef) ((es.map (PE.ev ρ)++js.map ρ.o).getD t .none):=by
  intro t;cases hs:shs[t]? with
  |none=>rw[aS,hs];trivial
  |some s=>
   obtain⟨x,e,hx,he,HX⟩:=jj t s hs;obtain⟨d',as3⟩:=as2 t x hx;rw[aS (l:=shs),hs,atO t e he];have e1:vals.toArray.getD t undef=vals.getD t undef:=by simp[dO,aS]
   rw[e1];exact apT aaT fq HX as3
 have at3:∀i,cl C (fA shs obs) (lU obs (es.map (PE.ev ρ)++js.map ρ.o) ((es.map (PE.ev ρ)++js.map ρ.o).drop shs.length)) σ.noM (nP js is own) eE w w0.heap.size i (dT obs i):=by
  intro i;cases cS:cC is js i with
  |none=>subst CV;rw[ab1 fJ cS];trivial
  |some j=>
   subst CV;obtain⟨x,hx,HZ⟩:=ZN HY cS;refine ayP aaT fq (fun k j' i' hk hl=>by simp only[nP,hk,kP,hl]) If cS ?_ hx HZ (h.objs j);show mN obs _ i=_;rw[vp];exact avX obs ρ.o rfl cS
 have vl:=hfn w0.heap.size σ.noM (nP js is own) eE w vals.toArray (fun k=>(∃j,own k=some j∧cC js is j=none)∨σ.m k=some cP∨(cx k)) auO ⟨h.ok.c,fun k x e=>h.ok.m k x (C6 k x e).1⟩ ((hC.mono h.le).noM)
  (fun k e=>(C6 k _ e).2 rfl) tD (by simp;omega) (fun k i hk=>by
    simp only[nP,ax] at hk;obtain⟨j,hj,_⟩:=hk;obtain⟨g1,g2,g3,g4⟩:=h.owns k j hj;exact⟨g1,g2,g3,by by_cases e:σ.m k=some cP<;>simp[Im.noM,e,g4]⟩) (fun k hk=>by
    rcases hk with⟨j,hj,hn⟩|hk|hk
    ·obtain⟨g1,g2,g3,g4⟩:=h.owns k j hj;exact⟨g2,by simp[nP,hj,hn],g3,by by_cases e:σ.m k=some cP<;>simp[Im.noM,e,g4]⟩
    ·have C4:=h.ok.m k _ hk;have hn:own k=none:=by
      cases e:own k with
      |none=>rfl
      |some j=>rw[(h.owns k j e).2.2.2] at hk;cases hk
     refine⟨C4.lt,by simp[nP,hn],fun o=>?_,by simp[Im.noM,hk]⟩;cases e:σ.c k o with
     |none=>exact e
     |some x=>
      have c1:=h.ok.c k o x e;rcases C4 with⟨m1,_⟩|⟨_,m2⟩
      ·exact absurd rfl m1
      ·simp[World.cell?,m2] at c1
    ·have kj:=σ0.sub _ _ _ _ hf.F k hk;have hn:own k=none:=by
      cases e:own k with
      |none=>rfl
      |some j=>exact absurd kj (hf.own k j e)
     refine⟨σ0.lt _ _ _ _ hf.F k kj,by simp[nP,hn],fun o=>?_,?_⟩
     ·cases e:σ.c k o with
      |none=>exact e
      |some x=>exact absurd hk (hf.c k o x e)
     ·cases e:σ.m k with
      |none=>simp[Im.noM,e]
      |some x=>exact absurd hk (hf.m k x e)) aaN at3
 refine vl.mono fun e w' hh=>?_;obtain⟨v,σ',own',hv',dr,os,rfl,hd,PU,hle,aE,hb,gN,dq,db,Ie,aa9,Pr,PR,kV⟩:=hh;refine⟨v,dr,os,rfl,hd,by omega,fun ρ' ic qs vF=>?_⟩;have Ii:∀k,k<w.heap.size→own k=none→w'.heap[k]?=w.heap[k]?:=fun k hk hn=>gN k hk (by simp[nP,hn]);have auI:∀k j,own k=some j→cC js is j=none→w'.heap[k]?=w.heap[k]?:=fun k j hk hn=>gN k (h.owns k j hk).2.1 (by simp[nP,hk,hn])
 have ats:∀k o x,σ.c k o=some x→own k=none:=fun k o x e=>by
  cases e1:own k with
  |none=>rfl
  |some j=>rw[(h.owns k j e1).2.2.1 o] at e;cases e
 have aa0:∀k x,σ.m k=some x→own k=none:=fun k x e=>by
  cases e1:own k with
  |none=>rfl
  |some j=>rw[(h.owns k j e1).2.2.2] at e;cases e
 have Ik:σ.ok w':=⟨fun k o x e=>by rw[World.cell?_of_block (Ii k (h.lt e) (ats k o x e))];exact h.ok.c k o x e,fun k x e=>(h.ok.m k x e).keep (Ii k (h.ltm e) (aa0 k x e))⟩
 have lI:σ.le (σ'.plus σ):=Im.plus_le2 aE Ik;have lJ:σ'.le (σ'.plus σ):=Im.plus_le1 σ' σ;have eT:∀k o x,(σ'.plus σ).c k o=some x→σ'.c k o=some x:=fun k o x e=>(Im.plus_c e).elim id (fun e=>hle.c k o x e)
 have yt:∀k x,(σ'.plus σ).m k=some x→σ'.m k=some x∨(σ.m k=some x∧x=cP):=fun k x e=>(Im.plus_m e).elim .inl (fun e=>by
  by_cases hd:x=cP
  ·exact .inr ⟨e,hd⟩
  ·refine .inl (hle.m k x ?_);have:σ.m k≠some cP:=fun e2=>hd (by rw[e] at e2;cases e2;rfl);simp only[Im.noM,if_neg this,e])
 let aW:Nat→Value:=fun j=>match cC js is j with|some i=>hv' i|none=>hv j
 have avv:∀i j,cC is js i=some j→hv' i=aW j:=fun i j e=>by simp only[aW,IF If e]
 have atz:∀i,i∈oJ shs→hv' i=eE i:=fun i hi=>aoH (S:=S) (is:=is) (js:=js) (args:=fun t=>vals.toArray.getD t undef) (ds:=fun t=>(es.map (PE.ev ρ)++js.map ρ.o).getD t .none) (ds':=fun t=>(es.map (PE.ev ρ)++js.map ρ.o).getD t .none) (fun t s hs=>by
  have:=aaN t;rw[aS (l:=shs),hs] at this;exact this) (fun t s hs hd=>Pr t s hs hd) auY hi
 have tc:Compat S hv (S.handed shs obs is js) aW:=by
  refine⟨fun j=>?_,fun j e=>?_⟩
  ·show S.ver j≤uD S.ver shs is js j;unfold uD;split
   ·cases aA (oJ shs) _<;>simp
   ·exact bk _
  ·change uD S.ver shs is js j=S.ver j at e;show aW j=hv j;simp only[aW];unfold uD at e;split at e
   ·rename_i i hi;cases hb:aA (oJ shs) i<;>rw[hb] at e
    ·simp at e
    ·try simp only[hi]
     rw[atz i (abz.1 hb),fq i j (IF aa2 hi)]
   ·rename_i hi;try simp only[hi]
 have mz:∀k j,DT js is own own' k=some j→(k<w.heap.size→own k≠none)∧w0.heap.size≤k∧k<w'.heap.size∧(∀o,σ'.c k o=none)∧σ'.m k=none∧σ.m k≠some cP:=by
  intro k j hk;simp only[DT] at hk;split at hk
  ·rename_i i hi;obtain⟨g1,g2,g3,g4,g5⟩:=aa9 k i hi;have g6:k<w.heap.size→own k≠none:=fun ah e=>g5 ah (by simp[nP,e]);refine⟨g6,g1,g2,g3,g4,fun e=>?_⟩;exact g6 (h.ltm e) (aa0 k _ e)
  ·split at hk
   ·rename_i j' bS;split at hk
    ·cases hk
    ·rename_i hn;obtain⟨g1,g2,g3,g4⟩:=h.owns k j' bS;have kg:(∃j,own k=some j∧cC js is j=none)∨σ.m k=some cP∨(cx k):=.inl ⟨j',bS,hn⟩;refine⟨fun _ e=>(by rw[bS] at e;cases e),g1,uP g2 hb.size,fun o=>?_,?_,fun e=>?_⟩
     ·cases e:σ'.c k o with
      |none=>rfl
      |some x=>exact absurd kg (dq k o x e).2
     ·cases e:σ'.m k with
      |none=>rfl
      |some x=>exact absurd kg (db k x e).2
     ·rw[g4] at e;cases e
   ·cases hk
 refine⟨σ'.plus σ,DT js is own own',aW,⟨h.defers.mono lI,Im.plus_ok aE Ik,h.le.trans lI,h.old,fun k o x e=>?_,fun k x e=>?_,h.below.trans (Below.weak hb fun k hk=>?_),h.bw,fun k j hk=>?_,fun t=>?_,fun j=>?_,h.opts,?_⟩,kV.mono lJ⟩
 ·rcases(dq k o x (eT k o x e)).1 with e1|e1
  ·exact h.newc k o x e1
  ·exact .inr e1
 ·rcases yt k x e with e1|e1
  ·rcases(db k x e1).1 with e2|e2
   ·exact h.newm k x (C6 k x e2).1
   ·exact .inr e2
  ·exact h.newm k x e1.1
 ·have cD:k<w0.heap.size:=uP hk h.bw;refine Ii k (by omega) ?_;cases e:own k with
  |none=>rfl
  |some j=>have:=(h.owns k j e).1;omega
 ·obtain⟨_,g1,g2,g3,g4,g5⟩:=mz k j hk;refine⟨g1,g2,fun o=>?_,?_⟩
  ·cases e:(σ'.plus σ).c k o with
   |none=>rfl
   |some x=>have:=eT k o x e;rw[g3 o] at this;cases this
  ·cases e:(σ'.plus σ).m k with
   |none=>rfl
   |some x=>
    rcases yt k x e with e1|e1
    ·rw[g4] at e1;cases e1
    ·exact absurd (by rw[e1.1,e1.2]) g5
 ·show aQ C _ ρ' _ aW (S.r t) _ (ρ'.r t);rw[ic]
  exact aQ.mono lI tc (fun gs s e=>by
   unfold holds;rw[ic]) (fun gs s e=>(h.opts t gs s e).2) (h.regs t)
 ·show cl C _ ρ' _ _ aW w' _ j (match cC js is j with|some i=>(match pD (uD S.ver shs is js) is js (dT obs i) with|some o=>o|none=>.dead)|none=>S.o j);split
  ·rename_i i hi;have cS:=IF aa2 hi;split
   ·rename_i x hx;refine ayQ (S1:=S.handed shs obs is js) lJ avv (fun k i' j' hk hl=>by simp only[DT,hk,hl]) cS ?_ hx (PR i);subst CV;obtain⟨k,bH,cD⟩:=abV (os:=os) PU cS;show ρ'.o j=mN obs os i;rw[cD];exact qs k j bH
   ·trivial
  ·rename_i hn
   have PJ:j∉js:=fun hm=>by
        obtain⟨k,hk⟩:=xf hm;have ah:k<is.length:=by
         have:=(fi.1 hk).1;rw[CV,ix];omega
        have:=IE If hk (bK ah);rw[hn] at this;cases this
   by_cases H7:j=gU
   ·subst H7;rw[HU];trivial
   ·refine(h.objs j).mono lI tc (by show aW j=hv j;simp only[aW,hn]) (vF j PJ H7) (fun k hk=>⟨?_,auI k j hk hn⟩);have:own' k=none:=by
     cases e:own' k with
     |none=>rfl
     |some i=>exact absurd (by simp[nP,hk,hn]) ((aa9 k i e).2.2.2.2 (h.owns k j hk).2.1)
    simp only[DT,this,hk,hn]
 ·refine⟨tr,fx,cx,⟨σ0.keep _ _ _ _ _ hf.F hb fun k hk=>?_,fun k j hk kj=>?_,fun k o x e hc=>?_,fun k x e hc=>?_,fun k e hB hk=>?_⟩,fun j hj=>?_⟩
  ·refine Ii k (σ0.lt _ _ _ _ hf.F k hk) ?_;cases e:own k with
   |none=>rfl
   |some j=>exact absurd hk (hf.own k j e)
  ·have ah:=σ0.lt _ _ _ _ hf.F k kj;have:=(mz k j hk).1 ah;cases e:own k with
   |none=>exact this e
   |some j'=>exact hf.own k j' e kj
  ·exact(dq k o x (eT k o x e)).2 (.inr (.inr hc))
  ·rcases yt k x e with e1|e1
   ·exact(db k x e1).2 (.inr (.inr hc))
   ·exact hf.m k x e1.1 hc
  ·rcases yt k _ e with e1|e1
   ·have ah:=σ0.lt _ _ _ _ hf.F k hk;refine Ie k e1 hB ah ?_;have:own k=none:=by
     cases e:own k with
     |none=>rfl
     |some j=>exact absurd hk (hf.own k j e)
    simp[nP,this]
   ·exact hf.d k e1.1 hB hk
  ·change (match cC js is j with|some i=>(match pD (uD S.ver shs is js) is js (dT obs i) with|some o=>o|none=>.dead)|none=>S.o j)=.tr at hj;split at hj
   ·rename_i i hi;split at hj
    ·rename_i x hx;exact absurd hj (aAW hx)
    ·cases hj
   ·rename_i hn
    have PJ:j∉js:=fun hm=>by
     obtain⟨k,hk⟩:=xf hm;have ah:k<is.length:=by
         have:=(fi.1 hk).1;rw[CV,ix];omega
     have:=IE If hk (bK ah);rw[hn] at this;cases this
    have H7:j≠gU:=fun e=>by subst e;rw[HU] at hj;cases hj
    rw[vF j PJ H7];exact rN j hj
theorem ahr:∀(js:List Nat) (k:Nat) {ρ ρ':Env} {l:List D},PI.runs Φ (Fg js k) ρ=some ρ'→ρ.o gU=.tup l→gU∉js→js.Nodup→
 ρ'.r=ρ.r∧(∀(i j:Nat),js[i]?=some j→ρ'.o j=l.getD (k+i) .none)∧∀j,j∉js→ρ'.o j=ρ.o j
 |[],k,ρ,ρ',l,h,hs,hn,hd=>by
  simp only[Fg,PI.runs,bf] at h;subst h;exact⟨rfl,fun i j e=>by simp at e,fun _ _=>rfl⟩
 |x::js,k,ρ,ρ',l,h,hs,hn,hd=>by
  simp only[Fg,PI.runs,PI.run,kP,PE.ev,hs,D.tget] at h;simp only[cG,not_or] at hn;have eU:=m8.1 hd;obtain⟨g1,g2,g3⟩:=ahr js (k+1) h (by simp only[Env.setO];rw[bz _ _ hn.1];exact hs) hn.2 eU.2;refine⟨g1,fun i j e=>?_,fun j hj=>?_⟩
  ·cases i with
   |zero=>simp at e;subst e;rw[g3 _ eU.1];simp[Env.setO,aU]
   |succ i=>simp at e;rw[g2 i j e];congr 1;omega
  ·simp only[cG,not_or] at hj;rw[g3 j hj.2];simp only[Env.setO];exact bz _ _ hj.1
theorem aje (h:Inv C S ρ σ own hv w0 σ0 A a w)(hC:CtxOK C σ0)(x:Operand):∃d,Ah C S ρ σ hv (FV C S x) (a.eval x) d:=by
 cases x with
 |tmp t=>
  refine⟨ρ.r t,?_,fun y hy=>cg (gs:=[]) h hC rfl hy⟩;have:=(od (gs:=[]) h rfl t).1;simpa [Act.eval,FV,gj] using this
 |_=>exact⟨.none,trivial,fun y hy=>cg (gs:=[]) h hC rfl hy⟩
theorem Zn (h:Inv C S ρ σ own hv w0 σ0 A a w)(hC:CtxOK C σ0)(hΦ:de C Φ){f:Nat}{args:List Operand}{caps:List (Nat×Nat)}{vs:List Value}(gP:vs.length=caps.length)
 (ke:∀(i j ver:Nat),caps[i]?=some (j,ver)→ver≤S.ver j∧(ver=S.ver j→vs.getD i undef=hv j)) (ath:∀(i j ver:Nat),caps[i]?=some (j,ver)→ver=S.ver j→∃k,hv j=.pointer (some ⟨k,0,none⟩)) {r:St×Ty×List PI} (hr:qd C S f args caps=some r)
 {ρ1:Env} (ao:PI.runs Φ r.2.2 ρ=some ρ1):
 Calls C.P f (args.map a.eval++vs).toArray w fun e w'=>∃v σ1 dC aW,e=.returned v∧Inv C r.1 ρ1 σ1 dC aW w0 σ0 A a w'∧Rep C.cap σ1 r.2.1 v ((ρ1.o gU).tget 0):=by
 simp only[qd,ax] at hr;obtain⟨s,hs,hr⟩:=hr;split at hr
 case h_2=>cases hr
 rename_i shs obs oT;obtain⟨σ2,iu,lJ,h2⟩:=Inv.fzs (xT S args shs) h;have dS:=(qj (xT S args shs) S).1;generalize S.fzs (xT S args shs)=S2 at hr h2 dS;unfold Oq Oo at hr;generalize ZG S2 shs obs (args.map (FV C S2)++caps.map Ys)=js at hr;simp only[ax] at hr;obtain⟨es,iO,hr⟩:=hr;cases hb:(DQ shs obs&&(ju (obs.map (·.1))&&ju js&&qh S2 (obs.map (·.1)) js obs js&&nI (S2.o gU)&& !aA js gU))<;>simp only[hb,cond_true,cond_false] at hr
 ·cases hr
 cases hr;simp only[ar,iw] at hb;obtain⟨b0,⟨⟨⟨b1,b2⟩,b3⟩,b4⟩,b5⟩:=hb;have kT:=mP b1;have oU:=mP b2;have HU:S2.o gU=.dead:=by
  cases e:S2.o gU<;>rw[e] at b4<;>first|rfl|cases b4
 have Is:gU∉js:=fun hm=>by rw[abz.2 hm] at b5;cases b5
 simp only[PI.runs,PI.run,ax,aH] at ao;obtain⟨ρ2,⟨d,hd,rfl⟩,ao⟩:=ao;rw[PE.evs_eq,me,FM] at hd;have e1:js.map (PE.ev ρ∘PE.o)=js.map ρ.o:=rfl;rw[e1] at hd;have hfn:=(hΦ f _ d hd s hs).2 shs obs oT
 have vl:=handed h2 hC b0 rfl kT oU b3 iO HU Is (vals:=args.map a.eval++vs) (by simp[gP]) (fun t x hx=>by
  rw[lz] at hx;split at hx
  ·rename_i ah;rw[ix] at ah;rw[cU,bK ah] at hx;cases hx;have:(args.map a.eval++vs).getD t undef=a.eval args[t]:=by
        rw[aS,jA (by simpa using ah),cU,bK ah];rfl
   rw[this];exact aje h2 hC _
  ·rename_i eV;rw[ix] at eV hx;rw[cU,aH] at hx;obtain⟨c,hc,rfl⟩:=hx;obtain⟨j,ver⟩:=c;have cr:(args.map a.eval++vs).getD t undef=vs.getD (t-args.length) undef:=by
        rw[aS,kN (by simpa using eV),ix,aS]
   obtain⟨g1,g2⟩:=ke _ j ver hc;refine⟨.none,⟨by rw[dS];exact g1,fun e=>?_⟩,fun y hy=>by cases hy⟩;rw[dS] at e;obtain⟨k,hk⟩:=ath _ j ver hc e;exact⟨k,hk,by rw[cr,g2 e,hk]⟩) (hfn:=hfn)
 refine vl.mono fun e w' hh=>?_;obtain⟨v,dr,os,rfl,rfl,PU,my⟩:=hh;obtain⟨g1,g2,g3⟩:=ahr js 1 (l:=dr::os) ao (by simp[Env.setO,aU]) Is oU
 obtain⟨σ1,dC,aW,hinv,bU⟩:=my ρ1 g1 (fun k j hk=>by
  have:=g2 k j hk;rw[At] at this;simpa using this) (fun j hj aB=>by rw[g3 j hj];simp only[Env.setO];exact bz _ _ aB)
 refine⟨v,σ1,dC,aW,rfl,hinv,?_⟩;rw[g3 gU Is];simpa [Env.setO,aU,D.tget] using bU
def pj (S:St)(dst:Option Nat)(r:St×Ty×List PI):St×List PI:=
 match dst with
 |some d=>(r.1.setR d (.dat r.2.1),r.2.2++[.setR d (.tget (.o gU) 0)])
 |none=>(r.1,r.2.2)
theorem aBc {a b:List PI}{ρ:Env}:PI.runs Φ (a++b) ρ=(PI.runs Φ a ρ).bind (PI.runs Φ b):=by
 induction a generalizing ρ with
 |nil=>simp[PI.runs]
 |cons x a ih=>
  simp only[FG,PI.runs];cases x.run Φ ρ with
  |none=>rfl
  |some ρ1=>simp[ih]
theorem Yp {o:Oper}{f:Nat}{vals:List Value}(ht:∀d,o.dst=some d→¬A d∧d<a.tmps.size){r:St×Ty×List PI}(hx:(execOp a.eval o).run C.P w=.ok (.enter f vals.toArray) w)
 (hc:∀ρ1,PI.runs Φ r.2.2 ρ=some ρ1→Calls C.P f vals.toArray w fun e w'=>∃v σ1 dC aW,e=.returned v∧Inv C r.1 ρ1 σ1 dC aW w0 σ0 A a w'∧Rep C.cap σ1 r.2.1 v ((ρ1.o gU).tget 0)):bZ C w0 σ0 Φ S ρ A a w o (pj S o.dst r):=by
 intro ρ' ao K Q hK;simp only[Oper.wp,hx,Oper.upon];cases hd:o.dst with
 |none=>
  rw[hd] at ao hK;refine(hc ρ' ao).mono fun e w' hh=>?_;obtain⟨v,σ1,dC,aW,rfl,hinv,bU⟩:=hh;refine hK _ _ ⟨σ1,dC,aW,?_⟩ rfl;have:(fun u=>A u∨(none:Option Nat)=some u)=A:=by funext u;simp
  rw[this];exact hinv
 |some d=>
  rw[hd] at ao hK;obtain⟨t1,t2⟩:=ht d hd;simp only[pj,aBc,ax] at ao;obtain⟨ρ1,h1,h2⟩:=ao;simp[PI.runs,PI.run,PE.ev] at h2;subst h2;refine(hc ρ1 h1).mono fun e w' hh=>?_;obtain⟨v,σ1,dC,aW,rfl,hinv,bU⟩:=hh;refine hK _ _ ⟨σ1,dC,aW,?_⟩ (size_put _ _ _);have:(fun u=>A u∨some d=some u)=(fun u=>A u∨u=d):=by funext u;simp[eq_comm]
  rw[this];exact hinv.setReg t1 (s:=.dat r.2.1) bU t2 (fun _ _ e=>by cases e)
theorem Zo (h:Inv C S ρ σ own hv w0 σ0 A a w)(hC:CtxOK C σ0)(bn:dD C)(hΦ:de C Φ){f:Nat}{args:Array Operand}{ts:Array TypeId}{r:St×Ty×List PI}{o:Oper}(ht:∀d,o.dst=some d→¬A d∧d<a.tmps.size)
 (hr:qd C S f args.toList []=some r) (ho:o.op=.call {callee:=.value (.func f),args:=args,argTypes:=ts}):bZ C w0 σ0 Φ S ρ A a w o (pj S o.dst r):=by
 have hs:∃s,C.sig f=some s:=by
  simp only[qd,ax] at hr;obtain⟨s,hs,_⟩:=hr;exact⟨s,hs⟩
 obtain⟨s,hs⟩:=hs;have hx:=Us (a:=a) (w:=w) bn hs ho;have lM:args.map a.eval=(args.toList.map a.eval++[]).toArray:=by apply w7;simp
 rw[lM] at hx;exact Yp ht hx fun ρ1 ao=>Zn h hC hΦ (vs:=[]) rfl (fun i j ver e=>by simp at e) (fun i j ver e=>by simp at e) hr ao
def xx (S:St):List (Nat×Nat)→Bool
 |[]=>true
 |c::l=>Nat.beq c.2 (S.ver c.1)&&(match S.o c.1 with|.box ..=>true|_=>false)&&xx S l
theorem Yu (h:Inv C S ρ σ own hv w0 σ0 A a w):∀{l:List (Nat×Nat)},xx S l=true→∀(i j ver:Nat),l[i]?=some (j,ver)→ver=S.ver j∧∃k,hv j=.pointer (some ⟨k,0,none⟩)
 |[],_,i,j,ver,e=>by simp at e
 |c::l,hl,i,j,ver,e=>by
  simp only[xx,ar] at hl;cases i with
  |zero=>
   simp at e;subst e;refine⟨aL hl.1.1,?_⟩;have h1:=hl.1.2;have h2:=h.objs j;split at h1
   ·rename_i ag shs eo;simp only at eo;rw[eo] at h2;obtain⟨k,cs,T,ds,g1,_⟩:=h2;exact⟨k,g1⟩
   ·cases h1
  |succ i=>simp at e;exact Yu h hl.2 i j ver e
def xK (C:Ctx)(S:St)(t:Nat)(args:List Operand):Option (St×Ty×List PI):=
 match kL S [] t with
 |.fclo f caps=>bif xx S caps then qd C S f args caps else none
 |_=>none
theorem Zm (h:Inv C S ρ σ own hv w0 σ0 A a w)(hC:CtxOK C σ0)(bn:dD C)(hΦ:de C Φ){t:Nat}{args:Array Operand}{ts:Array TypeId}{r:St×Ty×List PI}{o:Oper}(ht:∀d,o.dst=some d→¬A d∧d<a.tmps.size)
 (hr:xK C S t args.toList=some r) (ho:o.op=.call {callee:=.value (.tmp t),args:=args,argTypes:=ts}):bZ C w0 σ0 Φ S ρ A a w o (pj S o.dst r):=by
 unfold xK at hr;split at hr
 case h_2=>cases hr
 rename_i f caps kq;cases hb:xx S caps<;>simp only[hb,cond_true,cond_false] at hr
 ·cases hr
 have jt:=(od (gs:=[]) h rfl t).1;rw[kq] at jt;obtain⟨vs,h1,h2,h3⟩:=jt;have hs:∃s,C.sig f=some s:=by
  simp only[qd,ax] at hr;obtain⟨s,hs,_⟩:=hr;exact⟨s,hs⟩
 obtain⟨s,hs⟩:=hs;have hx:=ahj (a:=a) (w:=w) (vs:=vs) (x:=.tmp t) bn hs (by simpa [Act.eval] using h1) ho;have lM:args.map a.eval++vs.toArray=(args.toList.map a.eval++vs).toArray:=by apply w7;simp
 rw[lM] at hx;exact Yp ht hx fun ρ1 ao=>Zn h hC hΦ h2 h3 (fun i j ver e _=>(Yu h hb i j ver e).2) hr ao
def AU (S:St):List Operand→Option (List (Nat×Nat))
 |[]=>some []
 |x::xs=>
  match x with
  |.tmp t=>
   match kL S [] t with
   |.ptr j ver off=>bif Nat.beq ver (S.ver j)&&Nat.beq off 0 then(AU S xs).map fun r=>(j,ver)::r else none
   |_=>none
  |_=>none
def Ca (C:Ctx)(S:St)(dst:Nat)(fn:Fn)(first caps:Array Operand):Option (St×List PI):=
 match fn,first.toList with
 |.func f,[]=>
  match C.sig f with
  |some s=>bif qx s.mode then(AU S caps.toList).map fun c=>(S.setR dst (.fclo f c),[.setR dst (.con .none)]) else none
  |none=>none
 |_,_=>none
theorem Yv (h:Inv C S ρ σ own hv w0 σ0 A a w):∀{l:List Operand} {c:List (Nat×Nat)},AU S l=some c→c.length=l.length∧∀(i j ver:Nat),c[i]?=some (j,ver)→ver≤S.ver j∧(ver=S.ver j→(l.map a.eval).getD i undef=hv j)
 |[],c,e=>by simp only[AU,bf] at e;subst e;exact⟨rfl,fun i j ver e=>by simp at e⟩
 |x::xs,c,e=>by
  simp only[AU] at e;split at e
  case h_2=>cases e
  rename_i t;split at e
  case h_2=>cases e
  rename_i j ver off kq;cases hb:(Nat.beq ver (S.ver j)&&Nat.beq off 0)<;>simp only[hb,cond_true,cond_false] at e
  ·cases e
  simp only[ar] at hb;simp only[aH] at e;obtain⟨r,hr,rfl⟩:=e;obtain⟨g1,g2⟩:=Yv h hr;have jt:=(od (gs:=[]) h rfl t).1;rw[kq] at jt;refine⟨by simp[g1],fun i j' oh e=>?_⟩;cases i with
  |zero=>
   simp at e;obtain⟨rfl,rfl⟩:=e;refine⟨jt.1,fun e=>?_⟩;obtain⟨k,k1,k2⟩:=jt.2 e;have e0:off=0:=aL hb.2;subst e0;rw[k1,←k2];simp[Act.eval]
  |succ i=>simp at e;simpa using g2 i j' oh e
theorem apa (h:Inv C S ρ σ own hv w0 σ0 A a w)(ht:¬A dst)(ah:dst<a.tmps.size){fn:Fn}{first caps:Array Operand}{r:St×List PI}{o:Oper}(hr:Ca C S dst fn first caps=some r)(hd:o.dst=some dst)(ho:o.op=.makeFunc fn first caps):bZ C w0 σ0 Φ S ρ A a w o r:=by
 unfold Ca at hr;split at hr
 case h_2=>cases hr
 rename_i f CQ;split at hr
 case h_2=>cases hr
 rename_i s hs;cases hb:qx s.mode<;>simp only[hb,cond_true,cond_false] at hr
 ·cases hr
 simp only[aH] at hr;obtain⟨c,hc,rfl⟩:=hr;obtain⟨g1,g2⟩:=Yv h hc;have CN:first=#[]:=by rw[←sD];simpa using CQ
 refine bZ.value hd fun ρ' ao=>⟨.func (.func f) #[] (caps.toList.map a.eval).toArray,w,?_,?_⟩
 ·subst CN;have e9:caps.map a.eval=(caps.toList.map a.eval).toArray:=by apply w7;rw[Ak]
  simp[execOp,ho,Instr.makeFunc,e9]
 ·have hρ:ρ'=ρ.setR dst .none:=by simp[PI.runs,PI.run,PE.ev] at ao;exact ao.symm
  subst hρ;exact⟨_,_,_,h.setReg ht (s:=.fclo f c) ⟨_,rfl,by simp[g1],g2⟩ ah (fun _ _ e=>by cases e)⟩
end
end Cx
namespace Cx
open Go Go.RowKit
inductive Gh where
 |fz (j:Nat)|fbox (b:Nat)|rereg (t j:Nat)|recell (b i j:Nat)|home (b i j:Nat) (T:TypeId)
def Gh.run (C:Ctx)(S:St):Gh→Option (St×List PI)
 |.fz j=>some (S.fz j,[])
 |.fbox b=>Cu S b
 |.rereg t j=>wN S t j
 |.recell b i j=>E7 S b i j
 |.home b i j T=>C9 C S b i j T
def ji (C:Ctx):List Gh→St→Option (St×List PI)
 |[],S=>some (S,[])
 |g::gs,S=>(g.run C S).bind fun r=>(ji C gs r.1).map fun q=>(q.1,r.2++q.2)
theorem oa {Φ:aT}:∀{a b:List PI} {ρ:Env},PI.runs Φ (a++b) ρ=(PI.runs Φ a ρ).bind (PI.runs Φ b)
 |[],b,ρ=>by simp[PI.runs]
 |x::a,b,ρ=>by
  simp only[FG,PI.runs];cases x.run Φ ρ with
  |none=>rfl
  |some ρ1=>simp[oa (a:=a) (b:=b)]
def oP (S:St)(ops:Array Oper)(o:Oper):Option (List (Nat×Bool)):=
 match o.guard with
 |none=>some []
 |some (j,want)=>
  match(ops[j]?).bind (·.dst) with
  |some t=>
   match S.r t with
   |.dat .bool=>some [(t,want)]
   |.opt gs (.dat .bool)=>some ((t,want)::gs)
   |_=>none
  |none=>none
def tW (S:St)(gs:List (Nat×Bool)):Op→List Nat
 |.build _ ps=>cm S gs (ps.toList.map (·.2))
 |.buildSlice _ _ ps=>cm S gs (ps.toList.map (·.2))
 |.box _ x=>cm S gs [x]
 |.pick _ x y=>cm S gs [x,y]
 |.slice _ x _ _ _=>cm S gs [x]
 |.mapUpdate _ _ k v=>cm S gs [k,v]
 |.insert _ _ k v=>cm S gs [k,v]
 |.store _ x v=>match gj S gs x with|.eptr ..=>cm S gs [v]|_=>[]
 |_=>[]
def AV:List Sh→List Nat
 |[]=>[]
 |.obj j _::r=>j::AV r
 |_::r=>AV r
def F4 (S:St)(gs:List (Nat×Bool)):List Operand→List Nat
 |[]=>[]
 |x::xs=>
  match gj S gs x with
  |.ptr j ver off=>bif Nat.beq ver (S.ver j)&&(match S.o j with|.box ..=>true|_=>false) then j::F4 S gs xs else F4 S gs xs
  |_=>F4 S gs xs
def aek (C:Ctx):Fn→Bool
 |.func f=>(match C.sig f with|some s=>qx s.mode|none=>false)
 |_=>false
def pre (C:Ctx)(S:St)(gs:List (Nat×Bool))(op:Op):List Gh:=
 match op with
 |.makeFunc fn _ caps=>
  bif aek C fn then[] else(F4 S gs caps.toList).flatMap fun b=>(match S.o b with|.box _ shs=>(AV shs).map .fz|_=>[])++[.fbox b]
 |.load T x=>
  match gj S gs x,oY C.P T,C.P.info? T with
  |.ptr j _ off,some true,some inf=>(match S.o j with|.box _ shs=>(AV ((shs.drop off).take inf.size)).map .fz|_=>[])
  |_,_,_=>[]
 |op=>(tW S gs op).map .fz
def pv (C:Ctx)(S:St)(gs:List (Nat×Bool))(o:Oper):List Gh:=
 match o.op,o.dst with
 |.assign x,some t=>bif C.fr.any (Nat.beq t) then(cm S gs [x]).map .fz else[]
 |_,_=>[]
def Oc (P:Program):Nat→TypeId→List (Option TypeId)
 |0,_=>[]
 |n+1,t=>
  match P.underlying t with
  |some (.struct fs)=>fs.toList.flatMap fun f=>Oc P n f.type
  |some (.array len e)=>(List.replicate len (Oc P n e)).flatten
  |some (.slice e)=>[some e]
  |_=>[none]
def homes (P:Program)(b off:Nat)(T:TypeId):List Gh:=
 ((Oc P 12 T).zipIdx).filterMap fun x=>x.1.map fun e=>.home b (off+x.2) (aa8 b (off+x.2)) e
def IB (nh:List Nat)(l:List Gh):List Gh:=l.filter fun g=>match g with|.home _ _ j _=> !(nh.any (Nat.beq j))|_=>true
def ag6 (b off n:Nat):List Gh:=(List.range n).map fun i=>.recell b (off+i) (aa8 b (off+i))
def post (C:Ctx)(S:St)(o:Oper):List Gh:=
 match o.op,o.dst with
 |.assign _,some t=>[.rereg t t]
 |.alloc T,some t=>IB C.nh (homes C.P t 0 T)
 |.store T x _,_=>
  match gj S [] x with
  |.ptr j _ off=>IB C.nh (homes C.P j off T)++ag6 j off (match C.P.info? T with|some i=>i.size|none=>0)
  |_=>[]
 |_,_=>[]
def qz:Sh→Bool
 |.opt ..=>false
 |_=>true
def sT (C:Ctx)(S:St)(dst:Nat)(T:TypeId)(x:Operand):ls:=
 match x with
 |.const v=>(og C.P T).bind fun t=>(om t).bind fun z=>bif jd t v then some (S.setR dst (.dat z.1),[.setR dst (.con z.2)]) else none
 |_=>none
def core (C:Ctx)(S:St)(gs:List (Nat×Bool))(o:Oper):Option (St×List PI):=
 match o.dst with
 |some dst=>
  match nN C S gs dst o.op with
  |some r=>bif qz r.1 then some (S.setR dst (iK gs r.1),r.2) else none
  |none=>
   match o.op,gs with
   |.assign x,[]=>
    bif C.fr.any (Nat.beq dst) then
          match pk C S [] dst x with
          |some r=>some (S.setR dst r.1,r.2)
          |none=>sT C S dst o.type x
    else
    match Cb C S dst o.type x with
    |some r=>some r
    |none=>
     match pk C S [] dst x with
     |some r=>some (S.setR dst r.1,r.2)
     |none=>sT C S dst o.type x
   |.alloc T,[]=>B3 C S dst T
   |.box T x,[]=>B5 C S dst T x
   |.buildSlice T n ps,gs=>
    match gs with
    |[]=>u9 C S [] dst T n ps.toList
    |_=>xL C S gs dst T n ps.toList
   |.makeSlice T l c,[]=>B9 C S dst T l c
   |.makeMap T r,[]=>B8 C S dst T r
   |.range T x,[]=>Cc C S dst T x
   |.convert T U x,[]=>B6 C S dst T U x
   |.call c,gs=>
    match c.callee,gs with
    |.builtin .append,[]=>
     match c.args.toList,c.argTypes.toList with
     |[s,x],[T,T']=>bif Nat.beq T T' then B4 C S dst T s x else none
     |_,_=>none
    |.value (.func f),gs=>
     match oK C S gs dst f c.args.toList with
     |some r=>some (r.1.setR dst (iK gs r.2.1),r.2.2)
     |none=>
      match gs with
      |[]=>
       match B7 C S dst f c.args.toList with
       |some r=>some r
       |none=>(qd C S f c.args.toList []).map (pj S (some dst))
      |_=>none
    |.value x,gs=>
     match ns C S gs dst x c.args.toList with
     |some r=>some (r.1.setR dst (iK gs r.2.1),r.2.2)
     |none=>
      match x,gs with
      |.tmp t,[]=>(xK C S t c.args.toList).map (pj S (some dst))
      |_,_=>none
    |_,_=>none
   |.makeFunc fn first caps,[]=>Ca C S dst fn first caps
   |_,_=>none
 |none=>
  match o.op,gs with
  |.store T x v,[]=>sS C S T x v
  |.mapUpdate T m k v,[]=>rq C S T m k v
  |.insert T m k v,[]=>rq C S T m k v
  |.panic _,[]=>some (S,[.chk (.nt (.con (.bool true)))])
  |.call c,[]=>
   match c.callee with
   |.value (.func f)=>(qd C S f c.args.toList []).map (pj S none)
   |.value (.tmp t)=>(xK C S t c.args.toList).map (pj S none)
   |_=>none
  |_,_=>none
def afH (dst:Nat)(l:List PI):Bool:=l.all fun p=>p.modR.all (Nat.beq dst)&&p.modO.isEmpty
def iL (gs:List (Nat×Bool))(dst:Option Nat)(l:List PI):Bool:=
 match gs,dst with
 |[],_=>true
 |_,some d=>afH d l
 |_,none=>false
def BZ (C:Ctx)(S:St)(ops:Array Oper)(o:Oper):Option (St×List PI):=
 (oP S ops o).bind fun gs=>
 (ji C (pre C S gs o.op++pv C S gs o) S).bind fun r1=>
 (core C r1.1 gs o).bind fun r2=>
 (ji C (post C r2.1 o) r2.1).bind fun r3=>
 bif iL gs o.dst r2.2 then some (r3.1,r1.2++r2.2++r3.2) else none
def Fk:PI:=.chk (.con (.v (.bool false)))
def xH (C:Ctx)(S:St)(ops:Array Oper)(o:Oper):Option (St×List PI):=
 match BZ C S ops o with
 |some r=>some r
 |none=>some (match o.dst with|some d=>S.setR d .none|none=>S,[Fk])
section
variable {C:Ctx} {S:St} {ρ:Env} {σ:Im} {own:Nat→Option Nat} {hv:Nat→Value} {w0:World} {σ0:Base} {A:Nat→Prop} {a:Act} {w:World} {gs:List (Nat×Bool)} {Φ:aT} {dst:Nat}
theorem Gh.sound {g:Gh}{r:St×List PI}(h:Good C w0 σ0 S ρ A a w)(hr:g.run C S=some r):An C w0 σ0 Φ S ρ A a w r:=by
 obtain⟨σ,own,hv,h⟩:=h;cases g with
 |fz j=>
  simp only[Gh.run,bf] at hr;subst hr;intro ρ' ao;rw[mW ao];obtain⟨σ',own',_,h'⟩:=h.fz j;exact⟨σ',own',hv,h'⟩
 |fbox b=>exact ass h hr
 |rereg t j=>exact aAV h hr
 |recell b i j=>exact aAU h hr
 |home b i j T=>exact auG h hr
theorem OQ:∀(l:List Gh) {S:St} {ρ ρ':Env} {r:St×List PI},Good C w0 σ0 S ρ A a w→ji C l S=some r→PI.runs Φ r.2 ρ=some ρ'→Good C w0 σ0 r.1 ρ' A a w
 |[],S,ρ,ρ',r,h,hr,ao=>by
  simp only[ji,bf] at hr;subst hr;rw[mW ao];exact h
 |g::l,S,ρ,ρ',r,h,hr,ao=>by
  simp only[ji,ax,aH] at hr;obtain⟨q,hq,q2,iS,rfl⟩:=hr;simp only[oa,ax] at ao;obtain⟨ρ1,h1,h2⟩:=ao;exact OQ (r:=q2) l (Gh.sound (Φ:=Φ) h hq ρ1 h1) iS h2
theorem Z1 (h:Good C w0 σ0 S ρ A a w){ops:Array Oper}{o:Oper}(hg:oP S ops o=some gs):Region.wanted o (yielded ops a.tmps)=holds gs ρ:=by
 obtain⟨σ,own,hv,h⟩:=h;unfold oP at hg;unfold Region.wanted;split at hg
 ·rename_i e;cases hg;simp[e,holds]
 ·rename_i j want e;simp only[e];split at hg
  case h_2=>cases hg
  rename_i t ht;have jt:=h.regs t;have hy:∀v,a.tmps.getD t undef=v→(∀b,v=.bool b→yielded ops a.tmps j=some b)∧(v=undef→yielded ops a.tmps j=none):=by
   intro v hv';unfold yielded;rw[ht];simp only[kP];rw[dO] at hv';cases tj:a.tmps[t]? with
   |none=>rw[tj] at hv';simp at hv';subst hv';exact⟨fun b e=>absurd e (by simp[undef]),fun _=>rfl⟩
   |some u=>rw[tj] at hv';simp at hv';subst hv';exact⟨fun b e=>by subst e;rfl,fun e=>by subst e;rfl⟩
  split at hg
  ·rename_i es;cases hg;rw[es] at jt;obtain⟨b,jk,dm⟩:=Rep.bool_inv jt;rw[(hy _ jk).1 b rfl];simp[holds,dm,D.b_bool]
  ·rename_i bM es;cases hg;rw[es] at jt;simp only[holds,pP];cases hh:holds bM ρ with
   |true=>
    obtain⟨b,jk,dm⟩:=Rep.bool_inv (jt.1 hh);rw[(hy _ jk).1 b rfl];unfold holds at hh;rw[hh,dm];simp[D.b_bool]
   |false=>
    rw[(hy _ (jt.2 hh)).2 rfl];unfold holds at hh;rw[hh];simp
  ·cases hg
theorem Z0 (h:Good C w0 σ0 S ρ A a w){ops:Array Oper}{o:Oper}(hg:oP S ops o=some gs)(hj:∀j want t,o.guard=some (j,want)→(ops[j]?).bind (·.dst)=some t→A t):∀g,g∈gs→A g.1:=by
 obtain⟨σ,own,hv,h⟩:=h;unfold oP at hg;split at hg
 ·cases hg;simp
 ·rename_i j want e;split at hg
  case h_2=>cases hg
  rename_i t ht;have hA:=hj j want t e ht;split at hg
  ·cases hg;intro g hm;simp at hm;subst hm;exact hA
  ·rename_i bM es;cases hg;intro g hm;rcases cG.1 hm with e'|eW
   ·subst e';exact hA
   ·exact(h.opts t bM _ es).1 g eW
  ·cases hg
theorem azv (h:Inv C S ρ σ own hv w0 σ0 A a w)(hC:CtxOK C σ0)(hg:holds gs ρ=true){o:Oper}{r:Sh×List PI}(hr:nN C S gs dst o.op=some r):dW C S ρ σ hv Φ dst a w o r:=by
 unfold nN at hr;split at hr
 ·rename_i x e;exact afL h hC hg hr (.inl e)
 ·rename_i c x y e;exact azu h hC hg hr e
 ·rename_i op T x y T' e;exact ay5 h hC hg hr e
 ·rename_i op T x e;exact azz h hC hg hr e
 ·rename_i s d x e;exact ay9 h hC hg hr e
 ·rename_i T x e;exact Jj h hC hg hr e
 ·rename_i T x i e;exact azd h hC hg hr e
 ·rename_i T x i e;exact azf h hC hg hr e
 ·rename_i T x i e;exact azi h hC hg hr e
 ·rename_i T x i e;exact azk h hC hg hr e
 ·rename_i x i e;exact azb h hC hg hr e
 ·rename_i T m k ok e;exact azq h hC hg hr e
 ·rename_i T x lo hi mx e;exact azx h hC hg hr e
 ·rename_i f a b e;exact azg h hC hg hr e
 ·rename_i T ps e;exact ay7 h hC hg hr e
 ·rename_i x e;exact azs h hC hg hr e
 ·cases hr;intro ρ' ao;have:=(Uu hg ao).1;cases this
 ·rename_i c e;split at hr
  ·rename_i x T hc ha ht;refine azm h hC hg hr ?_;rw[e];cases c with|mk callee args argTypes=>
   simp only at hc ha ht;have h1:args=#[x]:=by rw[←sD];exact ha
   have h2:argTypes=#[T]:=by rw[←sD];exact ht
   rw[hc,h1,h2]
  ·rename_i x y hc ha;refine afJ (ts:=c.argTypes) h hC hg hr ?_;rw[e];cases c with|mk callee args argTypes=>
   simp only at hc ha;have h1:args=#[x,y]:=by rw[←sD];exact ha
   rw[hc,h1];rfl
  ·rename_i x y hc ha;refine afJ (ts:=c.argTypes) h hC hg hr ?_;rw[e];cases c with|mk callee args argTypes=>
   simp only at hc ha;have h1:args=#[x,y]:=by rw[←sD];exact ha
   rw[hc,h1];rfl
  ·cases hr
 ·cases hr
theorem api (h:Inv C S ρ σ own hv w0 σ0 A a w)(ht:¬A dst)(ah:dst<a.tmps.size){T:TypeId}{x:Operand}{r:St×List PI}(hr:sT C S dst T x=some r){o:Oper}(hd:o.dst=some dst)(ho:o.op=.assign x):bZ C w0 σ0 Φ S ρ A a w o r:=by
 unfold sT at hr;split at hr
 case h_2=>cases hr
 rename_i v;simp only[ax] at hr;obtain⟨t,_,z,hz,hr⟩:=hr;cases hc:jd t v<;>simp only[hc,cond_true,cond_false] at hr
 ·cases hr
 cases hr;have bU:=(w6 (cap:=C.cap) (σ:=σ) hz hc).1;refine bZ.value hd fun ρ' ao=>⟨v,w,by simp[execOp,ho,Act.eval],?_⟩
 have hρ:ρ'=ρ.setR dst z.2:=by simp[PI.runs,PI.run,PE.ev] at ao;exact ao.symm
 subst hρ;exact⟨_,_,_,h.setReg ht (s:=.dat z.1) bU ah (fun _ _ e=>by cases e)⟩
theorem aox (h:Inv C S ρ σ own hv w0 σ0 A a w)(hC:CtxOK C σ0)(bn:dD C)(hΦ:de C Φ){o:Oper}(ht:∀d,o.dst=some d→¬A d∧d<a.tmps.size)(dG:∀g,g∈gs→A g.1)(hg:holds gs ρ=true){r:St×List PI}
 (hr:core C S gs o=some r):bZ C w0 σ0 Φ S ρ A a w o r:=by
 unfold core at hr;split at hr
 ·rename_i dst hd;obtain⟨gn,gp⟩:=ht dst hd;split at hr
  ·rename_i q hq;cases dX:qz q.1<;>simp only[dX,cond_true,cond_false] at hr
   ·cases hr
   cases hr;have abd:=azv (Φ:=Φ) h hC hg hq;cases gs with
   |nil=>exact abd.eff h gn gp hd
   |cons g bM=>exact abd.effG h gn gp dG hg hd
  ·rename_i PK;clear PK;split at hr
   ·rename_i x e
    have mv:∀r,(match pk C S [] dst x with|some r=>some (S.setR dst r.1,r.2)|none=>sT C S dst o.type x)=some r→bZ C w0 σ0 Φ S ρ A a w o r:=by
     intro r hr;split at hr
     ·rename_i q hq;cases hr;exact(afL (Φ:=Φ) h hC hg hq (.inr e)).eff h gn gp hd
     ·exact api h gn gp hr hd e
    cases da:C.fr.any (Nat.beq dst)<;>simp only[da,cond_true,cond_false] at hr
    ·split at hr
     ·rename_i q hq;cases hr;exact apc h hC gn gp hq hd e
     ·exact mv r hr
    ·exact mv r hr
   ·rename_i T e;exact aoM h gn gp hr hd e
   ·rename_i T x e;exact aoQ h hC gn gp hr hd e
   ·rename_i T n ps e;split at hr
    ·exact aoS h hC gn gp hr hd e
    ·exact ao4 h hC gn gp dG hg hr hd e
   ·rename_i T l c e;exact ao8 h hC gn gp hr hd e
   ·rename_i T m e;exact ao6 h gn gp hr hd e
   ·rename_i T x e;exact ape h gn gp hr hd e
   ·rename_i T U x e;exact aoU h hC gn gp hr hd e
   ·rename_i c e;cases c with|mk callee args argTypes=>
    split at hr
    ·rename_i hc;simp only at hc;split at hr
     ·rename_i s x T T' ha Qm;simp only at ha Qm;cases hT:Nat.beq T T'<;>simp only[hT,cond_true,cond_false] at hr
      ·cases hr
      have ya:=aL hT;subst ya;refine aoO h hC gn gp hr hd ?_;have h1:args=#[s,x]:=by rw[←sD];exact ha
      have h2:argTypes=#[T,T]:=by rw[←sD];exact Qm
      rw[e,hc,h1,h2]
     ·cases hr
    ·rename_i f hc;simp only at hc;split at hr
     ·rename_i q hq;cases hr;exact ao2 h hC bn hΦ gn gp dG hg hq hd (by rw[e,hc])
     ·split at hr
      ·split at hr
       ·rename_i q hq;cases hr;exact aoZ h hC bn hΦ gn gp hq hd (by rw[e,hc])
       ·simp only[aH] at hr;obtain⟨q,hq,rfl⟩:=hr;rw[←hd];exact Zo h hC bn hΦ ht hq (by rw[e,hc])
      ·cases hr
    ·rename_i x PH hc;simp only at hc;split at hr
     ·rename_i q hq;cases hr;exact aoX h hC bn hΦ gn gp dG hg hq hd (by rw[e,hc])
     ·split at hr
      ·simp only[aH] at hr;obtain⟨q,hq,rfl⟩:=hr;rw[←hd];exact Zm h hC bn hΦ ht hq (by rw[e,hc])
      ·cases hr
    ·cases hr
   ·rename_i fn first caps e;exact apa h gn gp hr hd e
   ·cases hr
 ·rename_i hd;split at hr
  ·rename_i T x v e;exact apg h hC hr hd e
  ·rename_i T m k v e;exact Zq h hC hr hd (.inl e)
  ·rename_i T m k v e;exact Zq h hC hr hd (.inr e)
  ·cases hr;intro ρ' ao;simp[PI.runs,PI.run,PE.ev,D.bool,D.b] at ao
  ·rename_i c e;cases c with|mk callee args argTypes=>
   split at hr
   ·rename_i f hc;simp only at hc;simp only[aH] at hr;obtain⟨q,hq,rfl⟩:=hr;rw[←hd];exact Zo h hC bn hΦ ht hq (by rw[e,hc])
   ·rename_i t hc;simp only at hc;simp only[aH] at hr;obtain⟨q,hq,rfl⟩:=hr;rw[←hd];exact Zm h hC bn hΦ ht hq (by rw[e,hc])
   ·cases hr
  ·cases hr
theorem aov {g:Nat×Bool}{bM:List (Nat×Bool)}{o:Oper}{r:St×List PI}(hr:core C S (g::bM) o=some r):
 ∃dst S2 s,o.dst=some dst∧r.1=S2.setR dst (.opt (g::bM) s)∧((∃js,S2=S.fzs js)∨∃j,S2=S.newO j .dead)∧(∀gs s',s≠.opt gs s')∧(∀x,o.op≠.assign x)∧(∀T,o.op≠.alloc T)∧∀T x v,o.op≠.store T x v:=by
 unfold core at hr;split at hr
 ·rename_i dst hd;split at hr
  ·rename_i q hq;cases dX:qz q.1<;>simp only[dX,cond_true,cond_false] at hr
   ·cases hr
   cases hr;refine⟨dst,S,q.1,hd,rfl,.inl ⟨[],rfl⟩,(fun gs s' e=>by rw[e] at dX;cases dX),fun x e=>?_,fun T e=>?_,fun T x v e=>?_⟩<;>(rw[e] at hq;simp[nN] at hq)
  ·rename_i PK;clear PK;split at hr
   case h_4=>
        rename_i T n ps e;split at hr
        ·rename_i hx;cases hx
        ·unfold xL at hr;split at hr
         case h_2=>cases hr
         simp only[ax] at hr;obtain⟨e0,he0,hr⟩:=hr;split at hr
         ·cases hr;exact⟨dst,_,.dat (.slice e0.rol),hd,rfl,.inr ⟨dst,rfl⟩,(fun _ _ e=>by cases e),(fun x e'=>by rw[e] at e';cases e'),(fun x e'=>by rw[e] at e';cases e'),(fun _ _ _ e'=>by rw[e] at e';cases e')⟩
         ·cases hr
   case h_9=>
        rename_i c e;split at hr
        ·rename_i hx;cases hx
        ·rename_i f hc;split at hr
         ·rename_i q hq;cases hr;simp only[oK,ax] at hq;obtain⟨s,hs,hq⟩:=hq;split at hq
          case h_2=>cases hq
          simp only[ax] at hq;obtain⟨u,hu,hq⟩:=hq;cases cn:Ty.subs u.1 s.args<;>simp only[cn,cond_true,cond_false] at hq
          ·cases hq
          cases hq;refine⟨dst,_,.dat s.res,hd,rfl,?_,(fun _ _ e=>by cases e),(fun x e'=>by rw[e] at e';cases e'),(fun x e'=>by rw[e] at e';cases e'),(fun _ _ _ e'=>by rw[e] at e';cases e')⟩;left;cases s.res.pure
          ·exact⟨_,rfl⟩
          ·exact⟨[],rfl⟩
         ·cases hr
        ·rename_i x PH hc;have hr:∃q,ns C S (g::bM) dst x c.args.toList=some q∧(q.1.setR dst (iK (g::bM) q.2.1),q.2.2)=r:=by
          split at hr
          ·rename_i q hq;cases hr;exact⟨q,hq,rfl⟩
          ·split at hr
           all_goals (first|(cases hr;done)|(rename_i hx;cases hx;done)|(rename_i hx _;cases hx;done)|(rename_i hx _ _;cases hx;done)|(rename_i hx;exact absurd hx (by simp)))
         obtain⟨q,hq,rfl⟩:=hr;unfold ns at hq;split at hq
         case h_2=>cases hq
         rename_i aa r0 ee Qn;split at hq
         case h_1=>cases hq
         simp only[ax] at hq;obtain⟨u,hu,hq⟩:=hq;cases cn:Ty.subs u.1 aa<;>simp only[cn,cond_true,cond_false] at hq
         ·cases hq
         cases hq;refine⟨dst,_,.dat r0,hd,rfl,?_,(fun _ _ e=>by cases e),(fun x e'=>by rw[e] at e';cases e'),(fun x e'=>by rw[e] at e';cases e'),(fun _ _ _ e'=>by rw[e] at e';cases e')⟩;left;cases r0.pure
         ·exact⟨_,rfl⟩
         ·exact⟨[],rfl⟩
        ·cases hr
   all_goals (first|(cases hr;done)|(rename_i hx;cases hx;done)|(rename_i hx _;cases hx;done))
 ·split at hr
  all_goals (first|(cases hr;done)|(rename_i hx;cases hx;done)|(rename_i hx _;cases hx;done))
theorem aa7 {ρ ρ1:Env}:∀{l:List (Nat×Bool)},(∀g,g∈l→ρ1.r g.1=ρ.r g.1)→holds l ρ1=holds l ρ
 |[],_=>rfl
 |x::l,h=>by
  have ih:=aa7 (l:=l) fun y hy=>h y (dj _ hy);unfold holds at ih ⊢;simp only[pP];rw[ih,h x (dw ..)]
theorem ZX:∀(l:List Gh) {S:St} {r:St×List PI},ji C l S=some r→∀t,t∉r.2.flatMap PI.modR
 |[],S,r,hr=>by simp only[ji,bf] at hr;subst hr;simp
 |g::l,S,r,hr=>by
  simp only[ji,ax,aH] at hr;obtain⟨q,hq,q2,iS,rfl⟩:=hr;have ih:=ZX l iS;have hg:∀t,t∉q.2.flatMap PI.modR:=by
   cases g with
   |fz j=>simp only[Gh.run,bf] at hq;subst hq;simp
   |fbox b=>
    simp only[Gh.run,Cu] at hq;split at hq
    case h_2=>cases hq
    simp only[ax] at hq;obtain⟨x,hx,hq⟩:=hq;rename_i ag shs eo;cases ag<;>simp only[cond_true,cond_false] at hq
    ·split at hq
     ·cases hq;simp[PI.modR]
     ·cases hq
    ·cases hq;simp[PI.modR]
   |rereg t j=>
    simp only[Gh.run,wN] at hq;split at hq
    ·rename_i j' ver es;cases hb:(Nat.beq ver (S.ver j')&&mJ (S.o j')&& !Nat.beq j' j)<;>simp only[hb,cond_true,cond_false] at hq<;>cases hq<;>simp[PI.modR]
    ·cases hq;simp
   |recell b i j=>
    simp only[Gh.run,E7] at hq;split at hq
    ·split at hq
     ·rename_i ag shs eo j' ver es;cases hb:(Nat.beq ver (S.ver j')&&mJ (S.o j')&& !Nat.beq j' j&& !Nat.beq b j&& !Nat.beq b j')<;>simp only[hb,cond_true,cond_false] at hq<;>cases hq<;>simp[PI.modR]
     ·cases hq;simp
    ·cases hq;simp
   |home b i j T=>
    simp only[Gh.run,C9] at hq;split at hq
    ·split at hq
     ·cases hb:(!Nat.beq b j)<;>simp only[hb,cond_true,cond_false] at hq<;>cases hq<;>simp[PI.modR]
     ·cases hq;simp
    ·cases hq;simp
  intro t hm;rw[List.flatMap_append,cY] at hm;exact hm.elim (hg t) (ih t)
theorem aoo (h:Good C w0 σ0 S ρ A a w)(hC:CtxOK C σ0)(bn:dD C)(hΦ:de C Φ){ops:Array Oper}{o:Oper}(ht:∀d,o.dst=some d→¬A d∧d<a.tmps.size)
 (hj:∀j want t,o.guard=some (j,want)→(ops[j]?).bind (·.dst)=some t→A t) {r:St×List PI} (hr:BZ C S ops o=some r) {ρ':Env} (ao:PI.runs Φ r.2 ρ=some ρ')
 {K:Act→World→Prop} {Q:Exit→Act→World→Prop} (hK:∀a' w',Good C w0 σ0 r.1 ρ' (fun u=>A u∨o.dst=some u) a' w'→a'.tmps.size=a.tmps.size→K a' w'):
 if Region.wanted o (yielded ops a.tmps) then o.wp C.P a w K Q else K (a.put o.dst undef) w:=by
 simp only[BZ,ax] at hr;obtain⟨gs,dG,r1,ic,r2,qs,r3,vF,hr⟩:=hr;have ym:=Z0 h dG hj;rw[Z1 h dG];cases hc:iL gs o.dst r2.2<;>simp only[hc,cond_true,cond_false] at hr
 ·cases hr
 cases hr;simp only[oa,ax] at ao;obtain⟨ρ2,⟨ρ1,hρ1,hρ2⟩,hρ3⟩:=ao;have h1:=OQ _ h ic hρ1;have cA:=h1;obtain⟨σ1,dC,aW,i1⟩:=cA;have H0:holds gs ρ1=holds gs ρ:=by
  cases gs with
  |nil=>rfl
  |cons g bM=>
   have hb:=(PI.runs_but hρ1).r
   have:∀x,x∈(g::bM)→ρ1.r x.1=ρ.r x.1:=fun x hm=>hb x.1 (by
        intro cV;exact ZX _ ic x.1 cV)
   exact aa7 this
 cases hh:holds gs ρ with
 |true=>
  simp only[if_true];rw[hh] at H0;refine aox i1 hC bn hΦ ht ym H0 qs ρ2 hρ2 K Q (fun a' w' fm aR=>?_);exact hK a' w' (OQ (r:=r3) _ fm vF hρ3) aR
 |false=>
  simp only[uG,if_false];rw[hh] at H0;cases gs with
  |nil=>simp[holds] at hh
  |cons g bM=>
   obtain⟨dst,S2,s,hd,hS,x9,hns,n1,n2,n3⟩:=aov qs;obtain⟨t1,t2⟩:=ht dst hd;have jQ:post C r2.1 o=[]:=by
        unfold post;split
        ·rename_i x t e _;exact absurd e (n1 x)
        ·rename_i T t e _;exact absurd e (n2 T)
        ·rename_i T x v e;exact absurd e (n3 T x v)
        ·rfl
   rw[jQ] at vF;simp only[ji,bf] at vF;subst vF;have:=mW hρ3;subst this;obtain⟨σ2,iu,i2⟩:∃σ2 iu,Inv C S2 ρ1 σ2 iu aW w0 σ0 A a w:=by
        rcases x9 with⟨js,rfl⟩|⟨j,rfl⟩
        ·obtain⟨σ2,iu,_,i2⟩:=Inv.fzs js i1;exact⟨σ2,iu,i2⟩
        ·exact⟨σ1,dC,i1.kill j⟩
   have Dc:=i2.passed t1 t2 ym H0 (s:=s) hns (ρ'.r dst);have hρe:ρ1.setR dst (ρ'.r dst)=ρ':=by
        have hb:=PI.runs_but hρ2;simp only[iL,hd] at hc;unfold afH at hc;rw[bL] at hc
        have e1:∀t,t≠dst→ρ'.r t=ρ1.r t:=fun t aB=>hb.r t (fun hm=>by
         obtain⟨p,hp,tz⟩:=mf.1 hm;have:=hc p hp;simp only[ar] at this;have:=bL.1 this.1 t tz;exact aB (aL this).symm)
        have e2:∀t,ρ'.o t=ρ1.o t:=fun t=>hb.o t (fun hm=>by
         obtain⟨p,hp,tz⟩:=mf.1 hm;have:=hc p hp;simp only[ar] at this;have h9:=re.1 this.2;rw[h9] at tz;cases tz)
        have r1:cf ρ1.r dst (ρ'.r dst)=ρ'.r:=by
         funext t;rw[fS];split
         ·rename_i e;subst e;rfl
         ·rename_i aB;exact(e1 t aB).symm
        have r2:ρ1.o=ρ'.o:=funext fun t=>(e2 t).symm;cases ρ' with|mk a b=>simp only[Env.setR] at r1 r2 ⊢;rw[r1,r2]
   rw[hρe] at Dc;have jn:(fun u=>A u∨o.dst=some u)=(fun u=>A u∨u=dst):=by funext u;rw[hd];simp[eq_comm]
   rw[jn] at hK;rw[hd];refine hK _ _ ?_ (size_put _ _ _);simp only;rw[hS];exact⟨_,_,_,Dc⟩
theorem aoq (h:Good C w0 σ0 S ρ A a w)(hC:CtxOK C σ0)(bn:dD C)(hΦ:de C Φ){ops:Array Oper}{o:Oper}(ht:∀d,o.dst=some d→¬A d∧d<a.tmps.size)
 (hj:∀j want t,o.guard=some (j,want)→(ops[j]?).bind (·.dst)=some t→A t) {r:St×List PI} (hr:xH C S ops o=some r) {ρ':Env} (ao:PI.runs Φ r.2 ρ=some ρ')
 {K:Act→World→Prop} {Q:Exit→Act→World→Prop} (hK:∀a' w',Good C w0 σ0 r.1 ρ' (fun u=>A u∨o.dst=some u) a' w'→a'.tmps.size=a.tmps.size→K a' w'):
 if Region.wanted o (yielded ops a.tmps) then o.wp C.P a w K Q else K (a.put o.dst undef) w:=by
 unfold xH at hr;split at hr
 ·rename_i q hq;cases hr;exact aoo h hC bn hΦ ht hj hq ao hK
 ·cases hr;simp[PI.runs,PI.run,Fk,PE.ev,D.b_bool] at ao
end
end Cx
namespace Cx
open Go Go.RowKit
def nL:Op→Bool
 |.defer _=>false
 |_=>true
def FR (rd:Option Nat):Fence:={Fence.wide with round:=rd}
theorem Yr {rd:Option Nat}{n:Nat}{P:Program}{f:FuncId}{args:Array Value}{w:World}{R:Ending→World→Prop}(h:Calls P f args w R):CallsIn (FR rd) n P f args w R:=
 (callsIn_wide (n:=n)).2 h
theorem afO {rd:Option Nat}{n:Nat}{P:Program}{o:Oper}{a:Act}{w:World}{K:Act→World→Prop}{Q:Exit→Act→World→Prop}(bp:nL o.op=true)(h:o.wp P a w K Q):o.wpIn (FR rd) n P a w K Q:=by
 refine⟨fun _ _=>trivial,?_⟩;rw[Oper.semAt_eq _ _ _ (fun c e=>by rw[e] at bp;cases bp)];unfold Oper.wp at h;generalize (execOp a.eval o).run P w=x at h;have dX:∀{p:Prop},((FR rd).depth.isSome=true→p):=fun e=>by cases e
 cases x with
 |ok v w'=>
  cases v with
  |value v=>exact h
  |skip=>exact h
  |defer d=>exact h
  |enter f args=>
   refine⟨dX,(Yr h).mono fun e j0 hh=>?_⟩;cases e<;>exact hh
  |row row args=>
   refine⟨dX,fun c cs _=>?_⟩;obtain⟨v,w2,h1,h2⟩:=h c cs;exact⟨v,w2,h1,stepsIn_wide.2 h2⟩
  |_=>exact h.elim
 |halt v w'=>
  cases v with
  |panic v=>exact h
  |_=>exact h.elim
structure SameBut (D:Nat→Prop) (a a':Act):Prop where
 size:a'.tmps.size=a.tmps.size
 get:∀t,¬D t→a'.tmps.getD t undef=a.tmps.getD t undef
theorem SameBut.refl (D:Nat→Prop)(a:Act):SameBut D a a:=⟨rfl,fun _ _=>rfl⟩
theorem SameBut.trans {D:Nat→Prop}{a b c:Act}(h:SameBut D a b)(k:SameBut D b c):SameBut D a c:=⟨k.size.trans h.size,fun t ht=>(k.get t ht).trans (h.get t ht)⟩
theorem SameBut.mono {D D':Nat→Prop}{a b:Act}(h:SameBut D a b)(hd:∀t,D t→D' t):SameBut D' a b:=⟨h.size,fun t ht=>h.get t fun e=>ht (hd t e)⟩
theorem SameBut.put (a:Act)(d:Option Tmp)(v:Value)(ds:List Deferred):SameBut (fun t=>d=some t) a ({a with defers:=ds}.put d v):=by
 refine⟨size_put _ _ _,fun t ht=>?_⟩;cases d with
 |none=>rfl
 |some u=>
  have:t≠u:=fun e=>ht (by rw[e]);rw[Fp];simp[this]
theorem Oper.wp_same {P:Program}{o:Oper}{a:Act}{w:World}{K:Act→World→Prop}{Q:Exit→Act→World→Prop}(h:o.wp P a w (fun a' w'=>SameBut (fun t=>o.dst=some t) a a'→K a' w') Q):o.wp P a w K Q:=by
 unfold Oper.wp at h ⊢;generalize (execOp a.eval o).run P w=x at h ⊢;cases x with
 |ok v w'=>
  cases v with
  |value v=>exact h (SameBut.put a _ _ a.defers)
  |skip=>exact h (SameBut.put a _ _ a.defers)
  |defer d=>exact h (SameBut.put a _ _ _)
  |enter f args=>
   refine Calls.mono h fun e j0 hh=>?_;cases e with
   |returned v=>exact hh (SameBut.put a _ _ a.defers)
   |panicked c=>exact hh
   |outgrown=>exact hh
  |row row args=>exact Rows.mono h fun v j0 hh=>hh (SameBut.put a _ _ a.defers)
  |_=>exact h
 |halt v w'=>
  cases v with
  |panic v=>exact h
  |_=>exact h
def XI (P:Program)(v:Value)(args:List Value)(w:World)(R:Value→World→Prop):Prop:=
 ∀(rd:Option Nat) (o:Oper) (a:Act) (x:Operand) (aa:Array Operand) (ts:Array TypeId) (K:Act→World→Prop) (Q:Exit→Act→World→Prop),
  o.op=.call {callee:=.value x,args:=aa,argTypes:=ts}→a.eval x=v→aa.toList.map a.eval=args→(∀u w',R u w'→K (a.put o.dst u) w')→o.wpIn (FR rd) 0 P a w K Q
def l9:Nat:=1000000009
def oB (C:Ctx)(Φ:aT)(w0:World)(σ0:Base):Prop:=∀J ys,C.yl=some (J,ys)→σ0.B=0∧(∀t fx cx w,σ0.F t fx cx w→∃xs,t=.list xs)∧
 ∀(xs ds':List D) (d:D),Φ l9 [.list (xs++[.tup ds'])]=some d→∀(fx cx:Nat→Prop) (w1:World) (σ1:Im) (args:List Value),σ0.F (.list xs) fx cx w1→σ1.ok w1→pM C σ1 ys args ds'→
  (∀k o x,σ1.c k o=some x→¬cx k)→(∀k x,σ1.m k=some x→¬cx k)→
  (∀k o x,σ1.c k o=some x→σ0.c k o=some x∨w0.heap.size≤k)→(∀k x,σ1.m k=some x→σ0.m k=some x∨w0.heap.size≤k)→
  XI C.P C.yv args w1 fun u w2=>∃b,d=.v (.bool b)∧u=.bool b∧Below 0 w1 w2∧(∀k,k<w1.heap.size→¬cx k→w2.heap[k]?=w1.heap[k]?)∧
   ∃mq jH,σ0.F (.list (xs++[.tup ds'])) mq jH w2∧(∀k,mq k→k<w1.heap.size→fx k∨(∃o x,σ1.c k o=some x)∨(∃x,σ1.m k=some x∧x≠cP))∧(∀k,jH k→k<w1.heap.size→cx k)
def MI (gs:List (Nat×Bool))(J:Nat)(x:PE):PE:=
 match gs with
 |[]=>.app (.o J) (.lst [x])
 |_=>.pick (.nt (.imp gs (.con (.v (.bool false))))) (.app (.o J) (.lst [x])) (.o J)
def xI (C:Ctx)(S:St)(ops:Array Oper)(o:Oper):Option (St×List PI):=
 match o.dst,o.op,C.yl with
 |some dst,.call {callee:=.value (.tmp t),args:=args,..},some (J,ys)=>
  (oP S ops o).bind fun gs=>
    match kL S gs t with
    |.yv=>
     match(S.fzs (cm S gs args.toList)).o J with
     |.tr=>
      (ll C (S.fzs (cm S gs args.toList)) gs args.toList).bind fun u=>
        bif Ty.subs u.1 ys then some ((S.fzs (cm S gs args.toList)).setR dst (iK gs (.dat .bool)),[.setO J (MI gs J (.tup u.2)),.call gs dst l9 [.o J]]) else none
     |_=>none
    |_=>none
 |_,_,_=>none
def oH (C:Ctx)(S:St)(ops:Array Oper)(o:Oper):Option (St×List PI):=
 match xI C S ops o with
 |some r=>some r
 |none=>xH C S ops o
section
variable {C:Ctx} {S:St} {ρ:Env} {σ:Im} {own:Nat→Option Nat} {hv:Nat→Value} {w0:World} {σ0:Base} {A:Nat→Prop} {a:Act} {w:World} {gs:List (Nat×Bool)} {Φ:aT} {dst:Nat}
theorem aBP (gs:List (Nat×Bool))(J:Nat)(x:PE)(ρ:Env):(MI gs J x).ev ρ=if holds gs ρ=true then .list ((ρ.o J).l++[x.ev ρ]) else ρ.o J:=by
 cases gs with
 |nil=>simp[MI,PE.ev,PE.evs,holds,D.l_list]
 |cons g gs=>
  simp only[MI,PE.ev,PE.evs,D.b_bool,D.l_list,w9,Bool.not_not];cases holds (g::gs) ρ<;>rfl
theorem Inv.yielded (h:Inv C S ρ σ own hv w0 σ0 A a w)(hB:σ0.B=0){J:Nat}{ys:List Ty}(hJ:C.yl=some (J,ys))(HK:S.o J=.tr){w2:World}(hb:Below 0 w w2){t:D}{fx cx:Nat→Prop}(hf:FrOK σ own w0.heap.size σ0 w t fx cx)
 (hs:∀k,k<w.heap.size→¬cx k→w2.heap[k]?=w.heap[k]?) {t':D} {mq jH:Nat→Prop} (hF:σ0.F t' mq jH w2)
 (h1:∀k,mq k→k<w.heap.size→fx k∨(∃o x,σ.c k o=some x)∨(∃x,σ.m k=some x∧x≠cP)) (h2:∀k,jH k→k<w.heap.size→cx k):Inv C S (ρ.setO J t') σ own hv w0 σ0 A a w2:=by
 have cn:=σ0.sub _ _ _ _ hf.F;have eT:∀k o x,σ.c k o=some x→w2.heap[k]?=w.heap[k]?:=fun k o x e=>hs k (h.lt e) (hf.c k o x e);have yt:∀k x,σ.m k=some x→w2.heap[k]?=w.heap[k]?:=fun k x e=>hs k (h.ltm e) (hf.m k x e);have PY:∀k j,own k=some j→w2.heap[k]?=w.heap[k]?:=fun k j e=>hs k (h.owns k j e).2.1 fun hc=>hf.own k j e (cn k hc)
 refine⟨h.defers,⟨fun k o v e=>by rw[World.cell?_of_block (eT k o v e)];exact h.ok.c k o v e,fun k x e=>(h.ok.m k x e).keep (yt k x e)⟩,h.le,h.old,h.newc,h.newm,h.below.trans (hb.mono (by omega)),h.bw,
  fun k j e=>let⟨g1,g2,g3⟩:=h.owns k j e;⟨g1,uP g2 hb.size,g3⟩,fun u=>aQ.mono (S:=S) (ρ:=ρ) (ρ':=ρ.setO J t') (.refl σ) (.refl S hv) (d:=ρ.r u) (fun _ _ _=>rfl) (fun gs s e=>(h.opts u gs s e).2) (h.regs u),fun j=>?_,h.opts,
  t',mq,jH,⟨hF,fun k j e hk=>?_,fun k o x e hc=>hf.c k o x e (h2 k hc (h.lt e)),fun k x e hc=>hf.m k x e (h2 k hc (h.ltm e)),fun k e xY hk=>?_⟩,fun j hj=>?_⟩
 ·by_cases yo:j=J
  ·subst yo;rw[HK];trivial
  ·exact(h.objs j).mono (.refl σ) (.refl S hv) rfl (by simp[Env.setO,bz _ _ yo]) (fun k e=>⟨e,PY k j e⟩)
 ·obtain⟨_,g2,g3,g4⟩:=h.owns k j e;rcases h1 k hk g2 with e1|⟨o,x,e1⟩|⟨x,e1,_⟩
  ·exact hf.own k j e e1
  ·rw[g3 o] at e1;cases e1
  ·rw[g4] at e1;cases e1
 ·rcases h1 k hk (h.ltm e) with e1|⟨o,x,e1⟩|⟨x,e1,e2⟩
  ·exact hf.d k e xY e1
  ·have c1:=h.ok.c k o x e1;rcases h.ok.m k _ e with⟨m1,_⟩|⟨_,m2⟩
   ·exact m1 rfl
   ·simp[World.cell?,m2] at c1
  ·rw[e] at e1;cases e1;exact e2 rfl
 ·obtain⟨_,_,_,_,ht⟩:=h.frame;obtain⟨⟨ys',e1⟩,_⟩:=ht j hj;rw[hJ] at e1;cases e1;exact⟨⟨_,hJ⟩,aU _ _ _⟩
theorem aor {rd:Option Nat}(h:Good C w0 σ0 S ρ A a w)(hC:CtxOK C σ0)(hY:oB C Φ w0 σ0){ops:Array Oper}{o:Oper}(ht:∀d,o.dst=some d→¬A d∧d<a.tmps.size)
 (hj:∀j want t,o.guard=some (j,want)→(ops[j]?).bind (·.dst)=some t→A t) {r:St×List PI} (hr:xI C S ops o=some r) {ρ':Env} (ao:PI.runs Φ r.2 ρ=some ρ')
 {K:Act→World→Prop} {Q:Exit→Act→World→Prop} (hK:∀a' w',Good C w0 σ0 r.1 ρ' (fun u=>A u∨o.dst=some u) a' w'→SameBut (fun t=>o.dst=some t) a a'→K a' w'):
 if Region.wanted o (yielded ops a.tmps) then o.wpIn (FR rd) 0 C.P a w K Q else K (a.put o.dst undef) w:=by
 unfold xI at hr;split at hr
 case h_2=>cases hr
 rename_i _ _ dst t args ts J ys hd bP jT;simp only[ax] at hr;obtain⟨gs,dG,hr⟩:=hr;split at hr
 case h_2=>cases hr
 rename_i Dt;split at hr
 case h_2=>cases hr
 rename_i HK;simp only[ax] at hr;obtain⟨u,hu,hr⟩:=hr;cases cn:Ty.subs u.1 ys<;>simp only[cn,cond_true,cond_false] at hr
 ·cases hr
 cases hr;have ym:=Z0 h dG hj;rw[Z1 h dG];obtain⟨σ,own,hv,i⟩:=h;obtain⟨σ1,dC,hle,i1⟩:=Inv.fzs (cm S gs args.toList) i;obtain⟨t1,t2⟩:=ht dst hd;have jn:(fun u=>A u∨o.dst=some u)=(fun u=>A u∨u=dst):=by funext u;rw[hd];simp[eq_comm]
 rw[jn] at hK;simp only[PI.runs,PI.run,kP,aBP,ax] at ao;cases hh:holds gs ρ with
 |false=>
  simp only[hh,uG,if_false] at ao ⊢;have e1:ρ.setO J (ρ.o J)=ρ:=by
   cases ρ with|mk r o=>simp only[Env.setO];congr 1;funext x;rw[fS];split<;>simp_all
  rw[e1,hh] at ao;obtain⟨ρ1,e2,e3⟩:=ao;cases e2;cases e3;cases gs with
  |nil=>simp[holds] at hh
  |cons g bM=>
   have Dc:=i1.passed t1 t2 ym hh (s:=.dat .bool) (fun _ _ e=>by cases e) (ρ.r dst);have e4:ρ.setR dst (ρ.r dst)=ρ:=by
        cases ρ with|mk r o=>simp only[Env.setR];congr 1;funext x;rw[fS];split<;>simp_all
   rw[e4] at Dc;rw[hd];exact hK _ _ ⟨_,_,_,Dc⟩ (by rw[hd];exact SameBut.put a (some dst) undef a.defers)
 |true=>
  simp only[hh,if_true] at ao ⊢;have jj:=MT i1 hC hh hu cn;obtain⟨tr,fx,cx,hf,rN⟩:=i1.frame;obtain⟨_,hρJ⟩:=rN J HK;obtain⟨hB,auf,Qy⟩:=hY J ys jT;obtain⟨xs,rfl⟩:=auf _ _ _ _ hf.F;rw[hρJ] at ao;simp only[D.l_list,PE.ev] at ao;obtain⟨ρ1,e2,e3⟩:=ao;cases e3;have hh2:holds gs (ρ.setO J (.list (xs++[.tup (PE.evs ρ u.2)])))=true:=hh;rw[hh2] at e2;simp only[cond_true,PE.evs,PE.ev,Env.setO,aU,aH] at e2;obtain⟨d,e4,e5⟩:=e2;have hy:=Qy xs (PE.evs ρ u.2) d e4 fx cx w σ1 (args.toList.map a.eval) hf.F i1.ok jj hf.c hf.m i1.newc i1.newm;have cr:a.eval (.tmp t)=C.yv:=by
   have:=(od i hh t).1;rw[Dt] at this;have h9:a.tmps.getD t undef=C.yv:=this;simpa [Act.eval] using h9
  refine hy rd o a (.tmp t) args ts K Q bP cr rfl fun v w2 jQ=>?_;obtain⟨b,rfl,rfl,hb,hs,mq,jH,hF,h1,h2⟩:=jQ;have i2:=i1.yielded hB jT HK hb hf hs hF h1 h2;refine hK _ _ ?_ (SameBut.put a _ _ a.defers);rw[hd,←e5];change Good C w0 σ0 _ ((ρ.setO J (.list (xs++[.tup (PE.evs ρ u.2)]))).setR dst (.v (.bool b))) _ _ _;have hh3:holds gs ((ρ.setO J (.list (xs++[.tup (PE.evs ρ u.2)]))).setR dst (.v (.bool b)))=true:=by
   rw[C8 (t:=dst) fun g hm e=>t1 (by rw[←e];exact ym g hm)];exact hh2
  cases gs with
  |nil=>exact⟨_,_,_,i2.setReg t1 (s:=.dat .bool) (.bool b) t2 (fun _ _ e=>by cases e)⟩
  |cons g bM=>
   refine⟨_,_,_,i2.setReg t1 (s:=.opt (g::bM) (.dat .bool)) ⟨fun _=>.bool b,fun e=>absurd (hh3.symm.trans e) (by decide)⟩ t2 (fun gs s e=>?_)⟩;cases e;exact⟨ym,fun _ _ e=>by cases e⟩
theorem Hl {rd:Option Nat}(h:Good C w0 σ0 S ρ A a w)(hC:CtxOK C σ0)(bn:dD C)(hΦ:de C Φ)(hY:oB C Φ w0 σ0){ops:Array Oper}{o:Oper}(bp:nL o.op=true)(ht:∀d,o.dst=some d→¬A d∧d<a.tmps.size)
 (hj:∀j want t,o.guard=some (j,want)→(ops[j]?).bind (·.dst)=some t→A t) {r:St×List PI} (hr:oH C S ops o=some r) {ρ':Env} (ao:PI.runs Φ r.2 ρ=some ρ')
 {K:Act→World→Prop} {Q:Exit→Act→World→Prop} (hK:∀a' w',Good C w0 σ0 r.1 ρ' (fun u=>A u∨o.dst=some u) a' w'→SameBut (fun t=>o.dst=some t) a a'→K a' w'):
 if Region.wanted o (yielded ops a.tmps) then o.wpIn (FR rd) 0 C.P a w K Q else K (a.put o.dst undef) w:=by
 unfold oH at hr;split at hr
 ·rename_i q hq;cases hr;exact aor h hC hY ht hj hq ao hK
 ·have:=aoq (K:=fun a' w'=>SameBut (fun t=>o.dst=some t) a a'→K a' w') (Q:=Q) h hC bn hΦ ht hj hr ao (fun a' w' g _ hs=>hK a' w' g hs);split
  ·rename_i hw;rw[if_pos hw] at this;exact afO bp (Oper.wp_same this)
  ·rename_i hw;rw[if_neg hw] at this;exact this (SameBut.put a _ _ a.defers)
end
def nr (C:Ctx)(ops:Array Oper):List Nat→St→Option (St×List PI)
 |[],S=>some (S,[])
 |i::l,S=>
  match ops[i]? with
  |some o=>(oH C S ops o).bind fun r=>(nr C ops l r.1).map fun q=>(q.1,r.2++q.2)
  |none=>none
def qN (n:Nat)(ops:Array Oper):Bool:=
 ju (ops.toList.filterMap (·.dst))&&ops.toList.all fun o=>nL o.op&&match o.dst with|some d=>Nat.blt d n|none=>true
section
variable {C:Ctx} {S:St} {ρ:Env} {σ:Im} {own:Nat→Option Nat} {hv:Nat→Value} {w0:World} {σ0:Base} {A:Nat→Prop} {a:Act} {w:World} {gs:List (Nat×Bool)} {Φ:aT} {dst:Nat}
def lh (ops:Array Oper)(done:List Nat):Nat→Prop:=fun t=>∃i o,i∈done∧ops[i]?=some o∧o.dst=some t
theorem u7.dst_once {ops:Array Oper}(bp:(ops.toList.filterMap (·.dst)).Nodup){i j:Nat}{o o':Oper}{d:Nat}(hi:ops[i]?=some o)(hj:ops[j]?=some o')(hd:o.dst=some d)(eU:o'.dst=some d)(aB:i≠j):False:=by
 have key:∀(l:List Oper),(l.filterMap (·.dst)).Nodup→∀(i j:Nat) (o o':Oper),l[i]?=some o→l[j]?=some o'→o.dst=some d→o'.dst=some d→i=j:=by
  intro l
  induction l with
  |nil=>intro _ i j o o' hi;simp at hi
  |cons x l ih=>
   intro bp i j o o' hi hj hd eU;have cV:∀(k:Nat) (y:Oper),l[k]?=some y→y.dst=some d→d∈l.filterMap (·.dst):=fun k y hk hy=>sG.2 ⟨y,mg hk,hy⟩;cases hx:x.dst with
   |none=>
    rw[List.filterMap_cons_none hx] at bp;cases i with
    |zero=>simp at hi;subst hi;rw[hx] at hd;cases hd
    |succ i=>
     cases j with
     |zero=>simp at hj;subst hj;rw[hx] at eU;cases eU
     |succ j=>simp at hi hj;rw[ih bp i j o o' hi hj hd eU]
   |some y=>
    rw[List.filterMap_cons_some hx,m8] at bp;cases i with
    |zero=>
     simp at hi;subst hi;rw[hx] at hd;cases hd;cases j with
     |zero=>rfl
     |succ j=>simp at hj;exact absurd (cV j o' hj eU) bp.1
    |succ i=>
     cases j with
     |zero=>
      simp at hj;subst hj;rw[hx] at eU;cases eU;simp at hi;exact absurd (cV i o hi hd) bp.1
     |succ j=>simp at hi hj;rw[ih bp.2 i j o o' hi hj hd eU]
 exact aB (key ops.toList bp i j o o' (by simpa using hi) (by simpa using hj) hd eU)
def p9 (ops:Array Oper):Nat→Prop:=fun t=>∃o,o∈ops.toList∧o.dst=some t
theorem u7 (hC:CtxOK C σ0)(bn:dD C)(hΦ:de C Φ)(hY:oB C Φ w0 σ0){ops:Array Oper}{n:Nat}(aE:qN n ops=true){rd:Option Nat}{Q:Exit→Act→World→Prop}:
 ∀(l done:List Nat) {S:St} {ρ ρ':Env} {a:Act} {w:World} {r:St×List PI},(done++l).Nodup→(∀p i q o j want,l=p++i::q→ops[i]?=some o→o.guard=some (j,want)→j∈done++p)→
  a.tmps.size=n→Good C w0 σ0 S ρ (lh ops done) a w→nr C ops l S=some r→PI.runs Φ r.2 ρ=some ρ'→
  (∀a' w',SameBut (p9 ops) a a'→Good C w0 σ0 r.1 ρ' (lh ops (done++l)) a' w'→Q .normal a' w')→wpOpsIn (FR rd) 0 C.P ops Q l a w:=by
 simp only[qN,ar] at aE;have bp:=mP aE.1;intro l
 induction l with
 |nil=>
  intro done S ρ ρ' a w r _ _ aR h hr ao hQ;simp only[nr,bf] at hr;subst hr;rw[mW ao] at hQ;simp only[wpOpsIn];exact hQ a w (.refl _ _) (by simpa using h)
 |cons i l ih=>
  intro done S ρ ρ' a w r vn jN aR h hr ao hQ;simp only[nr] at hr;split at hr
  case h_2=>cases hr
  rename_i o ho;simp only[ax,aH] at hr;obtain⟨r1,ic,q,hq,rfl⟩:=hr;simp only[oa,ax] at ao;obtain⟨ρ1,hρ1,hρ2⟩:=ao;have vq:∀d,o.dst=some d→¬lh ops done d∧d<a.tmps.size:=by
   intro d hd;refine⟨fun⟨i',o',df,dQ,eU⟩=>?_,?_⟩
   ·
        have aB:i'≠i:=by
         intro e;subst e;rw[Ar] at vn;exact vn.2.2 i' df i' (dw ..) rfl
        exact u7.dst_once bp dQ ho eU hd aB
   ·have:=bL.1 aE.2 o (by
     have:=gA ho;simpa using this)
    simp only[hd,ar] at this;rw[aR];simpa [iy] using this.2
  have hj:∀j want t,o.guard=some (j,want)→(ops[j]?).bind (·.dst)=some t→lh ops done t:=by
   intro j want t hg ht;have:=jN [] i l o j want rfl ho hg;simp only[mc] at this;rw[ax] at ht;obtain⟨oj,h1,h2⟩:=ht;exact⟨j,oj,this,h1,h2⟩
  have jo:nL o.op=true:=by
   have:=bL.1 aE.2 o (by simpa using gA ho);simp only[ar] at this;exact this.1
  have main:=Hl (rd:=rd) (K:=wpOpsIn (FR rd) 0 C.P ops Q l) (Q:=Q) h hC bn hΦ hY jo vq hj ic hρ1 (fun a' w' fm gN=>by
   have qu:=gN.size;refine ih (done++[i]) (by simpa using vn) (fun p i' q' o' j want e dQ atN=>?_) (qu.trans aR) ?_ hq hρ2 (fun a2 w2 s2 g2=>hQ a2 w2 ((gN.mono fun t e=>⟨o,by simpa using gA ho,e⟩).trans s2) (by simpa using g2))
   ·have:=jN (i::p) i' q' o' j want (by rw[e];rfl) dQ atN;simpa using this
   ·have:(fun u=>lh ops done u∨o.dst=some u)=lh ops (done++[i]):=by
     funext u;apply propext;constructor
     ·rintro(⟨i',o',h1,h2,h3⟩|h1)
      ·exact⟨i',o',by simp[h1],h2,h3⟩
      ·exact⟨i,o,by simp,ho,h1⟩
     ·rintro⟨i',o',h1,h2,h3⟩;rcases cY.1 h1 with h4|h4
      ·exact .inl ⟨i',o',h4,h2,h3⟩
      ·simp at h4;subst h4;rw[ho] at h2;cases h2;exact .inr h3
    rw[←this];exact fm)
  simp only[wpOpsIn,ho];split
  ·rename_i hw;rw[if_pos hw] at main;exact main
  ·rename_i hw;rw[if_neg hw] at main;exact⟨fun _ _=>trivial,main⟩
end
end Cx
