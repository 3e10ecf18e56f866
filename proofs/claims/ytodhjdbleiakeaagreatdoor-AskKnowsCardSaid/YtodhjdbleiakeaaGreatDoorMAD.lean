/-
  Shared texts of this claim.
-/
import Derived.Test.YtodhjdbleiakeaaGreatDoorMAC
import Derived.Tactics
import Derived.RangeFuncIn
import Derived.OrdersIn
set_option linter.unusedSimpArgs false
set_option linter.unusedVariables false
namespace Cx
open Go Go.RowKit
open Classical in
noncomputable def Im.noM (σ:Im):Im:=⟨σ.c,fun k=>if σ.m k=some cM then none else σ.m k⟩
theorem Rep.noM {cap:Nat→Option CSig}{σ:Im}{t:Ty}{v:Value}{d:D}(h:Rep cap σ t v d):Rep cap σ.noM t v d:=by
 induction h with
 |int k n h1 h2=>exact .int k n h1 h2
 |bool b=>exact .bool b
 |str s h=>exact .str s h
 |agg ts vs ds h1 h2 _ ho ih=>exact .agg ts vs ds h1 h2 ih ho
 |tup ts vs ds h1 h2 _ ih=>exact .tup ts vs ds h1 h2 ih
 |nil e=>exact .nil e
 |emp e a=>exact .emp e a
 |nils e=>exact .nils e
 |nsl0 e=>exact .nsl0 e
 |nsl e k o n c xs _ hx ih=>exact .nsl e k o n c xs ih hx
 |slice e k o n c xs vs hn hc hm _ hv ih=>exact .slice e k o n c xs vs hn hc hm ih hv
 |mapnil kt et=>exact .mapnil kt et
 |map kt et r ja es hm hl hx hk _ jS Dh=>
  refine .map kt et r ja es ?_ hl hx jS Dh;have aJ:σ.m r≠some cM:=fun e=>by rw[hm] at e;cases e;exact Dx hl hk rfl
  simp only[Im.noM,if_neg aJ,hm]
 |ref t k o v d _ hv ih=>exact .ref t k o v d ih hv
 |fn f cs vs ds hc h1 h2 _ ih=>exact .fn f cs vs ds hc h1 h2 ih
 |fnnil aa r=>exact .fnnil aa r
def Im.plus (σ τ:Im):Im:=⟨fun k o=>(σ.c k o).or (τ.c k o),fun k=>(σ.m k).or (τ.m k)⟩
theorem Im.plus_le1 (σ τ:Im):σ.le (σ.plus τ):=⟨fun k o v h=>by simp[Im.plus,h],fun k v h=>by simp[Im.plus,h]⟩
theorem qF.det {w:World}{k:Nat}{x y:List (Value×Value)}(h:qF w k x)(g:qF w k y):x=y:=by
 rcases h with⟨_,a,c,h1,h2⟩|⟨h1,h2⟩<;>rcases g with⟨_,a',c',g1,g2⟩|⟨g1,g2⟩
 ·rw[h1] at g1;cases g1;rw[←h2,←g2]
 ·rw[h1] at g2;cases g2
 ·rw[h2] at g1;cases g1
 ·rw[h1,g1]
theorem Im.plus_le2 {σ τ:Im}{w:World}(h:σ.ok w)(g:τ.ok w):τ.le (σ.plus τ):=by
 refine⟨fun k o v e=>?_,fun k v e=>?_⟩
 ·show(σ.c k o).or (τ.c k o)=some v;cases hc:σ.c k o with
  |none=>simpa using e
  |some u=>have:=(h.c k o u hc).symm.trans (g.c k o v e);simpa using this
 ·show(σ.m k).or (τ.m k)=some v;cases hc:σ.m k with
  |none=>simpa using e
  |some u=>simpa using(h.m k u hc).det (g.m k v e)
theorem Im.plus_ok {σ τ:Im}{w:World}(h:σ.ok w)(g:τ.ok w):(σ.plus τ).ok w:=by
 refine⟨fun k o v e=>?_,fun k v e=>?_⟩
 ·change (σ.c k o).or (τ.c k o)=some v at e;cases hc:σ.c k o with
  |none=>rw[hc] at e;exact g.c k o v (by simpa using e)
  |some u=>rw[hc] at e;simp at e;subst e;exact h.c k o u hc
 ·change (σ.m k).or (τ.m k)=some v at e;cases hc:σ.m k with
  |none=>rw[hc] at e;exact g.m k v (by simpa using e)
  |some u=>rw[hc] at e;simp at e;subst e;exact h.m k u hc
theorem Im.plus_c {σ τ:Im}{k o:Nat}{v:Value}(h:(σ.plus τ).c k o=some v):σ.c k o=some v∨τ.c k o=some v:=by
 change (σ.c k o).or (τ.c k o)=some v at h;cases hc:σ.c k o with
 |none=>rw[hc] at h;exact .inr (by simpa using h)
 |some u=>rw[hc] at h;exact .inl (by simpa using h)
theorem Im.plus_m {σ τ:Im}{k:Nat}{v:List (Value×Value)}(h:(σ.plus τ).m k=some v):σ.m k=some v∨τ.m k=some v:=by
 change (σ.m k).or (τ.m k)=some v at h;cases hc:σ.m k with
 |none=>rw[hc] at h;exact .inr (by simpa using h)
 |some u=>rw[hc] at h;exact .inl (by simpa using h)
def Ty.pureT:Ty→Bool
 |.int _|.bool|.str|.nils _=>true
 |_=>false
def Ty.pure:Ty→Bool
 |.tup ts=>ts.all Ty.pureT
 |.agg ts=>ts.all Ty.pureT
 |t=>Ty.pureT t
theorem Rep.pureT {cap:Nat→Option CSig}{σ τ:Im}{t:Ty}{v:Value}{d:D}(h:Rep cap σ t v d)(hp:t.pureT=true):Rep cap τ t v d:=by
 cases h<;>simp[Ty.pureT] at hp<;>constructor<;>assumption
theorem Rep.pure {cap:Nat→Option CSig}{σ τ:Im}{t:Ty}{v:Value}{d:D}(h:Rep cap σ t v d)(hp:t.pure=true):Rep cap τ t v d:=by
 cases h with
 |agg ts vs ds h1 h2 h ho=>exact .agg ts vs ds h1 h2 (fun i t hi=>(h i t hi).pureT (bK.1 hp t (mh hi))) ho
 |tup ts vs ds h1 h2 h=>exact .tup ts vs ds h1 h2 (fun i t hi=>(h i t hi).pureT (bK.1 hp t (mh hi)))
 |int k n h1 h2=>exact .int k n h1 h2
 |bool b=>exact .bool b
 |str s h=>exact .str s h
 |nils e=>exact .nils e
 |_=>simp[Ty.pure,Ty.pureT] at hp
def p8 (C:Ctx)(s:Sig)(σ':Im)(w w':World)(v:Value)(d:D):Prop:=
 match s.mode with
 |.dat=>Rep C.cap σ' s.res v d
 |.it _=>True
 |.ob ..=>True
 |.row T e=>∃cells xs,d=.list xs∧w'.ownsRow w.heap.size T e.size v xs.length cells∧gB C.cap σ' e cells xs∧∀k,v.ownBlock=some k→(∀o,σ'.c k o=none)∧σ'.m k=none
def pX (C:Ctx)(σ:Im)(ts:List Ty)(args:List Value)(ds:List D):Prop:=
 args.length=ts.length∧ds.length=ts.length∧∀(i:Nat) (t:Ty),ts[i]?=some t→Rep C.cap σ t (args.getD i undef) (ds.getD i .none)
def lh (C:Ctx)(f:Nat)(s:Sig)(ds:List D)(d:D):Prop:=
 ∀(σ:Im) (w:World) (args:Array Value),σ.ok w→CtxOK C σ→pX C σ s.args args.toList ds→
  Calls C.P f args w fun e w'=>∃v σ',e=.returned v∧σ.le σ'∧σ'.ok w'∧Below w.heap.size w w'∧
   (∀k o x,σ'.c k o=some x→σ.c k o=some x∨w.heap.size≤k)∧(∀k x,σ'.m k=some x→σ.m k=some x∨w.heap.size≤k)∧p8 C s σ' w w' v d
def dS:List (Nat×Ob)→Nat→Ob
 |[],_=>.dead
 |x::l,j=>bif Nat.beq x.1 j then x.2 else dS l j
def mO:List (Nat×Ob)→List D→Nat→D
 |x::l,d::ds,j=>bif Nat.beq x.1 j then d else mO l ds j
 |_,_,_=>.none
def fC (shs:List Sh)(obs:List (Nat×Ob)):St:=⟨fun t=>shs.getD t .none,fun j=>dS obs j,fun _=>0⟩
def lU (obs:List (Nat×Ob))(ds os:List D):Env:=⟨fun t=>ds.getD t .none,fun j=>mO obs os j⟩
def mJ:Sh→Bool
 |.dat _=>true
 |_=>false
def qG:Mode→Bool
 |.ob ..=>true
 |_=>false
def rY:Sh→Bool
 |.none|.dat _|.obj ..|.ptr ..|.fclo ..=>true
 |_=>false
def Ls:Ob→Bool
 |.row ..|.mp ..=>true
 |.box _ shs=>shs.all rY
 |_=>false
def DA (shs:List Sh)(obs:List (Nat×Ob)):Bool:=shs.all rY&&obs.all fun x=>Ls x.2
def lj (C:Ctx)(f:Nat)(shs:List Sh)(obs:List (Nat×Ob))(res:Ty)(ds:List D)(d:D):Prop:=
 ∀(N:Nat) (σ:Im) (own:Nat→Option Nat) (hv:Nat→Value) (w:World) (args:Array Value) (cx:Nat→Prop),DA shs obs=true→σ.ok w→CtxOK C σ→(∀k,σ.m k≠some cM)→N≤w.heap.size→args.size=shs.length→
  (∀k j,own k=some j→N≤k∧k<w.heap.size∧(∀o,σ.c k o=none)∧σ.m k=none)→
  (∀k,cx k→k<w.heap.size∧own k=none∧(∀o,σ.c k o=none)∧σ.m k=none)→
  (∀t,aQ C (fC shs obs) (lU obs ds (ds.drop shs.length)) σ hv (shs.getD t .none) (args.getD t undef) (ds.getD t .none))→
  (∀j,cf C (fC shs obs) (lU obs ds (ds.drop shs.length)) σ own hv w N j (dS obs j))→
  Calls C.P f args w fun e w'=>∃v σ' own' hv' dr os,e=.returned v∧d=.tup (dr::os)∧os.length=obs.length∧σ.le σ'∧σ'.ok w'∧Below 0 w w'∧
   (∀k,k<w.heap.size→own k=none→w'.heap[k]?=w.heap[k]?)∧
   (∀k o x,σ'.c k o=some x→(σ.c k o=some x∨N≤k)∧¬cx k)∧(∀k x,σ'.m k=some x→(σ.m k=some x∨N≤k)∧¬cx k)∧(∀k,σ'.m k=some cM→N≤k→k<w.heap.size→own k≠none)∧
   (∀k j,own' k=some j→N≤k∧k<w'.heap.size∧(∀o,σ'.c k o=none)∧σ'.m k=none∧(k<w.heap.size→own k≠none))∧
   (∀(t:Nat) (sh:Sh),shs[t]?=some sh→mJ sh=false→aQ C (fC shs obs) (lU obs ds os) σ' hv' sh (args.getD t undef) (ds.getD t .none))∧
   (∀j,cf C (fC shs obs) (lU obs ds os) σ' own' hv' w' N j (dS obs j))∧Rep C.cap σ' res v dr
theorem aQ.ctx {C C':Ctx}(j4:C'.cap=C.cap){S:St}{ρ:Env}{σ:Im}{hv:Nat→Value}{s:Sh}(hp:rY s=true){v:Value}{d:D}(h:aQ C S ρ σ hv s v d):aQ C' S ρ σ hv s v d:=by
 cases s with
 |dat t=>show Rep C'.cap σ t v d;rw[j4];exact h
 |opt gs s=>cases hp
 |eptr j ver a b=>cases hp
 |yv=>cases hp
 |_=>exact h
theorem cf.ctx {C C':Ctx}(j4:C'.cap=C.cap){S:St}{ρ:Env}{σ:Im}{own:Nat→Option Nat}{hv:Nat→Value}{w:World}{N j:Nat}{ob:Ob}(hp:Ls ob=true∨ob=.dead)(h:cf C S ρ σ own hv w N j ob):cf C' S ρ σ own hv w N j ob:=by
 rcases hp with hp|rfl
 ·cases ob with
  |row T e=>obtain⟨cells,xs,h1,h2,h3,h4⟩:=h;exact⟨cells,xs,h1,h2,by rw[j4];exact h3,h4⟩
  |mp kt et=>obtain⟨k,arr,clock,es,h1,h2,h3,h4,h5,h6,h7⟩:=h;exact⟨k,arr,clock,es,h1,h2,h3,h4,h5,h6,by rw[j4];exact h7⟩
  |box ag shs=>
   obtain⟨k,cs,T,ds,h1,h2,h3,h4,h5,h6,h7⟩:=h;exact⟨k,cs,T,ds,h1,h2,h3,h4,h5,h6,fun i s hs=>⟨(h7 i s hs).1,(h7 i s hs).2.ctx j4 (bK.1 hp s (mh hs))⟩⟩
  |_=>cases hp
 ·trivial
theorem acq {obs:List (Nat×Ob)}(h:(obs.all fun x=>Ls x.2)=true)(j:Nat):Ls (dS obs j)=true∨dS obs j=.dead:=by
 induction obs with
 |nil=>exact .inr rfl
 |cons x l ih=>
  simp only[p5,ar] at h;simp only[dS];cases hb:Nat.beq x.1 j
  ·exact ih h.2
  ·exact .inl h.1
theorem lj.ctx {C C':Ctx}{f:Nat}{shs:List Sh}{obs:List (Nat×Ob)}{res:Ty}{ds:List D}{d:D}(h:lj C f shs obs res ds d)(hP:C'.P=C.P)(j4:C'.cap=C.cap)(Py:C'.glob=C.glob):lj C' f shs obs res ds d:=by
 intro N σ own hv w args cx hp aH hC bo hN aS bV j7 h1 h2;have ba:=hp;simp only[DA,ar] at ba;have rK:∀t s,shs[t]?=some s→rY s=true:=fun t s hs=>bK.1 ba.1 s (mh hs);have hC':CtxOK C σ:=⟨fun g x hx=>by have:=hC.glob g x (by rw[Py];exact hx);rwa [j4] at this⟩
 have:=h N σ own hv w args cx hp aH hC' bo hN aS bV j7 (fun t=>by
  cases hs:shs[t]? with
  |none=>rw[aT,hs];trivial
  |some s=>have:=h1 t;rw[aT,hs] at this ⊢;exact this.ctx j4.symm (rK t s hs)) (fun j=>(h2 j).ctx j4.symm (acq ba.2 j))
 rw[hP];refine this.mono fun e w' hh=>?_;obtain⟨v,σ',own',hv',dr,os,g1,g2,g3,g4,g5,g6,g7,g8,g9,g10,g11,g12,g13,g14⟩:=hh;exact⟨v,σ',own',hv',dr,os,g1,g2,g3,g4,g5,g6,g7,g8,g9,g10,g11,fun t sh hs hd=>(g12 t sh hs hd).ctx j4 (rK t sh hs),fun j=>(g13 j).ctx j4 (acq ba.2 j),by rw[j4];exact g14⟩
def dc (C:Ctx)(Φ:aV):Prop:=∀f ds d,Φ f ds=some d→∀s,C.sig f=some s→(qG s.mode=false→lh C f s ds d)∧∀shs obs,s.mode=.ob shs obs→lj C f shs obs s.res ds d
def lQ:List Ty→Ty→Option (List Ty)
 |[.fn ys .bool],.tup []=>some ys
 |_,_=>none
def dC (C:Ctx):Prop:=(∀f cs,C.cap f=some cs→lQ cs.args cs.res=none→C.sig f=some ⟨cs.args++cs.caps,cs.res,.dat⟩)∧∀f s,C.sig f=some s→∃fn,C.P.funcs[f]?=some fn∧fn.body.isSome=true∧(fn.name== "runtime.NumGoroutine")=false
def cg (S:St)(gs:List (Nat×Bool)):List Operand→List Nat
 |[]=>[]
 |x::xs=>
  match gl S gs x with
  |.obj j ver=>bif Nat.beq ver (S.ver j)&&mK (S.o j) then j::cg S gs xs else cg S gs xs
  |_=>cg S gs xs
def iK (gs:List (Nat×Bool))(s:Sh):Sh:=
 match gs with
 |[]=>s
 |_=>.opt gs s
def St.fzs (S:St)(js:List Nat):St:=js.foldl St.fz S
def oQ (C:Ctx)(S:St)(gs:List (Nat×Bool))(dst:Nat)(f:Nat)(args:List Operand):Option (St×Sh×List PI):=
 (C.sig f).bind fun s=>
    match s.mode with
    |.dat=>
     (ld C (S.fzs (cg S gs args)) gs args).bind fun u=>
       bif Ty.subs u.1 s.args then some (bif s.res.pure then S else S.fzs (cg S gs args),.dat s.res,[.call gs dst f u.2]) else Option.none
    |_=>Option.none
def BX (C:Ctx)(S:St)(dst:Nat)(f:Nat)(args:List Operand):lg:=
 (C.sig f).bind fun s=>
    match s.mode with
    |.row T e=>
     (ld C (S.fzs (cg S [] args)) [] args).bind fun u=>
       bif Ty.subs u.1 s.args then some (mkObj (bif e.pure then S else S.fzs (cg S [] args)) dst (.row T e),[.call [] dst f u.2,.setO dst (.r dst),.setR dst (.con .none)]) else Option.none
    |_=>Option.none
def nr (C:Ctx)(S:St)(gs:List (Nat×Bool))(dst:Nat)(x:Operand)(args:List Operand):Option (St×Sh×List PI):=
 match use C S gs x with
 |some (.fn aa r,e)=>
  match lQ aa r with
  |some _=>Option.none
  |Option.none=>
  (ld C (S.fzs (cg S gs args)) gs args).bind fun u=>
    bif Ty.subs u.1 aa then some (bif r.pure then S else S.fzs (cg S gs args),.dat r,[.callc gs dst e u.2]) else Option.none
 |_=>Option.none
theorem qq:∀(js:List Nat) (S:St),(S.fzs js).ver=S.ver∧(S.fzs js).r=S.r
 |[],S=>⟨rfl,rfl⟩
 |j::js,S=>by
  obtain⟨h1,h2⟩:=qq js (S.fz j);obtain⟨k1,k2⟩:=Hm S j;exact⟨h1.trans k1,h2.trans k2⟩
section
variable {C:Ctx} {S:St} {ρ:Env} {σ:Im} {own:Nat→Option Nat} {hv:Nat→Value} {w0:World} {σ0:Base} {A:Nat→Prop} {a:Act} {w:World} {gs:List (Nat×Bool)} {Φ:aV} {dst:Nat}
theorem Inv.fzs:∀(js:List Nat) {S:St} {σ:Im} {own:Nat→Option Nat},Inv C S ρ σ own hv w0 σ0 A a w→∃σ' own',σ.le σ'∧Inv C (S.fzs js) ρ σ' own' hv w0 σ0 A a w
 |[],S,σ,own,h=>⟨σ,own,.refl σ,h⟩
 |j::js,S,σ,own,h=>by
  obtain⟨σ1,dB,hle,h1⟩:=h.fz j;obtain⟨σ2,ij,lK,h2⟩:=Inv.fzs js h1;exact⟨σ2,ij,hle.trans lK,h2⟩
theorem Inv.world (h:Inv C S ρ σ own hv w0 σ0 A a w){σ':Im}{w':World}(hle:σ.le σ')(aH:σ'.ok w')(hb:Below w.heap.size w w')(dq:∀k o x,σ'.c k o=some x→σ.c k o=some x∨w.heap.size≤k)
 (cO:∀k x,σ'.m k=some x→σ.m k=some x∨w.heap.size≤k):Inv C S ρ σ' own hv w0 σ0 A a w':=by
 have aS:=h.below.size;refine h.step (fun _=>False) rfl hle aH (fun k o x hx=>(dq k o x hx).imp id (fun e=>⟨by omega,.inr e⟩)) (fun k x hx=>(cO k x hx).imp id (fun e=>⟨by omega,.inr e⟩)) (hb.mono aS) (.refl S hv) (fun j _=>⟨rfl,rfl,rfl,fun k hk=>⟨hk,hb.block k (h.owns k j hk).2.1⟩⟩) (fun _ hf=>hf.elim) (fun k j hk=>?_) (fun _=>id) (fun t=>.inl ⟨rfl,rfl,rfl⟩) (fun _ _=>rfl) (fun k hk _=>hb.block k hk) (fun k i hk=>.inl ⟨i,hk⟩) (fun _ hf=>hf.elim);obtain⟨g1,g2,g3,g4⟩:=h.owns k j hk;refine⟨g1,by have:=hb.size;omega,fun o=>?_,?_⟩
 ·cases hc:σ'.c k o with
  |none=>rfl
  |some x=>rcases dq k o x hc with e|e
           ·rw[g3 o] at e;cases e
           ·omega
 ·cases hc:σ'.m k with
  |none=>rfl
  |some x=>rcases cO k x hc with e|e
           ·rw[g4] at e;cases e
           ·omega
theorem CtxOK.mono {C:Ctx}{σ σ':Im}(h:CtxOK C σ)(hle:σ.le σ'):CtxOK C σ':=⟨fun g x hx=>(h.glob g x hx).mono hle⟩
theorem MV (h:Inv C S ρ σ own hv w0 σ0 A a w)(hC:CtxOK C σ0)(hg:holds gs ρ=true){xs:List Operand}{u:List Ty×List PE}{ts:List Ty}(hu:ld C S gs xs=some u)(hs:Ty.subs u.1 ts=true):pX C σ ts (xs.map a.eval) (PE.evs ρ u.2):=by
 obtain⟨l1,l2,aX⟩:=aiZ h hC hg _ _ hu;have hl:=Ty.subs_len _ _ hs;refine⟨by rw[iw];omega,by rw[PE.evs_eq,iw];omega,fun i t hi=>?_⟩;obtain⟨s,eA,cP⟩:=Ty.subs_get _ _ hs i t hi;exact(aX i s eA).sub cP
theorem UH {o:Oper}{f:Nat}{args:Array Operand}{ts:Array TypeId}(bl:dC C){s:Sig}(hs:C.sig f=some s)(ho:o.op=.call {callee:=.value (.func f),args:=args,argTypes:=ts}):
 (execOp a.eval o).run C.P w=.ok (.enter f (args.map a.eval)) w:=by
 obtain⟨fn,h1,h2,h3⟩:=bl.2 f s hs;obtain⟨bd,kI⟩:=XV.1 h2;have h4:¬fn.name= "runtime.NumGoroutine" :=by simpa using h3
 simp[execOp,ho,resolve,Act.eval,Deferred.ofValue,invoke,callFunc,h1,kI,h4]
theorem ahD {o:Oper}{x:Operand}{f:Nat}{vs:List Value}{args:Array Operand}{ts:Array TypeId}(bl:dC C){s:Sig}(hs:C.sig f=some s)(hx:a.eval x=.func (.func f) #[] vs.toArray)(ho:o.op=.call {callee:=.value x,args:=args,argTypes:=ts}):
 (execOp a.eval o).run C.P w=.ok (.enter f (args.map a.eval++vs.toArray)) w:=by
 obtain⟨fn,h1,h2,h3⟩:=bl.2 f s hs;obtain⟨bd,kI⟩:=XV.1 h2;have h4:¬fn.name= "runtime.NumGoroutine" :=by simpa using h3
 simp[execOp,ho,resolve,hx,Deferred.ofValue,invoke,callFunc,h1,kI,h4]
theorem YJ (h:Inv C S ρ σ own hv w0 σ0 A a w)(hC:CtxOK C σ0)(ht:¬A dst)(ah:dst<a.tmps.size)(dF:∀g,g∈gs→A g.1)(hg:holds gs ρ=true){f:Nat}{s:Sig}{js:List Nat}{vals:List Value}{ds:List D}{d:D}(pg:s.mode=.dat)(hfn:lh C f s ds d)
 (jk:∀σ1 dB,σ.le σ1→Inv C (S.fzs js) ρ σ1 dB hv w0 σ0 A a w→pX C σ1 s.args vals ds) {K:Act→World→Prop} {Q:Exit→Act→World→Prop}
 (hK:∀a' w',Good C w0 σ0 ((bif s.res.pure then S else S.fzs js).setR dst (iK gs (.dat s.res))) (ρ.setR dst d) (fun u=>A u∨u=dst) a' w'→a'.tmps.size=a.tmps.size→K a' w'):
 Calls C.P f vals.toArray w (fun e jX=>match e with|.returned v=>K (a.put (some dst) v) jX|.panicked chain=>Q (.panic chain) a jX|.outgrown=>LetsOut Q):=by
 obtain⟨σ1,dB,lJ,h1⟩:=Inv.fzs js h;have vf:=hfn σ1 w vals.toArray h1.ok (hC.mono h1.le) (by simpa using jk σ1 dB lJ h1);refine vf.mono fun e w' hh=>?_;obtain⟨v,σ',rfl,hle,aH,hb,dq,cO,kM⟩:=hh;simp only[p8,pg] at kM;refine hK _ _ ?_ (size_put _ _ _);have hh:holds gs (ρ.setR dst d)=true:=by rw[CW (t:=dst) (d:=d) fun g hm e=>ht (by rw[←e];exact dF g hm)];exact hg
 have put:∀{S2:St} {σ2:Im} {ij:Nat→Option Nat},Inv C S2 ρ σ2 ij hv w0 σ0 A a w'→Rep C.cap σ2 s.res v d→Good C w0 σ0 (S2.setR dst (iK gs (.dat s.res))) (ρ.setR dst d) (fun u=>A u∨u=dst) (a.put (some dst) v) w':=by
  intro S2 σ2 ij h2 hr;cases gs with
  |nil=>exact⟨_,_,_,h2.setReg ht (s:=.dat s.res) hr ah (fun _ _ e=>by cases e)⟩
  |cons g bM=>
   refine⟨_,_,_,h2.setReg ht (s:=.opt (g::bM) (.dat s.res)) ⟨fun _=>hr,fun e=>absurd (hh.symm.trans e) (by decide)⟩ ah (fun gs s e=>?_)⟩;cases e;exact⟨dF,fun _ _ e=>by cases e⟩
 cases hp:s.res.pure with
 |true=>
  simp only[cond_true];exact put (h.world (.refl σ) (h.ok.below hb) hb (fun _ _ _ hx=>.inl hx) (fun _ _ hx=>.inl hx)) (kM.pure hp)
 |false=>
  simp only[cond_false];exact put (h1.world hle aH hb dq cO) kM
theorem Oi {o:Oper}{f:Nat}{args:Array Value}{K:Act→World→Prop}{Q:Exit→Act→World→Prop}(hd:o.dst=some dst)(hx:(execOp a.eval o).run C.P w=.ok (.enter f args) w)
 (h:Calls C.P f args w (fun e jX=>match e with|.returned v=>K (a.put (some dst) v) jX|.panicked chain=>Q (.panic chain) a jX|.outgrown=>LetsOut Q)):o.wp C.P a w K Q:=by
 simp only[Oper.wp,hx,Oper.upon,hd];refine h.mono fun e jX hh=>?_;cases e<;>exact hh
theorem apy (h:Inv C S ρ σ own hv w0 σ0 A a w)(hC:CtxOK C σ0)(bl:dC C)(hΦ:dc C Φ)(ht:¬A dst)(ah:dst<a.tmps.size)(dF:∀g,g∈gs→A g.1)(hg:holds gs ρ=true){f:Nat}{args:Array Operand}{ts:Array TypeId}{r:St×Sh×List PI}
 (hr:oQ C S gs dst f args.toList=some r) {o:Oper} (hd:o.dst=some dst) (ho:o.op=.call {callee:=.value (.func f),args:=args,argTypes:=ts}):bX C w0 σ0 Φ S ρ A a w o (r.1.setR dst (iK gs r.2.1),r.2.2):=by
 simp only[oQ,az] at hr;obtain⟨s,hs,hr⟩:=hr;split at hr
 case h_2=>cases hr
 rename_i pg;simp only[az] at hr;obtain⟨u,hu,hr⟩:=hr;cases cl:Ty.subs u.1 s.args<;>simp only[cl,cond_true,cond_false] at hr
 ·cases hr
 cases hr;intro ρ' ak K Q hK;simp only[PI.runs,PI.run,hg,cond_true,az,aG] at ak;obtain⟨ρ1,⟨d,bt,rfl⟩,ak⟩:=ak;cases ak;have hfn:=(hΦ f _ d bt s hs).1 (by rw[pg];rfl);refine Oi hd (UH bl hs ho) ?_;have lL:args.map a.eval=(args.toList.map a.eval).toArray:=by apply wU;rw[zY]
 rw[lL];have jo:(fun u=>A u∨o.dst=some u)=(fun u=>A u∨u=dst):=by funext u;rw[hd];simp[eq_comm]
 rw[jo] at hK;exact YJ h hC ht ah dF hg (js:=cg S gs args.toList) pg hfn (fun σ1 dB _ h1=>MV h1 hC hg hu cl) hK
theorem apt (h:Inv C S ρ σ own hv w0 σ0 A a w)(hC:CtxOK C σ0)(bl:dC C)(hΦ:dc C Φ)(ht:¬A dst)(ah:dst<a.tmps.size)(dF:∀g,g∈gs→A g.1)(hg:holds gs ρ=true){x:Operand}{args:Array Operand}{ts:Array TypeId}{r:St×Sh×List PI}
 (hr:nr C S gs dst x args.toList=some r) {o:Oper} (hd:o.dst=some dst) (ho:o.op=.call {callee:=.value x,args:=args,argTypes:=ts}):bX C w0 σ0 Φ S ρ A a w o (r.1.setR dst (iK gs r.2.1),r.2.2):=by
 unfold nr at hr;split at hr
 case h_2=>cases hr
 rename_i aa r0 e Qw;split at hr
 case h_1=>cases hr
 rename_i PA;simp only[az] at hr;obtain⟨u,hu,hr⟩:=hr;cases cl:Ty.subs u.1 aa<;>simp only[cl,cond_true,cond_false] at hr
 ·cases hr
 cases hr;have hx:=bZ h hC hg Qw;intro ρ' ak K Q hK;simp only[PI.runs,PI.run,hg,cond_true,az] at ak;obtain⟨ρ1,tA,ak⟩:=ak;cases ak;split at tA
 case h_2=>cases tA
 rename_i f caps bN;simp only[aG] at tA;obtain⟨d,bt,rfl⟩:=tA;rw[bN] at hx;generalize fJ:a.eval x=xv at hx;generalize bj:Ty.fn aa r0=ty at hx;cases hx with
 |fn f cs vs ds hc h1 h2 aX=>
  cases bj;have hs:=bl.1 f cs hc PA;have hfn:=(hΦ f _ d bt _ hs).1 rfl;refine Oi hd (ahD bl hs fJ ho) ?_;have lL:args.map a.eval++vs.toArray=(args.toList.map a.eval++vs).toArray:=by apply wU;simp
  rw[lL];have jo:(fun u=>A u∨o.dst=some u)=(fun u=>A u∨u=dst):=by funext u;rw[hd];simp[eq_comm]
  rw[jo] at hK;refine YJ h hC ht ah dF hg (js:=cg S gs args.toList) (s:=⟨cs.args++cs.caps,cs.res,.dat⟩) rfl hfn (fun σ1 dB lJ i1=>?_) hK;obtain⟨g1,g2,g3⟩:=MV i1 hC hg hu cl;refine⟨by simp only[kD,g1,h1],by simp only[kD,g2,h2],fun i t hi=>?_⟩;rw[ln] at hi;split at hi
  ·rename_i ah;have:=g3 i t hi;rw[aT,aT,jZ (by omega),jZ (by omega)];simpa [aT] using this
  ·rename_i eY;have:=(aX _ t hi).mono lJ;rw[aT,aT,kC (by omega),kC (by omega),g1,g2];simpa [aT] using this
theorem apv (h:Inv C S ρ σ own hv w0 σ0 A a w)(hC:CtxOK C σ0)(bl:dC C)(hΦ:dc C Φ)(ht:¬A dst)(ah:dst<a.tmps.size){f:Nat}{args:Array Operand}{ts:Array TypeId}{r:St×List PI}
 (hr:BX C S dst f args.toList=some r) {o:Oper} (hd:o.dst=some dst) (ho:o.op=.call {callee:=.value (.func f),args:=args,argTypes:=ts}):bX C w0 σ0 Φ S ρ A a w o r:=by
 simp only[BX,az] at hr;obtain⟨s,hs,hr⟩:=hr;split at hr
 case h_2=>cases hr
 rename_i T e pg;simp only[az] at hr;obtain⟨u,hu,hr⟩:=hr;cases cl:Ty.subs u.1 s.args<;>simp only[cl,cond_true,cond_false] at hr
 ·cases hr
 cases hr;intro ρ' ak K Q hK;have hgt:holds ([]:List (Nat×Bool)) ρ=true:=rfl;simp only[PI.runs,PI.run,hgt,cond_true,az,aG] at ak;obtain⟨ρ1,⟨d,bt,rfl⟩,ρ2,g2,ρ3,g3,g4⟩:=ak;cases g2;cases g3;cases g4;have hfn:=(hΦ f _ d bt s hs).1 (by rw[pg];rfl);obtain⟨σ1,dB,lJ,h1⟩:=Inv.fzs (cg S [] args.toList) h;have lL:args.map a.eval=(args.toList.map a.eval).toArray:=by apply wU;rw[zY]
 refine Oi hd (UH bl hs ho) ?_;rw[lL];have vf:=hfn σ1 w (args.toList.map a.eval).toArray h1.ok (hC.mono h1.le) (by simpa using MV h1 hC rfl hu cl);refine vf.mono fun e' w' hh=>?_;obtain⟨v,σ',rfl,hle,aH,hb,dq,cO,kM⟩:=hh;simp only[p8,pg] at kM;obtain⟨cells,xs,rfl,bV,iN,mA⟩:=kM;refine hK _ _ ?_ (size_put _ _ _);have jo:(fun u=>A u∨o.dst=some u)=(fun u=>A u∨u=dst):=by funext u;rw[hd];simp[eq_comm]
 rw[jo];have main:∀{S2:St} {σ1 σ2:Im} {ij:Nat→Option Nat},Inv C S2 ρ σ1 ij hv w0 σ0 A a w→σ1.le σ2→σ2.ok w'→(∀k o x,σ2.c k o=some x→σ1.c k o=some x∨w.heap.size≤k)→(∀k x,σ2.m k=some x→σ1.m k=some x∨w.heap.size≤k)→gB C.cap σ2 e cells xs→(∀k,v.ownBlock=some k→(∀o,σ2.c k o=none)∧σ2.m k=none)→
  Good C w0 σ0 (mkObj S2 dst (.row T e)) ((ρ.setO dst (.list xs)).setR dst .none) (fun u=>A u∨u=dst) (a.put (some dst) v) w':=by
  intro S2 σ1 σ2 ij h2 lK P3 au7 ava aun aus;have aS:=h1.below.size
  have kL:=h2.newOσ dst (.row T e) (.list xs) v (fun k=>decide (v.ownBlock=some k)) lK P3 au7 ava hb (fun k hk=>bV.lt k (by simpa using hk)) (fun k hk=>aus k (by simpa using hk)) ⟨cells,xs,by simp[Env.setO,aW],by
        rw[aW];refine⟨bV.1,?_⟩;rcases bV.2 with e1|⟨g,cap,cur,e1,e2,e3⟩
        ·exact .inl e1
        ·exact .inr ⟨g,cap,cur,e1,by omega,e3⟩,aun,fun k hk=>by rw[aW] at hk;simp[fN,hk]⟩
  have abA:=kL.setObj ht (j:=dst) (v:=v) (aW _ _ _) ah;have e:(S2.newO dst (.row T e)).ver dst=S2.ver dst+1:=aW _ _ _;rw[e] at abA;exact⟨_,_,_,abA⟩
 have eρ:((ρ.setR dst (.list xs)).setO dst ((PE.r dst).ev (ρ.setR dst (.list xs)))).setR dst ((PE.con D.none).ev ((ρ.setR dst (.list xs)).setO dst ((PE.r dst).ev (ρ.setR dst (.list xs)))))=(ρ.setO dst (.list xs)).setR dst .none:=by
  have:∀d1 d2:D,bY (bY ρ.r dst d1) dst d2=bY ρ.r dst d2:=by
   intro d1 d2;funext i;simp only[fS];split<;>rfl
  simp[Env.setR,Env.setO,PE.ev,aW,this]
 show Good C w0 σ0 _ _ _ _ _;rw[eρ];cases hp:e.pure with
 |true=>
  simp only[cond_true];refine main h (.refl σ) (h.ok.below hb) (fun _ _ _ hx=>.inl hx) (fun _ _ hx=>.inl hx) ?_ (fun k hk=>?_)
  ·obtain⟨vs,k1,k2⟩:=iN;exact⟨vs,fun i x hx=>(k1 i x hx).pure hp,k2⟩
  ·obtain⟨f1,f2⟩:=mA k hk;refine⟨fun o=>?_,?_⟩
   ·cases hc:σ.c k o with
    |none=>rfl
    |some x=>have:=hle.c _ _ _ (lJ.c _ _ _ hc);rw[f1 o] at this;cases this
   ·cases hc:σ.m k with
    |none=>rfl
    |some x=>have:=hle.m _ _ (lJ.m _ _ hc);rw[f2] at this;cases this
 |false=>
  simp only[cond_false];exact main h1 hle aH dq cO iN mA
end
def gS:Nat:=1000000013
abbrev m6:=Sh×Option (Ty×PE)
def FE (C:Ctx)(S:St)(x:Operand):m6:=(gl S [] x,use C S [] x)
def YL (c:Nat×Nat):m6:=(.ptr c.1 c.2 0,none)
def cw:List Nat→List Nat→Nat→Option Nat
 |i::is,j::js,k=>bif Nat.beq i k then some j else cw is js k
 |_,_,_=>none
def aAB:Sh→Sh→List (Nat×Nat)
 |.obj i _,.obj j _=>[(i,j)]
 |.ptr i _ _,.ptr j _ _=>[(i,j)]
 |.fclo _ a,.fclo _ b=>(a.zip b).map fun x=>(x.1.1,x.2.1)
 |_,_=>[]
def SN:List Sh→List Sh→List (Nat×Nat)
 |a::aa,b::bs=>aAB a b++SN aa bs
 |_,_=>[]
def aAA:Ob→Ob→List (Nat×Nat)
 |.box _ a,.box _ b=>SN a b
 |_,_=>[]
def acr:List (Nat×Nat)→Nat→Nat
 |[],_=>gS
 |x::l,i=>bif Nat.beq x.1 i then x.2 else acr l i
def aza (S:St)(obs:List (Nat×Ob))(p:List (Nat×Nat)):List (Nat×Nat):=p++p.flatMap fun x=>aAA (dS obs x.1) (S.o x.2)
def Z4 (S:St)(shs:List Sh)(obs:List (Nat×Ob))(acts:List m6):List Nat:=obs.map fun o=>acr (aza S obs (SN shs (acts.map (·.1)))) o.1
section
variable (ver:Nat→Nat) (is js:List Nat)
def EX:List (Nat×Nat)→Option (List (Nat×Nat))
 |[]=>some []
 |x::l=>bif Nat.beq x.2 0 then(cw is js x.1).bind fun j=>(EX l).map fun r=>(j,ver j)::r else none
def kz:Sh→Option Sh
 |.dat t=>some (.dat t)
 |.none=>some .none
 |.obj i v=>bif Nat.beq v 0 then(cw is js i).map fun j=>.obj j (ver j) else none
 |.ptr i v off=>bif Nat.beq v 0 then(cw is js i).map fun j=>.ptr j (ver j) off else none
 |.fclo f caps=>(EX ver is js caps).map (.fclo f)
 |_=>none
def EY:List Sh→Option (List Sh)
 |[]=>some []
 |s::l=>(kz ver is js s).bind fun a=>(EY l).map (a::·)
def pQ:Ob→Option Ob
 |.row T e=>some (.row T e)
 |.mp a b=>some (.mp a b)
 |.box ag shs=>(EY ver is js shs).map (.box ag)
 |_=>none
end
def Cd (c:Sh):Sh→Bool
 |.none=>true
 |.dat b=>match c with|.dat a=>Ty.sub a b|_=>false
 |x=>Sh.beq c x
def xI:List Sh→List Sh→Bool
 |[],[]=>true
 |a::aa,b::bs=>Cd a b&&xI aa bs
 |_,_=>false
def xH:Ob→Ob→Bool
 |.box x a,.box y b=>(x==y)&&xI a b
 |.row T a,.row U b=>Nat.beq T U&&Ty.beq a b
 |.mp a b,.mp c d=>Ty.beq a c&&Ty.beq b d
 |_,_=>false
def qo (S:St)(is js:List Nat):List (Nat×Ob)→List Nat→Bool
 |[],[]=>true
 |o::obs,j::jl=>(match pQ S.ver is js o.2 with|some x=>xH (S.o j) x|none=>false)&&qo S is js obs jl
 |_,_=>false
def Cb (S:St)(is js:List Nat)(a:m6)(s:Sh):Option PE:=
 match s with
 |.dat t=>(match a.2 with|some x=>bif Ty.sub x.1 t then some x.2 else none|none=>none)
 |.none=>some (.con .none)
 |s=>(match kz S.ver is js s with|some x=>bif Sh.beq a.1 x then some (.con .none) else none|none=>none)
def sW (S:St)(is js:List Nat):List m6→List Sh→Option (List PE)
 |[],[]=>some []
 |a::aa,s::ss=>(Cb S is js a s).bind fun e=>(sW S is js aa ss).map (e::·)
 |_,_=>none
def oP:List Sh→List Nat
 |[]=>[]
 |.obj i _::l=>i::oP l
 |.ptr i _ _::l=>i::oP l
 |.fclo _ c::l=>c.map (·.1)++oP l
 |_::l=>oP l
def aN (l:List Nat)(x:Nat):Bool:=l.any (Nat.beq x)
def ux (ver:Nat→Nat)(shs:List Sh)(is js:List Nat):Nat→Nat:=fun j=>match cw js is j with|some i=>bif aN (oP shs) i then ver j else ver j+1|none=>ver j
def St.handed (S:St)(shs:List Sh)(obs:List (Nat×Ob))(is js:List Nat):St:=
 ⟨S.r,fun j=>match cw js is j with|some i=>(match pQ (ux S.ver shs is js) is js (dS obs i) with|some o=>o|none=>.dead)|none=>S.o j,ux S.ver shs is js⟩
def xK (S:St):List Operand→List Sh→List Nat
 |x::xs,s::ss=>(bif mJ s then cg S [] [x] else[])++xK S xs ss
 |_,_=>[]
def E4:List Nat→Nat→List PI
 |[],_=>[]
 |j::js,k=>.setO j (.tget (.o gS) k)::E4 js (k+1)
def Oz (S:St)(res:Ty)(f:Nat)(shs:List Sh)(obs:List (Nat×Ob))(acts:List m6)(is js:List Nat):Option (St×Ty×List PI):=
 (sW S is js acts shs).bind fun es=>
    bif DA shs obs&&(jx is&&jx js&&qo S is js obs js&&nI (S.o gS)&& !aN js gS) then some (S.handed shs obs is js,res,.mcall gS f (es++js.map .o)::E4 js 1) else none
def OA (C:Ctx)(S:St)(res:Ty)(f:Nat)(shs:List Sh)(obs:List (Nat×Ob))(acts:List m6):Option (St×Ty×List PI):=
 Oz S res f shs obs acts (obs.map (·.1)) (Z4 S shs obs acts)
def qh (C:Ctx)(S:St)(f:Nat)(args:List Operand)(caps:List (Nat×Nat)):Option (St×Ty×List PI):=
 (C.sig f).bind fun s=>
    match s.mode with
    |.ob shs obs=>OA C (S.fzs (xK S args shs)) s.res f shs obs (args.map (FE C (S.fzs (xK S args shs)))++caps.map YL)
    |_=>none
theorem abV {l:List Nat}{x:Nat}:aN l x=true↔x∈l:=by
 unfold aN;rw[uG];exact⟨fun⟨y,hy,h⟩=>by rw[aL h];exact hy,fun h=>⟨x,h,gV x⟩⟩
theorem acm:∀{is js:List Nat} {i j:Nat},cw is js i=some j→∃k:Nat,is[k]?=some i∧js[k]?=some j
 |[],_,i,j,h=>by cases h
 |_::_,[],i,j,h=>by cases h
 |x::is,y::js,i,j,h=>by
  simp only[cw] at h;cases hb:Nat.beq x i<;>simp only[hb,cond_true,cond_false] at h
  ·obtain⟨k,h1,h2⟩:=acm h;exact⟨k+1,h1,h2⟩
  ·cases h;exact⟨0,by rw[aL hb];rfl,rfl⟩
theorem Iw:∀{is js:List Nat} {i j k:Nat},is.Nodup→is[k]?=some i→js[k]?=some j→cw is js i=some j
 |[],_,i,j,k,_,h,_=>by simp at h
 |_::_,[],i,j,k,_,_,h=>by simp at h
 |x::is,y::js,i,j,k,hn,h1,h2=>by
  simp only[cw];cases k with
  |zero=>simp at h1 h2;subst h1 h2;rw[gV];rfl
  |succ k=>
   simp at h1 h2;have aJ:x≠i:=fun e=>by subst e;exact(ng.1 hn).1 (mh h1)
   rw[ew aJ];exact Iw (ng.1 hn).2 h1 h2
theorem Ix {is js:List Nat}(h2:js.Nodup){i j:Nat}(h:cw is js i=some j):cw js is j=some i:=by
 obtain⟨k,g1,g2⟩:=acm h;exact Iw h2 g2 g1
theorem awF (obs:List (Nat×Ob))(f:Nat→D):∀{is js:List Nat} {i j:Nat},is=obs.map (·.1)→cw is js i=some j→mO obs (js.map f) i=f j:=by
 induction obs with
 |nil=>intro is js i j h1 h2;subst h1;cases h2
 |cons x l ih=>
  intro is js i j h1 h2;subst h1;cases js with
  |nil=>cases h2
  |cons y js=>
   simp only[gn,cw] at h2;simp only[gn,mO];cases hb:Nat.beq x.1 i<;>simp only[hb,cond_true,cond_false] at h2 ⊢
   ·exact ih rfl h2
   ·cases h2;rfl
theorem aci:∀{obs:List (Nat×Ob)} {js:List Nat} {os:List D} {i j:Nat},os.length=obs.length→cw (obs.map (·.1)) js i=some j→∃k:Nat,js[k]?=some j∧mO obs os i=os.getD k .none
 |[],_,_,i,j,_,h=>by cases h
 |_::_,[],_,i,j,_,h=>by cases h
 |_::_,_::_,[],i,j,hl,h=>by simp at hl
 |x::obs,y::js,o::os,i,j,hl,h=>by
  simp only[gn,cw] at h;simp only[mO];cases hb:Nat.beq x.1 i<;>simp only[hb,cond_true,cond_false] at h ⊢
  ·obtain⟨k,h1,h2⟩:=aci (obs:=obs) (js:=js) (os:=os) (by simpa using hl) h;exact⟨k+1,h1,by simpa using h2⟩
  ·cases h;exact⟨0,rfl,rfl⟩
theorem acp:∀{obs:List (Nat×Ob)} {js:List Nat} {i:Nat},js.length=obs.length→cw (obs.map (·.1)) js i=none→dS obs i=.dead
 |[],_,i,_,_=>rfl
 |x::obs,[],i,hl,h=>by simp at hl
 |x::obs,y::js,i,hl,h=>by
  simp only[gn,cw] at h;simp only[dS];cases hb:Nat.beq x.1 i<;>simp only[hb,cond_true,cond_false] at h ⊢
  ·exact acp (by simpa using hl) h
  ·cases h
theorem aac {S:St}{is js:List Nat}:∀{obs:List (Nat×Ob)} {jl:List Nat},qo S is js obs jl=true→jl.length=obs.length
 |[],[],_=>rfl
 |[],_::_,h=>by simp[qo] at h
 |_::_,[],h=>by simp[qo] at h
 |o::obs,j::jl,h=>by simp only[qo,ar] at h;simp[aac h.2]
theorem aab {S:St}{is js:List Nat}:∀{obs:List (Nat×Ob)} {jl:List Nat},qo S is js obs jl=true→∀{i j:Nat},cw (obs.map (·.1)) jl i=some j→∃x,pQ S.ver is js (dS obs i)=some x∧xH (S.o j) x=true
 |[],_,_,i,j,h=>by cases h
 |_::_,[],_,i,j,h=>by cases h
 |o::obs,y::jl,hf,i,j,h=>by
  simp only[qo,ar] at hf;simp only[gn,cw] at h;simp only[dS];cases hb:Nat.beq o.1 i<;>simp only[hb,cond_true,cond_false] at h ⊢
  ·exact aab hf.2 h
  ·cases h;have h1:=hf.1;split at h1
   ·rename_i x hx;exact⟨x,hx,h1⟩
   ·cases h1
theorem aad:∀{a b:List Sh},xI a b=true→a.length=b.length∧∀(i:Nat) (y:Sh),b[i]?=some y→∃x,a[i]?=some x∧Cd x y=true
 |[],[],_=>⟨rfl,fun i y h=>by simp at h⟩
 |[],_::_,h=>by simp[xI] at h
 |_::_,[],h=>by simp[xI] at h
 |a::aa,b::bs,h=>by
  simp only[xI,ar] at h;obtain⟨g1,g2⟩:=aad h.2;refine⟨by simp[g1],fun i y hy=>?_⟩;cases i with
  |zero=>simp at hy;subst hy;exact⟨a,rfl,h.1⟩
  |succ i=>simp at hy;simpa using g2 i y hy
theorem UA {ver:Nat→Nat}{is js:List Nat}:∀{a b:List Sh},EY ver is js a=some b→b.length=a.length∧∀(i:Nat) (x:Sh),a[i]?=some x→∃y,b[i]?=some y∧kz ver is js x=some y
 |[],b,h=>by simp only[EY,bf] at h;subst h;exact⟨rfl,fun i x h=>by simp at h⟩
 |s::l,b,h=>by
  simp only[EY,az,aG] at h;obtain⟨y,hy,r,hr,rfl⟩:=h;obtain⟨g1,g2⟩:=UA hr;refine⟨by simp[g1],fun i x hx=>?_⟩;cases i with
  |zero=>simp at hx;subst hx;exact⟨y,rfl,hy⟩
  |succ i=>simp at hx;simpa using g2 i x hx
theorem Mm {ver:Nat→Nat}{is js:List Nat}:∀{a b:List (Nat×Nat)},EX ver is js a=some b→b.length=a.length∧∀(i x v:Nat),a[i]?=some (x,v)→∃j,b[i]?=some (j,ver j)∧cw is js x=some j∧v=0
 |[],b,h=>by simp only[EX,bf] at h;subst h;exact⟨rfl,fun i x v h=>by simp at h⟩
 |s::l,b,h=>by
  simp only[EX] at h;cases hb:Nat.beq s.2 0<;>simp only[hb,cond_true,cond_false] at h
  ·cases h
  simp only[az,aG] at h;obtain⟨y,hy,r,hr,rfl⟩:=h;obtain⟨g1,g2⟩:=Mm hr;refine⟨by simp[g1],fun i x v hx=>?_⟩;cases i with
  |zero=>simp at hx;subst hx;exact⟨y,rfl,hy,aL hb⟩
  |succ i=>simp at hx;simpa using g2 i x v hx
theorem Uz {ver:Nat→Nat}{is js:List Nat}{s x:Sh}(h:kz ver is js s=some x):(∀gs s',s≠.opt gs s')∧∀gs s',x≠.opt gs s':=by
 cases s<;>simp only[kz] at h
 case none=>cases h;exact⟨(fun _ _ e=>by cases e),(fun _ _ e=>by cases e)⟩
 case dat=>cases h;exact⟨(fun _ _ e=>by cases e),(fun _ _ e=>by cases e)⟩
 case obj i v=>
  cases hb:Nat.beq v 0<;>simp only[hb,cond_true,cond_false] at h
  ·cases h
  simp only[aG] at h;obtain⟨j,_,rfl⟩:=h;exact⟨(fun _ _ e=>by cases e),(fun _ _ e=>by cases e)⟩
 case ptr i v off=>
  cases hb:Nat.beq v 0<;>simp only[hb,cond_true,cond_false] at h
  ·cases h
  simp only[aG] at h;obtain⟨j,_,rfl⟩:=h;exact⟨(fun _ _ e=>by cases e),(fun _ _ e=>by cases e)⟩
 case fclo f caps=>
  simp only[aG] at h;obtain⟨j,_,rfl⟩:=h;exact⟨(fun _ _ e=>by cases e),(fun _ _ e=>by cases e)⟩
 all_goals cases h
section
variable {C:Ctx} {S S1:St} {ρ ρ1:Env} {σ σ1:Im} {own dB:Nat→Option Nat} {hv aZ:Nat→Value} {w0:World} {σ0:Base} {A:Nat→Prop} {a:Act} {w w1:World} {Φ:aV} {dst:Nat}
 {is js:List Nat} {shs:List Sh} {obs:List (Nat×Ob)} {ρf:Env}
theorem ahr (hσ:Im.leR C.cap σ σ1){eD:Nat→Value}(fy:∀i j,cw is js i=some j→eD i=hv j){s x:Sh}(hr:kz S.ver is js s=some x){v:Value}{d:D}(h:aQ C S ρ σ hv x v d):aQ C (fC shs obs) ρf σ1 eD s v d:=by
 cases s<;>simp only[kz] at hr
 case none=>trivial
 case dat=>cases hr;exact hσ.rep h
 case obj i ver=>
  cases hb:Nat.beq ver 0<;>simp only[hb,cond_true,cond_false] at hr
  ·cases hr
  simp only[aG] at hr;obtain⟨j,hj,rfl⟩:=hr;exact⟨by rw[aL hb];exact oE _,fun _=>by rw[fy i j hj];exact h.2 rfl⟩
 case ptr i ver off=>
  cases hb:Nat.beq ver 0<;>simp only[hb,cond_true,cond_false] at hr
  ·cases hr
  simp only[aG] at hr;obtain⟨j,hj,rfl⟩:=hr;exact⟨by rw[aL hb];exact oE _,fun _=>by rw[fy i j hj];exact h.2 rfl⟩
 case fclo f caps=>
  simp only[aG] at hr;obtain⟨c,hc,rfl⟩:=hr;obtain⟨g1,g2⟩:=Mm hc;obtain⟨vs,h1,h2,h3⟩:=h;refine⟨vs,h1,by omega,fun i x ver hi=>?_⟩;obtain⟨j,e1,e2,e3⟩:=g2 i x ver hi;exact⟨by rw[e3];exact oE _,fun _=>by rw[fy x j e2];exact(h3 i j _ e1).2 rfl⟩
 all_goals cases hr
theorem aBL (hσ:σ.le σ1){eD:Nat→Value}(fy:∀i j,cw is js i=some j→eD i=aZ j){s x:Sh}(hr:kz S1.ver is js s=some x){v:Value}{d:D}(h:aQ C (fC shs obs) ρf σ eD s v d):aQ C S1 ρ1 σ1 aZ x v d:=by
 cases s<;>simp only[kz] at hr
 case none=>cases hr;trivial
 case dat=>cases hr;exact Rep.mono hσ h
 case obj i ver=>
  cases hb:Nat.beq ver 0<;>simp only[hb,cond_true,cond_false] at hr
  ·cases hr
  simp only[aG] at hr;obtain⟨j,hj,rfl⟩:=hr;exact⟨bk _,fun _=>by rw[←fy i j hj];exact h.2 (aL hb)⟩
 case ptr i ver off=>
  cases hb:Nat.beq ver 0<;>simp only[hb,cond_true,cond_false] at hr
  ·cases hr
  simp only[aG] at hr;obtain⟨j,hj,rfl⟩:=hr;exact⟨bk _,fun _=>by rw[←fy i j hj];exact h.2 (aL hb)⟩
 case fclo f caps=>
  simp only[aG] at hr;obtain⟨c,hc,rfl⟩:=hr;obtain⟨g1,g2⟩:=Mm hc;obtain⟨vs,h1,h2,h3⟩:=h;refine⟨vs,h1,by omega,fun i j ver hi=>?_⟩;have ah:i<caps.length:=by have:=(fo.1 hi).1;omega
  obtain⟨j',e1,e2,e3⟩:=g2 i _ _ (bH ah);rw[hi] at e1;cases e1;exact⟨bk _,fun _=>by rw[←fy _ j e2];exact(h3 i _ _ (bH ah)).2 e3⟩
 all_goals cases hr
theorem aqo {c x:Sh}(hf:Cd c x=true){v:Value}{d:D}(h:aQ C S ρ σ hv c v d):aQ C S ρ σ hv x v d:=by
 cases x with
 |none=>trivial
 |dat b=>
  simp only[Cd] at hf;split at hf
  ·exact Rep.sub h hf
  ·cases hf
 |_=>simp only[Cd] at hf;rw[Sh.beq_eq _ _ hf] at h;exact h
theorem azD (hσ:Im.leR C.cap σ σ1){eD:Nat→Value}{DE:Nat→Option Nat}(fy:∀i j,cw is js i=some j→eD i=hv j)(bV:∀k j i,own k=some j→cw js is j=some i→DE k=some i)(bo:js.Nodup){i j N:Nat}(cN:cw is js i=some j)(hρ:ρf.o i=ρ.o j){ob x:Ob}
 (hr:pQ S.ver is js ob=some x) (hf:xH (S.o j) x=true) (h:cf C S ρ σ own hv w N j (S.o j)):cf C (fC shs obs) ρf σ1 DE eD w N i ob:=by
 have gH:=Ix bo cN;cases ob<;>simp only[pQ] at hr
 case row T e=>
  cases hr;cases ho:S.o j<;>rw[ho] at hf h<;>simp only[xH,ar] at hf<;>try (cases hf;done)
  obtain⟨cells,xs,h1,h2,h3,h4⟩:=h;rw[aL hf.1,Ty.beq_eq _ _ hf.2] at*;exact⟨cells,xs,by rw[hρ];exact h1,by rw[fy i j cN];exact h2,h3.monoR hσ,fun k hk=>bV k j i (h4 k (by rw[←fy i j cN];exact hk)) gH⟩
 case mp kt et=>
  cases hr;cases ho:S.o j<;>rw[ho] at hf h<;>simp only[xH,ar] at hf<;>try (cases hf;done)
  obtain⟨k,arr,clock,es,h1,h2,h3,h4,h5,h6,h7⟩:=h;rw[Ty.beq_eq _ _ hf.1,Ty.beq_eq _ _ hf.2] at*;exact⟨k,arr,clock,es,by rw[fy i j cN];exact h1,bV k j i h2 gH,h3,by rw[hρ];exact h4,h5,h6,fun n e p he hp=>⟨hσ.rep (h7 n e p he hp).1,hσ.rep (h7 n e p he hp).2⟩⟩
 case box ag cs=>
  simp only[aG] at hr;obtain⟨fW,eX,rfl⟩:=hr;cases ho:S.o j<;>rw[ho] at hf h<;>simp only[xH,ar] at hf<;>try (cases hf;done)
  obtain⟨k,vs,T,ds,h1,h2,h3,h4,h5,h6,h7⟩:=h;obtain⟨l1,g1⟩:=aad hf.2;obtain⟨l2,g2⟩:=UA eX;refine⟨k,vs,T,ds,by rw[fy i j cN];exact h1,bV k j i h2 gH,h3,by omega,by rw[hρ];exact h5,by omega,fun n s hs=>?_⟩;obtain⟨y,hy,C8⟩:=g2 n s hs;obtain⟨z,hz,CG⟩:=g1 n y hy;exact⟨(Uz C8).1,ahr hσ fy C8 (aqo CG (h7 n z hz).2)⟩
 all_goals cases hr
theorem azE (hσ:σ.le σ1){eD:Nat→Value}{DE:Nat→Option Nat}(fy:∀i j,cw is js i=some j→eD i=aZ j)(bV:∀k i j,DE k=some i→cw is js i=some j→dB k=some j){i j N:Nat}(cN:cw is js i=some j)(hρ:ρ1.o j=ρf.o i){ob x:Ob}
 (hr:pQ S1.ver is js ob=some x) (h:cf C (fC shs obs) ρf σ DE eD w N i ob):cf C S1 ρ1 σ1 dB aZ w N j x:=by
 cases ob<;>simp only[pQ] at hr
 case row T e=>
  cases hr;obtain⟨cells,xs,h1,h2,h3,h4⟩:=h;exact⟨cells,xs,by rw[hρ];exact h1,by rw[←fy i j cN];exact h2,h3.mono hσ,fun k hk=>bV k i j (h4 k (by rw[fy i j cN];exact hk)) cN⟩
 case mp kt et=>
  cases hr;obtain⟨k,arr,clock,es,h1,h2,h3,h4,h5,h6,h7⟩:=h;exact⟨k,arr,clock,es,by rw[←fy i j cN];exact h1,bV k i j h2 cN,h3,by rw[hρ];exact h4,h5,h6,fun n e p he hp=>⟨(h7 n e p he hp).1.mono hσ,(h7 n e p he hp).2.mono hσ⟩⟩
 case box ag cs=>
  simp only[aG] at hr;obtain⟨fW,eX,rfl⟩:=hr;obtain⟨k,vs,T,ds,h1,h2,h3,h4,h5,h6,h7⟩:=h;obtain⟨l2,g2⟩:=UA eX;refine⟨k,vs,T,ds,by rw[←fy i j cN];exact h1,bV k i j h2 cN,h3,by omega,by rw[hρ];exact h5,by omega,fun n s hs=>?_⟩;have ah:n<cs.length:=by have:=(fo.1 hs).1;omega
  obtain⟨y,hy,C8⟩:=g2 n _ (bH ah);rw[hs] at hy;cases hy;exact⟨(Uz C8).2,aBL hσ fy C8 (h7 n _ (bH ah)).2⟩
 all_goals cases hr
theorem aBK {ver:Nat→Nat}{ob x:Ob}(hr:pQ ver is js ob=some x):x≠.tr:=by
 cases ob<;>simp only[pQ] at hr
 case row=>cases hr;intro e;cases e
 case mp=>cases hr;intro e;cases e
 case box=>
  simp only[aG] at hr;obtain⟨_,_,rfl⟩:=hr;intro e;cases e
 all_goals cases hr
theorem CtxOK.noM (h:CtxOK C σ):CtxOK C σ.noM:=⟨fun g x hx=>(h.glob g x hx).noM⟩
def Fp (C:Ctx)(S:St)(ρ:Env)(σ:Im)(hv:Nat→Value)(x:m6)(v:Value)(d:D):Prop:=aQ C S ρ σ hv x.1 v d∧∀y,x.2=some y→Rep C.cap σ y.1 v (y.2.ev ρ)
theorem Z9:∀{acts:List m6} {shs:List Sh} {es:List PE},sW S is js acts shs=some es→acts.length=shs.length∧es.length=shs.length∧∀(t:Nat) (s:Sh),shs[t]?=some s→∃x e,acts[t]?=some x∧es[t]?=some e∧Cb S is js x s=some e
 |[],[],es,h=>by simp only[sW,bf] at h;subst h;exact⟨rfl,rfl,fun t s h=>by simp at h⟩
 |[],_::_,es,h=>by simp[sW] at h
 |_::_,[],es,h=>by simp[sW] at h
 |x::acts,s::shs,es,h=>by
  simp only[sW,az,aG] at h;obtain⟨e,he,r,hr,rfl⟩:=h;obtain⟨g1,g2,g3⟩:=Z9 hr;refine⟨by simp[g1],by simp[g2],fun t s' hs=>?_⟩;cases t with
  |zero=>simp at hs;subst hs;exact⟨x,e,rfl,rfl,he⟩
  |succ t=>simp at hs;simpa using g3 t s' hs
theorem aqm (hσ:Im.leR C.cap σ σ1){eD:Nat→Value}(fy:∀i j,cw is js i=some j→eD i=hv j){x:m6}{s:Sh}{e:PE}(hf:Cb S is js x s=some e){v:Value}{d:D}(h:Fp C S ρ σ hv x v d):aQ C (fC shs obs) ρf σ1 eD s v (e.ev ρ):=by
 have gen:∀s,(match kz S.ver is js s with|some y=>bif Sh.beq x.1 y then some (PE.con .none) else none|none=>none)=some e→mJ s=false→aQ C (fC shs obs) ρf σ1 eD s v (e.ev ρ):=by
  intro s hm hd;split at hm
  ·rename_i y hy;cases hb:Sh.beq x.1 y<;>simp only[hb,cond_true,cond_false] at hm
   ·cases hm
   have h1:=h.1;rw[Sh.beq_eq _ _ hb] at h1;have:=ahr (shs:=shs) (obs:=obs) (ρf:=ρf) hσ fy hy h1;cases s with
   |dat t=>cases hd
   |opt gs s'=>exact absurd rfl ((Uz hy).1 gs s')
   |eptr j ver size off=>simp[kz] at hy
   |_=>exact this
  ·cases hm
 unfold Cb at hf;split at hf
 ·rename_i t;split at hf
  ·rename_i y hy;cases hb:Ty.sub y.1 t<;>simp only[hb,cond_true,cond_false] at hf
   ·cases hf
   cases hf;exact hσ.rep ((h.2 y hy).sub hb)
  ·cases hf
 ·trivial
 ·rename_i kK ph;refine gen _ hf ?_;cases s<;>first|rfl|exact absurd rfl (kK _)
theorem apb {eD Qy:Nat→Value}{σ σ':Im}{ρf ρf':Env}{args:Nat→Value}{ds ds':Nat→D}(h1:∀(t:Nat) (s:Sh),shs[t]?=some s→aQ C (fC shs obs) ρf σ eD s (args t) (ds t))(h2:∀(t:Nat) (s:Sh),shs[t]?=some s→mJ s=false→aQ C (fC shs obs) ρf' σ' Qy s (args t) (ds' t))
 (hz:∀s,s∈shs→∃x,kz S.ver is js s=some x) {i:Nat} (hi:i∈oP shs):Qy i=eD i:=by
 have key:∀(l:List Sh),(∀s,s∈l→∃t:Nat,shs[t]?=some s)→i∈oP l→Qy i=eD i:=by
  intro l
  induction l with
  |nil=>intro _ h;cases h
  |cons s l ih=>
   intro hl hi;obtain⟨t,ht⟩:=hl s (dv ..);have vl:∀s,s∈l→∃t:Nat,shs[t]?=some s:=fun s hs=>hl s (dk _ hs);obtain⟨x,hx⟩:=hz s (mh ht);have a1:=h1 t s ht;have a2:=h2 t s ht;cases s<;>simp only[oP] at hi
   case obj j ver=>
        simp only[kz] at hx;cases hb:Nat.beq ver 0<;>simp only[hb,cond_true,cond_false] at hx
        ·cases hx
        rcases cX.1 hi with e|e
        ·subst e;rw[←(a1.2 (aL hb)),←((a2 rfl).2 (aL hb))]
        ·exact ih vl e
   case ptr j ver off=>
        simp only[kz] at hx;cases hb:Nat.beq ver 0<;>simp only[hb,cond_true,cond_false] at hx
        ·cases hx
        rcases cX.1 hi with e|e
        ·subst e;obtain⟨k1,e1,e2⟩:=a1.2 (aL hb);obtain⟨k2,e3,e4⟩:=(a2 rfl).2 (aL hb);rw[e2] at e4;cases e4;rw[e1,e3]
        ·exact ih vl e
   case fclo f caps=>
        simp only[kz,aG] at hx;obtain⟨c,hc,_⟩:=hx;obtain⟨_,g2⟩:=Mm hc;rcases dj.1 hi with e|e
        ·obtain⟨y,hy,e1⟩:=ej.1 e;subst e1;obtain⟨m,hm⟩:=w9 hy;obtain⟨vs,b1,b2,b3⟩:=a1;obtain⟨zQ,c1,c2,c3⟩:=a2 rfl;rw[b1] at c1;have gL:vs=zQ:=by simpa using c1
         subst gL;obtain⟨_,_,_,yt⟩:=g2 m y.1 y.2 hm;rw[←(b3 m y.1 y.2 hm).2 yt,←(c3 m y.1 y.2 hm).2 yt]
        ·exact ih vl e
   all_goals exact ih vl hi
 exact key shs (fun s hs=>w9 hs) hi
end
section
variable {C:Ctx} {S:St} {ρ:Env} {σ:Im} {own:Nat→Option Nat} {hv:Nat→Value} {w0:World} {σ0:Base} {A:Nat→Prop} {a:Act} {w:World} {Φ:aV} {dst:Nat}
 {is js:List Nat} {shs:List Sh} {obs:List (Nat×Ob)}
theorem Below.weak {B:Nat}{w w':World}(h:Below 0 w w')(hk:∀k,k<B→w'.heap[k]?=w.heap[k]?):Below B w w':=⟨h.os,h.tape,h.output,h.size,hk⟩
def nO (js is:List Nat)(own:Nat→Option Nat):Nat→Option Nat:=fun k=>(own k).bind (cw js is)
def DD (js is:List Nat)(own own':Nat→Option Nat):Nat→Option Nat:=fun k=>
 match own' k with
 |some i=>cw is js i
 |none=>match own k with|some j=>(match cw js is j with|some _=>none|none=>some j)|none=>none
theorem handed (h:Inv C S ρ σ own hv w0 σ0 A a w)(hC:CtxOK C σ0)(avr:DA shs obs=true)(CJ:is=obs.map (·.1))(abo:is.Nodup)(H6:js.Nodup)(HP:qo S is js obs js=true){acts:List m6}{es:List PE}(iO:sW S is js acts shs=some es)
 (HK:S.o gS=.dead) (Ih:gS∉js) {vals:List Value} (hvl:vals.length=acts.length) (atH:∀(t:Nat) (x:m6),acts[t]?=some x→∃d,Fp C S ρ σ hv x (vals.getD t undef) d) {f:Nat} {res:Ty} {d:D}
 (hfn:lj C f shs obs res (es.map (PE.ev ρ)++js.map ρ.o) d):
 Calls C.P f vals.toArray w fun e w'=>∃v dr os,e=.returned v∧d=.tup (dr::os)∧os.length=js.length∧
  ∀ρ':Env,ρ'.r=ρ.r→(∀(k j:Nat),js[k]?=some j→ρ'.o j=os.getD k .none)→(∀j,j∉js→j≠gS→ρ'.o j=ρ.o j)→
   ∃σ1 dB aZ,Inv C (S.handed shs obs is js) ρ' σ1 dB aZ w0 σ0 A a w'∧Rep C.cap σ1 res v dr:=by
 obtain⟨al1,al2,jk⟩:=Z9 iO;have fL:=aac HP;have tB:w0.heap.size≤w.heap.size:=h.below.size;obtain⟨tr,fx,cx,hf,rM⟩:=h.frame
 let eD:Nat→Value:=fun i=>match cw is js i with|some j=>hv j|none=>undef
 have fy:∀i j,cw is js i=some j→eD i=hv j:=fun i j e=>by simp only[eD,e]
 have abf:Im.leR C.cap σ σ.noM:=⟨Rep.noM,fun _ _ _ e=>e⟩
 have CU:∀k x,σ.noM.m k=some x→σ.m k=some x∧x≠cM:=by
  intro k x e;by_cases hd:σ.m k=some cM
  ·simp[Im.noM,hd] at e
  ·simp only[Im.noM,if_neg hd] at e;exact⟨e,fun e2=>hd (by rw[e,e2])⟩
 have vh:(es.map (PE.ev ρ)++js.map ρ.o).drop shs.length=js.map ρ.o:=by rw[List.drop_append];simp[al2]
 have auy:∀t e,es[t]?=some e→(es.map (PE.ev ρ)++js.map ρ.o).getD t .none=e.ev ρ:=fun t e he=>by
  have ah:=(fo.1 he).1;rw[aT,jZ (by simpa using ah),cS,he];rfl
 have avC:∀s,s∈shs→∃x,kz S.ver is js s=some x:=by
  intro s hs;obtain⟨t,ht⟩:=w9 hs;obtain⟨x,e,_,_,he⟩:=jk t s ht;unfold Cb at he;split at he
  ·exact⟨_,rfl⟩
  ·exact⟨_,rfl⟩
  ·split at he
   ·rename_i y hy;exact⟨y,hy⟩
   ·cases he
 have aa9:∀t,aQ C (fC shs obs) (lU obs (es.map (PE.ev ρ)++js.map ρ.o) ((es.map (PE.ev ρ)++js.map ρ.o).drop shs.length)) σ.noM eD (shs.getD t .none) (vals.toArray.getD t undef) ((es.map (PE.ev ρ)++js.map ρ.o).getD t .none):=by
  intro t;cases hs:shs[t]? with
  |none=>rw[aT,hs];trivial
  |some s=>
   obtain⟨x,e,hx,he,HO⟩:=jk t s hs;obtain⟨d',atI⟩:=atH t x hx;rw[aT (l:=shs),hs,auy t e he];have e1:vals.toArray.getD t undef=vals.getD t undef:=by simp[dL,aT]
   rw[e1];exact aqm abf fy HO atI
 have auM:∀i,cf C (fC shs obs) (lU obs (es.map (PE.ev ρ)++js.map ρ.o) ((es.map (PE.ev ρ)++js.map ρ.o).drop shs.length)) σ.noM (nO js is own) eD w w0.heap.size i (dS obs i):=by
  intro i;cases cN:cw is js i with
  |none=>subst CJ;rw[acp fL cN];trivial
  |some j=>
   subst CJ;obtain⟨x,hx,HQ⟩:=aab HP cN;refine azD abf fy (fun k j' i' hk hl=>by simp only[nO,hk,kF,hl]) H6 cN ?_ hx HQ (h.objs j);show mO obs _ i=_;rw[vh];exact awF obs ρ.o rfl cN
 have vf:=hfn w0.heap.size σ.noM (nO js is own) eD w vals.toArray (fun k=>(∃j,own k=some j∧cw js is j=none)∨σ.m k=some cM∨(cx k)) avr ⟨h.ok.c,fun k x e=>h.ok.m k x (CU k x e).1⟩ ((hC.mono h.le).noM)
  (fun k e=>(CU k _ e).2 rfl) tB (by simp;omega) (fun k i hk=>by
    simp only[nO,az] at hk;obtain⟨j,hj,_⟩:=hk;obtain⟨g1,g2,g3,g4⟩:=h.owns k j hj;exact⟨g1,g2,g3,by by_cases e:σ.m k=some cM<;>simp[Im.noM,e,g4]⟩) (fun k hk=>by
    rcases hk with⟨j,hj,hn⟩|hk|hk
    ·obtain⟨g1,g2,g3,g4⟩:=h.owns k j hj;exact⟨g2,by simp[nO,hj,hn],g3,by by_cases e:σ.m k=some cM<;>simp[Im.noM,e,g4]⟩
    ·have CR:=h.ok.m k _ hk;have hn:own k=none:=by
      cases e:own k with
      |none=>rfl
      |some j=>rw[(h.owns k j e).2.2.2] at hk;cases hk
     refine⟨CR.lt,by simp[nO,hn],fun o=>?_,by simp[Im.noM,hk]⟩;cases e:σ.c k o with
     |none=>exact e
     |some x=>
      have c1:=h.ok.c k o x e;rcases CR with⟨m1,_⟩|⟨_,m2⟩
      ·exact absurd rfl m1
      ·simp[World.cell?,m2] at c1
    ·have j8:=σ0.sub _ _ _ _ hf.F k hk;have hn:own k=none:=by
      cases e:own k with
      |none=>rfl
      |some j=>exact absurd j8 (hf.own k j e)
     refine⟨σ0.lt _ _ _ _ hf.F k j8,by simp[nO,hn],fun o=>?_,?_⟩
     ·cases e:σ.c k o with
      |none=>exact e
      |some x=>exact absurd hk (hf.c k o x e)
     ·cases e:σ.m k with
      |none=>simp[Im.noM,e]
      |some x=>exact absurd hk (hf.m k x e)) aa9 auM
 refine vf.mono fun e w' hh=>?_;obtain⟨v,σ',own',hv',dr,os,rfl,hd,P4,hle,aH,hb,ec,dq,cO,H5,abw,PB,P2,kM⟩:=hh;refine⟨v,dr,os,rfl,hd,by omega,fun ρ' hZ qA vy=>?_⟩;have H9:∀k,k<w.heap.size→own k=none→w'.heap[k]?=w.heap[k]?:=fun k hk hn=>ec k hk (by simp[nO,hn]);have avm:∀k j,own k=some j→cw js is j=none→w'.heap[k]?=w.heap[k]?:=fun k j hk hn=>ec k (h.owns k j hk).2.1 (by simp[nO,hk,hn])
 have auc:∀k o x,σ.c k o=some x→own k=none:=fun k o x e=>by
  cases e1:own k with
  |none=>rfl
  |some j=>rw[(h.owns k j e1).2.2.1 o] at e;cases e
 have abm:∀k x,σ.m k=some x→own k=none:=fun k x e=>by
  cases e1:own k with
  |none=>rfl
  |some j=>rw[(h.owns k j e1).2.2.2] at e;cases e
 have Ib:σ.ok w':=⟨fun k o x e=>by rw[World.cell?_of_block (H9 k (h.lt e) (auc k o x e))];exact h.ok.c k o x e,fun k x e=>(h.ok.m k x e).keep (H9 k (h.ltm e) (abm k x e))⟩
 have lJ:σ.le (σ'.plus σ):=Im.plus_le2 aH Ib;have lK:σ'.le (σ'.plus σ):=Im.plus_le1 σ' σ;have eX:∀k o x,(σ'.plus σ).c k o=some x→σ'.c k o=some x:=fun k o x e=>(Im.plus_c e).elim id (fun e=>hle.c k o x e)
 have ye:∀k x,(σ'.plus σ).m k=some x→σ'.m k=some x∨(σ.m k=some x∧x=cM):=fun k x e=>(Im.plus_m e).elim .inl (fun e=>by
  by_cases hd:x=cM
  ·exact .inr ⟨e,hd⟩
  ·refine .inl (hle.m k x ?_);have:σ.m k≠some cM:=fun e2=>hd (by rw[e] at e2;cases e2;rfl);simp only[Im.noM,if_neg this,e])
 let aZ:Nat→Value:=fun j=>match cw js is j with|some i=>hv' i|none=>hv j
 have awd:∀i j,cw is js i=some j→hv' i=aZ j:=fun i j e=>by simp only[aZ,Ix H6 e]
 have auj:∀i,i∈oP shs→hv' i=eD i:=fun i hi=>apb (S:=S) (is:=is) (js:=js) (args:=fun t=>vals.toArray.getD t undef) (ds:=fun t=>(es.map (PE.ev ρ)++js.map ρ.o).getD t .none) (ds':=fun t=>(es.map (PE.ev ρ)++js.map ρ.o).getD t .none) (fun t s hs=>by
  have:=aa9 t;rw[aT (l:=shs),hs] at this;exact this) (fun t s hs hd=>PB t s hs hd) avC hi
 have tc:Compat S hv (S.handed shs obs is js) aZ:=by
  refine⟨fun j=>?_,fun j e=>?_⟩
  ·show S.ver j≤ux S.ver shs is js j;unfold ux;split
   ·cases aN (oP shs) _<;>simp
   ·exact bk _
  ·change ux S.ver shs is js j=S.ver j at e;show aZ j=hv j;simp only[aZ];unfold ux at e;split at e
   ·rename_i i hi;cases hb:aN (oP shs) i<;>rw[hb] at e
    ·simp at e
    ·try simp only[hi]
     rw[auj i (abV.1 hb),fy i j (Ix abo hi)]
   ·rename_i hi;try simp only[hi]
 have mA:∀k j,DD js is own own' k=some j→(k<w.heap.size→own k≠none)∧w0.heap.size≤k∧k<w'.heap.size∧(∀o,σ'.c k o=none)∧σ'.m k=none∧σ.m k≠some cM:=by
  intro k j hk;simp only[DD] at hk;split at hk
  ·rename_i i hi;obtain⟨g1,g2,g3,g4,g5⟩:=abw k i hi;have g6:k<w.heap.size→own k≠none:=fun ah e=>g5 ah (by simp[nO,e]);refine⟨g6,g1,g2,g3,g4,fun e=>?_⟩;exact g6 (h.ltm e) (abm k _ e)
  ·split at hk
   ·rename_i j' bQ;split at hk
    ·cases hk
    ·rename_i hn;obtain⟨g1,g2,g3,g4⟩:=h.owns k j' bQ;have j7:(∃j,own k=some j∧cw js is j=none)∨σ.m k=some cM∨(cx k):=.inl ⟨j',bQ,hn⟩;refine⟨fun _ e=>(by rw[bQ] at e;cases e),g1,uK g2 hb.size,fun o=>?_,?_,fun e=>?_⟩
     ·cases e:σ'.c k o with
      |none=>rfl
      |some x=>exact absurd j7 (dq k o x e).2
     ·cases e:σ'.m k with
      |none=>rfl
      |some x=>exact absurd j7 (cO k x e).2
     ·rw[g4] at e;cases e
   ·cases hk
 refine⟨σ'.plus σ,DD js is own own',aZ,⟨h.defers.mono lJ,Im.plus_ok aH Ib,h.le.trans lJ,h.old,fun k o x e=>?_,fun k x e=>?_,h.below.trans (Below.weak hb fun k hk=>?_),h.bw,fun k j hk=>?_,fun t=>?_,fun j=>?_,h.opts,?_⟩,kM.mono lK⟩
 ·rcases(dq k o x (eX k o x e)).1 with e1|e1
  ·exact h.newc k o x e1
  ·exact .inr e1
 ·rcases ye k x e with e1|e1
  ·rcases(cO k x e1).1 with e2|e2
   ·exact h.newm k x (CU k x e2).1
   ·exact .inr e2
  ·exact h.newm k x e1.1
 ·have ct:k<w0.heap.size:=uK hk h.bw;refine H9 k (by omega) ?_;cases e:own k with
  |none=>rfl
  |some j=>have:=(h.owns k j e).1;omega
 ·obtain⟨_,g1,g2,g3,g4,g5⟩:=mA k j hk;refine⟨g1,g2,fun o=>?_,?_⟩
  ·cases e:(σ'.plus σ).c k o with
   |none=>rfl
   |some x=>have:=eX k o x e;rw[g3 o] at this;cases this
  ·cases e:(σ'.plus σ).m k with
   |none=>rfl
   |some x=>
    rcases ye k x e with e1|e1
    ·rw[g4] at e1;cases e1
    ·exact absurd (by rw[e1.1,e1.2]) g5
 ·show aQ C _ ρ' _ aZ (S.r t) _ (ρ'.r t);rw[hZ]
  exact aQ.mono lJ tc (fun gs s e=>by
   unfold holds;rw[hZ]) (fun gs s e=>(h.opts t gs s e).2) (h.regs t)
 ·show cf C _ ρ' _ _ aZ w' _ j (match cw js is j with|some i=>(match pQ (ux S.ver shs is js) is js (dS obs i) with|some o=>o|none=>.dead)|none=>S.o j);split
  ·rename_i i hi;have cN:=Ix abo hi;split
   ·rename_i x hx;refine azE (S1:=S.handed shs obs is js) lK awd (fun k i' j' hk hl=>by simp only[DD,hk,hl]) cN ?_ hx (P2 i);subst CJ;obtain⟨k,bF,ct⟩:=aci (os:=os) P4 cN;show ρ'.o j=mO obs os i;rw[ct];exact qA k j bF
   ·trivial
  ·rename_i hn
   have PV:j∉js:=fun hm=>by
        obtain⟨k,hk⟩:=w9 hm;have ah:k<is.length:=by
         have:=(fo.1 hk).1;rw[CJ,iw];omega
        have:=Iw H6 hk (bH ah);rw[hn] at this;cases this
   by_cases HX:j=gS
   ·subst HX;rw[HK];trivial
   ·refine(h.objs j).mono lJ tc (by show aZ j=hv j;simp only[aZ,hn]) (vy j PV HX) (fun k hk=>⟨?_,avm k j hk hn⟩);have:own' k=none:=by
     cases e:own' k with
     |none=>rfl
     |some i=>exact absurd (by simp[nO,hk,hn]) ((abw k i e).2.2.2.2 (h.owns k j hk).2.1)
    simp only[DD,this,hk,hn]
 ·refine⟨tr,fx,cx,⟨σ0.keep _ _ _ _ _ hf.F hb fun k hk=>?_,fun k j hk j8=>?_,fun k o x e hc=>?_,fun k x e hc=>?_,fun k e hB hk=>?_⟩,fun j hj=>?_⟩
  ·refine H9 k (σ0.lt _ _ _ _ hf.F k hk) ?_;cases e:own k with
   |none=>rfl
   |some j=>exact absurd hk (hf.own k j e)
  ·have ah:=σ0.lt _ _ _ _ hf.F k j8;have:=(mA k j hk).1 ah;cases e:own k with
   |none=>exact this e
   |some j'=>exact hf.own k j' e j8
  ·exact(dq k o x (eX k o x e)).2 (.inr (.inr hc))
  ·rcases ye k x e with e1|e1
   ·exact(cO k x e1).2 (.inr (.inr hc))
   ·exact hf.m k x e1.1 hc
  ·rcases ye k _ e with e1|e1
   ·have ah:=σ0.lt _ _ _ _ hf.F k hk;refine H5 k e1 hB ah ?_;have:own k=none:=by
     cases e:own k with
     |none=>rfl
     |some j=>exact absurd hk (hf.own k j e)
    simp[nO,this]
   ·exact hf.d k e1.1 hB hk
  ·change (match cw js is j with|some i=>(match pQ (ux S.ver shs is js) is js (dS obs i) with|some o=>o|none=>.dead)|none=>S.o j)=.tr at hj;split at hj
   ·rename_i i hi;split at hj
    ·rename_i x hx;exact absurd hj (aBK hx)
    ·cases hj
   ·rename_i hn
    have PV:j∉js:=fun hm=>by
     obtain⟨k,hk⟩:=w9 hm;have ah:k<is.length:=by
         have:=(fo.1 hk).1;rw[CJ,iw];omega
     have:=Iw H6 hk (bH ah);rw[hn] at this;cases this
    have HX:j≠gS:=fun e=>by subst e;rw[HK] at hj;cases hj
    rw[vy j PV HX];exact rM j hj
theorem ahM:∀(js:List Nat) (k:Nat) {ρ ρ':Env} {l:List D},PI.runs Φ (E4 js k) ρ=some ρ'→ρ.o gS=.tup l→gS∉js→js.Nodup→
 ρ'.r=ρ.r∧(∀(i j:Nat),js[i]?=some j→ρ'.o j=l.getD (k+i) .none)∧∀j,j∉js→ρ'.o j=ρ.o j
 |[],k,ρ,ρ',l,h,hs,hn,hd=>by
  simp only[E4,PI.runs,bf] at h;subst h;exact⟨rfl,fun i j e=>by simp at e,fun _ _=>rfl⟩
 |x::js,k,ρ,ρ',l,h,hs,hn,hd=>by
  simp only[E4,PI.runs,PI.run,kF,PE.ev,hs,D.tget] at h;simp only[cX,not_or] at hn;have fq:=ng.1 hd;obtain⟨g1,g2,g3⟩:=ahM js (k+1) h (by simp only[Env.setO];rw[bA _ _ hn.1];exact hs) hn.2 fq.2;refine⟨g1,fun i j e=>?_,fun j hj=>?_⟩
  ·cases i with
   |zero=>simp at e;subst e;rw[g3 _ fq.1];simp[Env.setO,aW]
   |succ i=>simp at e;rw[g2 i j e];congr 1;omega
  ·simp only[cX,not_or] at hj;rw[g3 j hj.2];simp only[Env.setO];exact bA _ _ hj.1
theorem ajI (h:Inv C S ρ σ own hv w0 σ0 A a w)(hC:CtxOK C σ0)(x:Operand):∃d,Fp C S ρ σ hv (FE C S x) (a.eval x) d:=by
 cases x with
 |tmp t=>
  refine⟨ρ.r t,?_,fun y hy=>bZ (gs:=[]) h hC rfl hy⟩;have:=(oe (gs:=[]) h rfl t).1;simpa [Act.eval,FE,gl] using this
 |_=>exact⟨.none,trivial,fun y hy=>bZ (gs:=[]) h hC rfl hy⟩
theorem ZK (h:Inv C S ρ σ own hv w0 σ0 A a w)(hC:CtxOK C σ0)(hΦ:dc C Φ){f:Nat}{args:List Operand}{caps:List (Nat×Nat)}{vs:List Value}(gL:vs.length=caps.length)
 (j4:∀(i j ver:Nat),caps[i]?=some (j,ver)→ver≤S.ver j∧(ver=S.ver j→vs.getD i undef=hv j)) (atZ:∀(i j ver:Nat),caps[i]?=some (j,ver)→ver=S.ver j→∃k,hv j=.pointer (some ⟨k,0,none⟩)) {r:St×Ty×List PI} (hr:qh C S f args caps=some r)
 {ρ1:Env} (ak:PI.runs Φ r.2.2 ρ=some ρ1):
 Calls C.P f (args.map a.eval++vs).toArray w fun e w'=>∃v σ1 dB aZ,e=.returned v∧Inv C r.1 ρ1 σ1 dB aZ w0 σ0 A a w'∧Rep C.cap σ1 r.2.1 v ((ρ1.o gS).tget 0):=by
 simp only[qh,az] at hr;obtain⟨s,hs,hr⟩:=hr;split at hr
 case h_2=>cases hr
 rename_i shs obs pg;obtain⟨σ2,ij,lK,h2⟩:=Inv.fzs (xK S args shs) h;have dR:=(qq (xK S args shs) S).1;generalize S.fzs (xK S args shs)=S2 at hr h2 dR;unfold OA Oz at hr;generalize Z4 S2 shs obs (args.map (FE C S2)++caps.map YL)=js at hr;simp only[az] at hr;obtain⟨es,iO,hr⟩:=hr;cases hb:(DA shs obs&&(jx (obs.map (·.1))&&jx js&&qo S2 (obs.map (·.1)) js obs js&&nI (S2.o gS)&& !aN js gS))<;>simp only[hb,cond_true,cond_false] at hr
 ·cases hr
 cases hr;simp only[ar,iu] at hb;obtain⟨b0,⟨⟨⟨b1,b2⟩,b3⟩,b4⟩,b5⟩:=hb;have kK:=mQ b1;have ph:=mQ b2;have HK:S2.o gS=.dead:=by
  cases e:S2.o gS<;>rw[e] at b4<;>first|rfl|cases b4
 have Ih:gS∉js:=fun hm=>by rw[abV.2 hm] at b5;cases b5
 simp only[PI.runs,PI.run,az,aG] at ak;obtain⟨ρ2,⟨d,hd,rfl⟩,ak⟩:=ak;rw[PE.evs_eq,oy,Fy] at hd;have e1:js.map (PE.ev ρ∘PE.o)=js.map ρ.o:=rfl;rw[e1] at hd;have hfn:=(hΦ f _ d hd s hs).2 shs obs pg
 have vf:=handed h2 hC b0 rfl kK ph b3 iO HK Ih (vals:=args.map a.eval++vs) (by simp[gL]) (fun t x hx=>by
  rw[ln] at hx;split at hx
  ·rename_i ah;rw[iw] at ah;rw[cS,bH ah] at hx;cases hx;have:(args.map a.eval++vs).getD t undef=a.eval args[t]:=by
        rw[aT,jZ (by simpa using ah),cS,bH ah];rfl
   rw[this];exact ajI h2 hC _
  ·rename_i eY;rw[iw] at eY hx;rw[cS,aG] at hx;obtain⟨c,hc,rfl⟩:=hx;obtain⟨j,ver⟩:=c;have cA:(args.map a.eval++vs).getD t undef=vs.getD (t-args.length) undef:=by
        rw[aT,kC (by simpa using eY),iw,aT]
   obtain⟨g1,g2⟩:=j4 _ j ver hc;refine⟨.none,⟨by rw[dR];exact g1,fun e=>?_⟩,fun y hy=>by cases hy⟩;rw[dR] at e;obtain⟨k,hk⟩:=atZ _ j ver hc e;exact⟨k,hk,by rw[cA,g2 e,hk]⟩) (hfn:=hfn)
 refine vf.mono fun e w' hh=>?_;obtain⟨v,dr,os,rfl,rfl,P4,mz⟩:=hh;obtain⟨g1,g2,g3⟩:=ahM js 1 (l:=dr::os) ak (by simp[Env.setO,aW]) Ih ph
 obtain⟨σ1,dB,aZ,hinv,bS⟩:=mz ρ1 g1 (fun k j hk=>by
  have:=g2 k j hk;rw[Ag] at this;simpa using this) (fun j hj aJ=>by rw[g3 j hj];simp only[Env.setO];exact bA _ _ aJ)
 refine⟨v,σ1,dB,aZ,rfl,hinv,?_⟩;rw[g3 gS Ih];simpa [Env.setO,aW,D.tget] using bS
def pA (S:St)(dst:Option Nat)(r:St×Ty×List PI):St×List PI:=
 match dst with
 |some d=>(r.1.setR d (.dat r.2.1),r.2.2++[.setR d (.tget (.o gS) 0)])
 |none=>(r.1,r.2.2)
theorem aB0 {a b:List PI}{ρ:Env}:PI.runs Φ (a++b) ρ=(PI.runs Φ a ρ).bind (PI.runs Φ b):=by
 induction a generalizing ρ with
 |nil=>simp[PI.runs]
 |cons x a ih=>
  simp only[Fu,PI.runs];cases x.run Φ ρ with
  |none=>rfl
  |some ρ1=>simp[ih]
theorem YI {o:Oper}{f:Nat}{vals:List Value}(ht:∀d,o.dst=some d→¬A d∧d<a.tmps.size){r:St×Ty×List PI}(hx:(execOp a.eval o).run C.P w=.ok (.enter f vals.toArray) w)
 (hc:∀ρ1,PI.runs Φ r.2.2 ρ=some ρ1→Calls C.P f vals.toArray w fun e w'=>∃v σ1 dB aZ,e=.returned v∧Inv C r.1 ρ1 σ1 dB aZ w0 σ0 A a w'∧Rep C.cap σ1 r.2.1 v ((ρ1.o gS).tget 0)):bX C w0 σ0 Φ S ρ A a w o (pA S o.dst r):=by
 intro ρ' ak K Q hK;simp only[Oper.wp,hx,Oper.upon];cases hd:o.dst with
 |none=>
  rw[hd] at ak hK;refine(hc ρ' ak).mono fun e w' hh=>?_;obtain⟨v,σ1,dB,aZ,rfl,hinv,bS⟩:=hh;refine hK _ _ ⟨σ1,dB,aZ,?_⟩ rfl;have:(fun u=>A u∨(none:Option Nat)=some u)=A:=by funext u;simp
  rw[this];exact hinv
 |some d=>
  rw[hd] at ak hK;obtain⟨t1,t2⟩:=ht d hd;simp only[pA,aB0,az] at ak;obtain⟨ρ1,h1,h2⟩:=ak;simp[PI.runs,PI.run,PE.ev] at h2;subst h2;refine(hc ρ1 h1).mono fun e w' hh=>?_;obtain⟨v,σ1,dB,aZ,rfl,hinv,bS⟩:=hh;refine hK _ _ ⟨σ1,dB,aZ,?_⟩ (size_put _ _ _);have:(fun u=>A u∨some d=some u)=(fun u=>A u∨u=d):=by funext u;simp[eq_comm]
  rw[this];exact hinv.setReg t1 (s:=.dat r.2.1) bS t2 (fun _ _ e=>by cases e)
theorem ZL (h:Inv C S ρ σ own hv w0 σ0 A a w)(hC:CtxOK C σ0)(bl:dC C)(hΦ:dc C Φ){f:Nat}{args:Array Operand}{ts:Array TypeId}{r:St×Ty×List PI}{o:Oper}(ht:∀d,o.dst=some d→¬A d∧d<a.tmps.size)
 (hr:qh C S f args.toList []=some r) (ho:o.op=.call {callee:=.value (.func f),args:=args,argTypes:=ts}):bX C w0 σ0 Φ S ρ A a w o (pA S o.dst r):=by
 have hs:∃s,C.sig f=some s:=by
  simp only[qh,az] at hr;obtain⟨s,hs,_⟩:=hr;exact⟨s,hs⟩
 obtain⟨s,hs⟩:=hs;have hx:=UH (a:=a) (w:=w) bl hs ho;have lL:args.map a.eval=(args.toList.map a.eval++[]).toArray:=by apply wU;simp
 rw[lL] at hx;exact YI ht hx fun ρ1 ak=>ZK h hC hΦ (vs:=[]) rfl (fun i j ver e=>by simp at e) (fun i j ver e=>by simp at e) hr ak
def xn (S:St):List (Nat×Nat)→Bool
 |[]=>true
 |c::l=>Nat.beq c.2 (S.ver c.1)&&(match S.o c.1 with|.box ..=>true|_=>false)&&xn S l
theorem YN (h:Inv C S ρ σ own hv w0 σ0 A a w):∀{l:List (Nat×Nat)},xn S l=true→∀(i j ver:Nat),l[i]?=some (j,ver)→ver=S.ver j∧∃k,hv j=.pointer (some ⟨k,0,none⟩)
 |[],_,i,j,ver,e=>by simp at e
 |c::l,hl,i,j,ver,e=>by
  simp only[xn,ar] at hl;cases i with
  |zero=>
   simp at e;subst e;refine⟨aL hl.1.1,?_⟩;have h1:=hl.1.2;have h2:=h.objs j;split at h1
   ·rename_i ag shs eo;simp only at eo;rw[eo] at h2;obtain⟨k,cs,T,ds,g1,_⟩:=h2;exact⟨k,g1⟩
   ·cases h1
  |succ i=>simp at e;exact YN h hl.2 i j ver e
def xC (C:Ctx)(S:St)(t:Nat)(args:List Operand):Option (St×Ty×List PI):=
 match kA S [] t with
 |.fclo f caps=>bif xn S caps then qh C S f args caps else none
 |_=>none
theorem ZJ (h:Inv C S ρ σ own hv w0 σ0 A a w)(hC:CtxOK C σ0)(bl:dC C)(hΦ:dc C Φ){t:Nat}{args:Array Operand}{ts:Array TypeId}{r:St×Ty×List PI}{o:Oper}(ht:∀d,o.dst=some d→¬A d∧d<a.tmps.size)
 (hr:xC C S t args.toList=some r) (ho:o.op=.call {callee:=.value (.tmp t),args:=args,argTypes:=ts}):bX C w0 σ0 Φ S ρ A a w o (pA S o.dst r):=by
 unfold xC at hr;split at hr
 case h_2=>cases hr
 rename_i f caps kc;cases hb:xn S caps<;>simp only[hb,cond_true,cond_false] at hr
 ·cases hr
 have ju:=(oe (gs:=[]) h rfl t).1;rw[kc] at ju;obtain⟨vs,h1,h2,h3⟩:=ju;have hs:∃s,C.sig f=some s:=by
  simp only[qh,az] at hr;obtain⟨s,hs,_⟩:=hr;exact⟨s,hs⟩
 obtain⟨s,hs⟩:=hs;have hx:=ahD (a:=a) (w:=w) (vs:=vs) (x:=.tmp t) bl hs (by simpa [Act.eval] using h1) ho;have lL:args.map a.eval++vs.toArray=(args.toList.map a.eval++vs).toArray:=by apply wU;simp
 rw[lL] at hx;exact YI ht hx fun ρ1 ak=>ZK h hC hΦ h2 h3 (fun i j ver e _=>(YN h hb i j ver e).2) hr ak
def AH (S:St):List Operand→Option (List (Nat×Nat))
 |[]=>some []
 |x::xs=>
  match x with
  |.tmp t=>
   match kA S [] t with
   |.ptr j ver off=>bif Nat.beq ver (S.ver j)&&Nat.beq off 0 then(AH S xs).map fun r=>(j,ver)::r else none
   |_=>none
  |_=>none
def B0 (C:Ctx)(S:St)(dst:Nat)(fn:Fn)(first caps:Array Operand):Option (St×List PI):=
 match fn,first.toList with
 |.func f,[]=>
  match C.sig f with
  |some s=>bif qG s.mode then(AH S caps.toList).map fun c=>(S.setR dst (.fclo f c),[.setR dst (.con .none)]) else none
  |none=>none
 |_,_=>none
theorem YO (h:Inv C S ρ σ own hv w0 σ0 A a w):∀{l:List Operand} {c:List (Nat×Nat)},AH S l=some c→c.length=l.length∧∀(i j ver:Nat),c[i]?=some (j,ver)→ver≤S.ver j∧(ver=S.ver j→(l.map a.eval).getD i undef=hv j)
 |[],c,e=>by simp only[AH,bf] at e;subst e;exact⟨rfl,fun i j ver e=>by simp at e⟩
 |x::xs,c,e=>by
  simp only[AH] at e;split at e
  case h_2=>cases e
  rename_i t;split at e
  case h_2=>cases e
  rename_i j ver off kc;cases hb:(Nat.beq ver (S.ver j)&&Nat.beq off 0)<;>simp only[hb,cond_true,cond_false] at e
  ·cases e
  simp only[ar] at hb;simp only[aG] at e;obtain⟨r,hr,rfl⟩:=e;obtain⟨g1,g2⟩:=YO h hr;have ju:=(oe (gs:=[]) h rfl t).1;rw[kc] at ju;refine⟨by simp[g1],fun i j' om e=>?_⟩;cases i with
  |zero=>
   simp at e;obtain⟨rfl,rfl⟩:=e;refine⟨ju.1,fun e=>?_⟩;obtain⟨k,k1,k2⟩:=ju.2 e;have e0:off=0:=aL hb.2;subst e0;rw[k1,←k2];simp[Act.eval]
  |succ i=>simp at e;simpa using g2 i j' om e
theorem apG (h:Inv C S ρ σ own hv w0 σ0 A a w)(ht:¬A dst)(ah:dst<a.tmps.size){fn:Fn}{first caps:Array Operand}{r:St×List PI}{o:Oper}(hr:B0 C S dst fn first caps=some r)(hd:o.dst=some dst)(ho:o.op=.makeFunc fn first caps):bX C w0 σ0 Φ S ρ A a w o r:=by
 unfold B0 at hr;split at hr
 case h_2=>cases hr
 rename_i f CF;split at hr
 case h_2=>cases hr
 rename_i s hs;cases hb:qG s.mode<;>simp only[hb,cond_true,cond_false] at hr
 ·cases hr
 simp only[aG] at hr;obtain⟨c,hc,rfl⟩:=hr;obtain⟨g1,g2⟩:=YO h hc;have CC:first=#[]:=by rw[←sC];simpa using CF
 refine bX.value hd fun ρ' ak=>⟨.func (.func f) #[] (caps.toList.map a.eval).toArray,w,?_,?_⟩
 ·subst CC;have e9:caps.map a.eval=(caps.toList.map a.eval).toArray:=by apply wU;rw[zY]
  simp[execOp,ho,Instr.makeFunc,e9]
 ·have hρ:ρ'=ρ.setR dst .none:=by simp[PI.runs,PI.run,PE.ev] at ak;exact ak.symm
  subst hρ;exact⟨_,_,_,h.setReg ht (s:=.fclo f c) ⟨_,rfl,by simp[g1],g2⟩ ah (fun _ _ e=>by cases e)⟩
end
end Cx
namespace Cx
open Go Go.RowKit
inductive Gh where
 |fz (j:Nat)|fbox (b:Nat)|rereg (t j:Nat)|recell (b i j:Nat)|home (b i j:Nat) (T:TypeId)
def Gh.run (C:Ctx)(S:St):Gh→Option (St×List PI)
 |.fz j=>some (S.fz j,[])
 |.fbox b=>Cj S b
 |.rereg t j=>wG S t j
 |.recell b i j=>EW S b i j
 |.home b i j T=>CX C S b i j T
def jj (C:Ctx):List Gh→St→Option (St×List PI)
 |[],S=>some (S,[])
 |g::gs,S=>(g.run C S).bind fun r=>(jj C gs r.1).map fun q=>(q.1,r.2++q.2)
theorem oa {Φ:aV}:∀{a b:List PI} {ρ:Env},PI.runs Φ (a++b) ρ=(PI.runs Φ a ρ).bind (PI.runs Φ b)
 |[],b,ρ=>by simp[PI.runs]
 |x::a,b,ρ=>by
  simp only[Fu,PI.runs];cases x.run Φ ρ with
  |none=>rfl
  |some ρ1=>simp[oa (a:=a) (b:=b)]
def oV (S:St)(ops:Array Oper)(o:Oper):Option (List (Nat×Bool)):=
 match o.guard with
 |none=>some []
 |some (j,want)=>
  match(ops[j]?).bind (·.dst) with
  |some t=>
   match S.r t with
   |.dat .bool=>some [(t,want)]
   |.opt gs (.dat .bool)=>some ((t,want)::gs)
   |_=>none
  |none=>none
def tR (S:St)(gs:List (Nat×Bool)):Op→List Nat
 |.build _ ps=>cg S gs (ps.toList.map (·.2))
 |.buildSlice _ _ ps=>cg S gs (ps.toList.map (·.2))
 |.box _ x=>cg S gs [x]
 |.pick _ x y=>cg S gs [x,y]
 |.slice _ x _ _ _=>cg S gs [x]
 |.mapUpdate _ _ k v=>cg S gs [k,v]
 |.insert _ _ k v=>cg S gs [k,v]
 |.store _ x v=>match gl S gs x with|.eptr ..=>cg S gs [v]|_=>[]
 |_=>[]
def AI:List Sh→List Nat
 |[]=>[]
 |.obj j _::r=>j::AI r
 |_::r=>AI r
def FT (S:St)(gs:List (Nat×Bool)):List Operand→List Nat
 |[]=>[]
 |x::xs=>
  match gl S gs x with
  |.ptr j ver off=>bif Nat.beq ver (S.ver j)&&(match S.o j with|.box ..=>true|_=>false) then j::FT S gs xs else FT S gs xs
  |_=>FT S gs xs
def aeH (C:Ctx):Fn→Bool
 |.func f=>(match C.sig f with|some s=>qG s.mode|none=>false)
 |_=>false
def pre (C:Ctx)(S:St)(gs:List (Nat×Bool))(op:Op):List Gh:=
 match op with
 |.makeFunc fn _ caps=>
  bif aeH C fn then[] else(FT S gs caps.toList).flatMap fun b=>(match S.o b with|.box _ shs=>(AI shs).map .fz|_=>[])++[.fbox b]
 |.load T x=>
  match gl S gs x,pv C.P T,C.P.info? T with
  |.ptr j _ off,some true,some inf=>(match S.o j with|.box _ shs=>(AI ((shs.drop off).take inf.size)).map .fz|_=>[])
  |_,_,_=>[]
 |op=>(tR S gs op).map .fz
def pE (C:Ctx)(S:St)(gs:List (Nat×Bool))(o:Oper):List Gh:=
 match o.op,o.dst with
 |.assign x,some t=>bif C.fr.any (Nat.beq t) then(cg S gs [x]).map .fz else[]
 |_,_=>[]
def On (P:Program):Nat→TypeId→List (Option TypeId)
 |0,_=>[]
 |n+1,t=>
  match P.underlying t with
  |some (.struct fs)=>fs.toList.flatMap fun f=>On P n f.type
  |some (.array len e)=>(List.replicate len (On P n e)).flatten
  |some (.slice e)=>[some e]
  |_=>[none]
def homes (P:Program)(b off:Nat)(T:TypeId):List Gh:=
 ((On P 12 T).zipIdx).filterMap fun x=>x.1.map fun e=>.home b (off+x.2) (abv b (off+x.2)) e
def Is (nh:List Nat)(l:List Gh):List Gh:=l.filter fun g=>match g with|.home _ _ j _=> !(nh.any (Nat.beq j))|_=>true
def ahq (b off n:Nat):List Gh:=(List.range n).map fun i=>.recell b (off+i) (abv b (off+i))
def post (C:Ctx)(S:St)(o:Oper):List Gh:=
 match o.op,o.dst with
 |.assign _,some t=>[.rereg t t]
 |.alloc T,some t=>Is C.nh (homes C.P t 0 T)
 |.store T x _,_=>
  match gl S [] x with
  |.ptr j _ off=>Is C.nh (homes C.P j off T)++ahq j off (match C.P.info? T with|some i=>i.size|none=>0)
  |_=>[]
 |_,_=>[]
def qI:Sh→Bool
 |.opt ..=>false
 |_=>true
def sS (C:Ctx)(S:St)(dst:Nat)(T:TypeId)(x:Operand):lg:=
 match x with
 |.const v=>(oh C.P T).bind fun t=>(oq t).bind fun z=>bif jc t v then some (S.setR dst (.dat z.1),[.setR dst (.con z.2)]) else none
 |_=>none
def core (C:Ctx)(S:St)(gs:List (Nat×Bool))(o:Oper):Option (St×List PI):=
 match o.dst with
 |some dst=>
  match nN C S gs dst o.op with
  |some r=>bif qI r.1 then some (S.setR dst (iK gs r.1),r.2) else none
  |none=>
   match o.op,gs with
   |.assign x,[]=>
    bif C.fr.any (Nat.beq dst) then
          match pB C S [] dst x with
          |some r=>some (S.setR dst r.1,r.2)
          |none=>sS C S dst o.type x
    else
    match B1 C S dst o.type x with
    |some r=>some r
    |none=>
     match pB C S [] dst x with
     |some r=>some (S.setR dst r.1,r.2)
     |none=>sS C S dst o.type x
   |.alloc T,[]=>BT C S dst T
   |.box T x,[]=>BV C S dst T x
   |.buildSlice T n ps,gs=>
    match gs with
    |[]=>uU C S [] dst T n ps.toList
    |_=>xD C S gs dst T n ps.toList
   |.makeSlice T l c,[]=>BZ C S dst T l c
   |.makeMap T r,[]=>BY C S dst T r
   |.range T x,[]=>B2 C S dst T x
   |.convert T U x,[]=>BW C S dst T U x
   |.call c,gs=>
    match c.callee,gs with
    |.builtin .append,[]=>
     match c.args.toList,c.argTypes.toList with
     |[s,x],[T,T']=>bif Nat.beq T T' then BU C S dst T s x else none
     |_,_=>none
    |.value (.func f),gs=>
     match oQ C S gs dst f c.args.toList with
     |some r=>some (r.1.setR dst (iK gs r.2.1),r.2.2)
     |none=>
      match gs with
      |[]=>
       match BX C S dst f c.args.toList with
       |some r=>some r
       |none=>(qh C S f c.args.toList []).map (pA S (some dst))
      |_=>none
    |.value x,gs=>
     match nr C S gs dst x c.args.toList with
     |some r=>some (r.1.setR dst (iK gs r.2.1),r.2.2)
     |none=>
      match x,gs with
      |.tmp t,[]=>(xC C S t c.args.toList).map (pA S (some dst))
      |_,_=>none
    |_,_=>none
   |.makeFunc fn first caps,[]=>B0 C S dst fn first caps
   |_,_=>none
 |none=>
  match o.op,gs with
  |.store T x v,[]=>sR C S T x v
  |.mapUpdate T m k v,[]=>rq C S T m k v
  |.insert T m k v,[]=>rq C S T m k v
  |.panic _,[]=>some (S,[.chk (.nt (.con (.bool true)))])
  |.call c,[]=>
   match c.callee with
   |.value (.func f)=>(qh C S f c.args.toList []).map (pA S none)
   |.value (.tmp t)=>(xC C S t c.args.toList).map (pA S none)
   |_=>none
  |_,_=>none
def af3 (dst:Nat)(l:List PI):Bool:=l.all fun p=>p.modR.all (Nat.beq dst)&&p.modO.isEmpty
def iL (gs:List (Nat×Bool))(dst:Option Nat)(l:List PI):Bool:=
 match gs,dst with
 |[],_=>true
 |_,some d=>af3 d l
 |_,none=>false
def BP (C:Ctx)(S:St)(ops:Array Oper)(o:Oper):Option (St×List PI):=
 (oV S ops o).bind fun gs=>
 (jj C (pre C S gs o.op++pE C S gs o) S).bind fun r1=>
 (core C r1.1 gs o).bind fun r2=>
 (jj C (post C r2.1 o) r2.1).bind fun r3=>
 bif iL gs o.dst r2.2 then some (r3.1,r1.2++r2.2++r3.2) else none
def Fb:PI:=.chk (.con (.v (.bool false)))
def xz (C:Ctx)(S:St)(ops:Array Oper)(o:Oper):Option (St×List PI):=
 match BP C S ops o with
 |some r=>some r
 |none=>some (match o.dst with|some d=>S.setR d .none|none=>S,[Fb])
section
variable {C:Ctx} {S:St} {ρ:Env} {σ:Im} {own:Nat→Option Nat} {hv:Nat→Value} {w0:World} {σ0:Base} {A:Nat→Prop} {a:Act} {w:World} {gs:List (Nat×Bool)} {Φ:aV} {dst:Nat}
theorem Gh.sound {g:Gh}{r:St×List PI}(h:Good C w0 σ0 S ρ A a w)(hr:g.run C S=some r):z8 C w0 σ0 Φ S ρ A a w r:=by
 obtain⟨σ,own,hv,h⟩:=h;cases g with
 |fz j=>
  simp only[Gh.run,bf] at hr;subst hr;intro ρ' ak;rw[mX ak];obtain⟨σ',own',_,h'⟩:=h.fz j;exact⟨σ',own',hv,h'⟩
 |fbox b=>exact asX h hr
 |rereg t j=>exact aBJ h hr
 |recell b i j=>exact aBI h hr
 |home b i j T=>exact avk h hr
theorem O2:∀(l:List Gh) {S:St} {ρ ρ':Env} {r:St×List PI},Good C w0 σ0 S ρ A a w→jj C l S=some r→PI.runs Φ r.2 ρ=some ρ'→Good C w0 σ0 r.1 ρ' A a w
 |[],S,ρ,ρ',r,h,hr,ak=>by
  simp only[jj,bf] at hr;subst hr;rw[mX ak];exact h
 |g::l,S,ρ,ρ',r,h,hr,ak=>by
  simp only[jj,az,aG] at hr;obtain⟨q,hq,q2,iS,rfl⟩:=hr;simp only[oa,az] at ak;obtain⟨ρ1,h1,h2⟩:=ak;exact O2 (r:=q2) l (Gh.sound (Φ:=Φ) h hq ρ1 h1) iS h2
theorem aap (h:Good C w0 σ0 S ρ A a w){ops:Array Oper}{o:Oper}(hg:oV S ops o=some gs):Region.wanted o (yielded ops a.tmps)=holds gs ρ:=by
 obtain⟨σ,own,hv,h⟩:=h;unfold oV at hg;unfold Region.wanted;split at hg
 ·rename_i e;cases hg;simp[e,holds]
 ·rename_i j want e;simp only[e];split at hg
  case h_2=>cases hg
  rename_i t ht;have ju:=h.regs t;have hy:∀v,a.tmps.getD t undef=v→(∀b,v=.bool b→yielded ops a.tmps j=some b)∧(v=undef→yielded ops a.tmps j=none):=by
   intro v hv';unfold yielded;rw[ht];simp only[kF];rw[dL] at hv';cases tj:a.tmps[t]? with
   |none=>rw[tj] at hv';simp at hv';subst hv';exact⟨fun b e=>absurd e (by simp[undef]),fun _=>rfl⟩
   |some u=>rw[tj] at hv';simp at hv';subst hv';exact⟨fun b e=>by subst e;rfl,fun e=>by subst e;rfl⟩
  split at hg
  ·rename_i es;cases hg;rw[es] at ju;obtain⟨b,jm,dx⟩:=Rep.bool_inv ju;rw[(hy _ jm).1 b rfl];simp[holds,dx,D.b_bool]
  ·rename_i bM es;cases hg;rw[es] at ju;simp only[holds,p5];cases hh:holds bM ρ with
   |true=>
    obtain⟨b,jm,dx⟩:=Rep.bool_inv (ju.1 hh);rw[(hy _ jm).1 b rfl];unfold holds at hh;rw[hh,dx];simp[D.b_bool]
   |false=>
    rw[(hy _ (ju.2 hh)).2 rfl];unfold holds at hh;rw[hh];simp
  ·cases hg
theorem aao (h:Good C w0 σ0 S ρ A a w){ops:Array Oper}{o:Oper}(hg:oV S ops o=some gs)(hj:∀j want t,o.guard=some (j,want)→(ops[j]?).bind (·.dst)=some t→A t):∀g,g∈gs→A g.1:=by
 obtain⟨σ,own,hv,h⟩:=h;unfold oV at hg;split at hg
 ·cases hg;simp
 ·rename_i j want e;split at hg
  case h_2=>cases hg
  rename_i t ht;have hA:=hj j want t e ht;split at hg
  ·cases hg;intro g hm;simp at hm;subst hm;exact hA
  ·rename_i bM es;cases hg;intro g hm;rcases cX.1 hm with e'|eZ
   ·subst e';exact hA
   ·exact(h.opts t bM _ es).1 g eZ
  ·cases hg
theorem aAj (h:Inv C S ρ σ own hv w0 σ0 A a w)(hC:CtxOK C σ0)(hg:holds gs ρ=true){o:Oper}{r:Sh×List PI}(hr:nN C S gs dst o.op=some r):dX C S ρ σ hv Φ dst a w o r:=by
 unfold nN at hr;split at hr
 ·rename_i x e;exact af7 h hC hg hr (.inl e)
 ·rename_i c x y e;exact aAi h hC hg hr e
 ·rename_i op T x y T' e;exact azT h hC hg hr e
 ·rename_i op T x e;exact aAn h hC hg hr e
 ·rename_i s d x e;exact azX h hC hg hr e
 ·rename_i T x e;exact I9 h hC hg hr e
 ·rename_i T x i e;exact az1 h hC hg hr e
 ·rename_i T x i e;exact az3 h hC hg hr e
 ·rename_i T x i e;exact az6 h hC hg hr e
 ·rename_i T x i e;exact az8 h hC hg hr e
 ·rename_i x i e;exact azZ h hC hg hr e
 ·rename_i T m k ok e;exact aAe h hC hg hr e
 ·rename_i T x lo hi mx e;exact aAl h hC hg hr e
 ·rename_i f a b e;exact az4 h hC hg hr e
 ·rename_i T ps e;exact azV h hC hg hr e
 ·rename_i x e;exact aAg h hC hg hr e
 ·cases hr;intro ρ' ak;have:=(UJ hg ak).1;cases this
 ·rename_i c e;split at hr
  ·rename_i x T hc ha ht;refine aAa h hC hg hr ?_;rw[e];cases c with|mk callee args argTypes=>
   simp only at hc ha ht;have h1:args=#[x]:=by rw[←sC];exact ha
   have h2:argTypes=#[T]:=by rw[←sC];exact ht
   rw[hc,h1,h2]
  ·rename_i x y hc ha;refine af5 (ts:=c.argTypes) h hC hg hr ?_;rw[e];cases c with|mk callee args argTypes=>
   simp only at hc ha;have h1:args=#[x,y]:=by rw[←sC];exact ha
   rw[hc,h1];rfl
  ·rename_i x y hc ha;refine af5 (ts:=c.argTypes) h hC hg hr ?_;rw[e];cases c with|mk callee args argTypes=>
   simp only at hc ha;have h1:args=#[x,y]:=by rw[←sC];exact ha
   rw[hc,h1];rfl
  ·cases hr
 ·cases hr
theorem apO (h:Inv C S ρ σ own hv w0 σ0 A a w)(ht:¬A dst)(ah:dst<a.tmps.size){T:TypeId}{x:Operand}{r:St×List PI}(hr:sS C S dst T x=some r){o:Oper}(hd:o.dst=some dst)(ho:o.op=.assign x):bX C w0 σ0 Φ S ρ A a w o r:=by
 unfold sS at hr;split at hr
 case h_2=>cases hr
 rename_i v;simp only[az] at hr;obtain⟨t,_,z,hz,hr⟩:=hr;cases hc:jc t v<;>simp only[hc,cond_true,cond_false] at hr
 ·cases hr
 cases hr;have bS:=(wT (cap:=C.cap) (σ:=σ) hz hc).1;refine bX.value hd fun ρ' ak=>⟨v,w,by simp[execOp,ho,Act.eval],?_⟩
 have hρ:ρ'=ρ.setR dst z.2:=by simp[PI.runs,PI.run,PE.ev] at ak;exact ak.symm
 subst hρ;exact⟨_,_,_,h.setReg ht (s:=.dat z.1) bS ah (fun _ _ e=>by cases e)⟩
theorem ao2 (h:Inv C S ρ σ own hv w0 σ0 A a w)(hC:CtxOK C σ0)(bl:dC C)(hΦ:dc C Φ){o:Oper}(ht:∀d,o.dst=some d→¬A d∧d<a.tmps.size)(dF:∀g,g∈gs→A g.1)(hg:holds gs ρ=true){r:St×List PI}
 (hr:core C S gs o=some r):bX C w0 σ0 Φ S ρ A a w o r:=by
 unfold core at hr;split at hr
 ·rename_i dst hd;obtain⟨gr,gu⟩:=ht dst hd;split at hr
  ·rename_i q hq;cases dY:qI q.1<;>simp only[dY,cond_true,cond_false] at hr
   ·cases hr
   cases hr;have abB:=aAj (Φ:=Φ) h hC hg hq;cases gs with
   |nil=>exact abB.eff h gr gu hd
   |cons g bM=>exact abB.effG h gr gu dF hg hd
  ·rename_i PW;clear PW;split at hr
   ·rename_i x e
    have mv:∀r,(match pB C S [] dst x with|some r=>some (S.setR dst r.1,r.2)|none=>sS C S dst o.type x)=some r→bX C w0 σ0 Φ S ρ A a w o r:=by
     intro r hr;split at hr
     ·rename_i q hq;cases hr;exact(af7 (Φ:=Φ) h hC hg hq (.inr e)).eff h gr gu hd
     ·exact apO h gr gu hr hd e
    cases cY:C.fr.any (Nat.beq dst)<;>simp only[cY,cond_true,cond_false] at hr
    ·split at hr
     ·rename_i q hq;cases hr;exact apI h hC gr gu hq hd e
     ·exact mv r hr
    ·exact mv r hr
   ·rename_i T e;exact aph h gr gu hr hd e
   ·rename_i T x e;exact apl h hC gr gu hr hd e
   ·rename_i T n ps e;split at hr
    ·exact apn h hC gr gu hr hd e
    ·exact apA h hC gr gu dF hg hr hd e
   ·rename_i T l c e;exact apE h hC gr gu hr hd e
   ·rename_i T m e;exact apC h gr gu hr hd e
   ·rename_i T x e;exact apK h gr gu hr hd e
   ·rename_i T U x e;exact apq h hC gr gu hr hd e
   ·rename_i c e;cases c with|mk callee args argTypes=>
    split at hr
    ·rename_i hc;simp only at hc;split at hr
     ·rename_i s x T T' ha Qv;simp only at ha Qv;cases hT:Nat.beq T T'<;>simp only[hT,cond_true,cond_false] at hr
      ·cases hr
      have xQ:=aL hT;subst xQ;refine apj h hC gr gu hr hd ?_;have h1:args=#[s,x]:=by rw[←sC];exact ha
      have h2:argTypes=#[T,T]:=by rw[←sC];exact Qv
      rw[e,hc,h1,h2]
     ·cases hr
    ·rename_i f hc;simp only at hc;split at hr
     ·rename_i q hq;cases hr;exact apy h hC bl hΦ gr gu dF hg hq hd (by rw[e,hc])
     ·split at hr
      ·split at hr
       ·rename_i q hq;cases hr;exact apv h hC bl hΦ gr gu hq hd (by rw[e,hc])
       ·simp only[aG] at hr;obtain⟨q,hq,rfl⟩:=hr;rw[←hd];exact ZL h hC bl hΦ ht hq (by rw[e,hc])
      ·cases hr
    ·rename_i x PU hc;simp only at hc;split at hr
     ·rename_i q hq;cases hr;exact apt h hC bl hΦ gr gu dF hg hq hd (by rw[e,hc])
     ·split at hr
      ·simp only[aG] at hr;obtain⟨q,hq,rfl⟩:=hr;rw[←hd];exact ZJ h hC bl hΦ ht hq (by rw[e,hc])
      ·cases hr
    ·cases hr
   ·rename_i fn first caps e;exact apG h gr gu hr hd e
   ·cases hr
 ·rename_i hd;split at hr
  ·rename_i T x v e;exact apM h hC hr hd e
  ·rename_i T m k v e;exact ZN h hC hr hd (.inl e)
  ·rename_i T m k v e;exact ZN h hC hr hd (.inr e)
  ·cases hr;intro ρ' ak;simp[PI.runs,PI.run,PE.ev,D.bool,D.b] at ak
  ·rename_i c e;cases c with|mk callee args argTypes=>
   split at hr
   ·rename_i f hc;simp only at hc;simp only[aG] at hr;obtain⟨q,hq,rfl⟩:=hr;rw[←hd];exact ZL h hC bl hΦ ht hq (by rw[e,hc])
   ·rename_i t hc;simp only at hc;simp only[aG] at hr;obtain⟨q,hq,rfl⟩:=hr;rw[←hd];exact ZJ h hC bl hΦ ht hq (by rw[e,hc])
   ·cases hr
  ·cases hr
theorem ao0 {g:Nat×Bool}{bM:List (Nat×Bool)}{o:Oper}{r:St×List PI}(hr:core C S (g::bM) o=some r):
 ∃dst S2 s,o.dst=some dst∧r.1=S2.setR dst (.opt (g::bM) s)∧((∃js,S2=S.fzs js)∨∃j,S2=S.newO j .dead)∧(∀gs s',s≠.opt gs s')∧(∀x,o.op≠.assign x)∧(∀T,o.op≠.alloc T)∧∀T x v,o.op≠.store T x v:=by
 unfold core at hr;split at hr
 ·rename_i dst hd;split at hr
  ·rename_i q hq;cases dY:qI q.1<;>simp only[dY,cond_true,cond_false] at hr
   ·cases hr
   cases hr;refine⟨dst,S,q.1,hd,rfl,.inl ⟨[],rfl⟩,(fun gs s' e=>by rw[e] at dY;cases dY),fun x e=>?_,fun T e=>?_,fun T x v e=>?_⟩<;>(rw[e] at hq;simp[nN] at hq)
  ·rename_i PW;clear PW;split at hr
   case h_4=>
        rename_i T n ps e;split at hr
        ·rename_i hx;cases hx
        ·unfold xD at hr;split at hr
         case h_2=>cases hr
         simp only[az] at hr;obtain⟨e0,he0,hr⟩:=hr;split at hr
         ·cases hr;exact⟨dst,_,.dat (.slice e0.rol),hd,rfl,.inr ⟨dst,rfl⟩,(fun _ _ e=>by cases e),(fun x e'=>by rw[e] at e';cases e'),(fun x e'=>by rw[e] at e';cases e'),(fun _ _ _ e'=>by rw[e] at e';cases e')⟩
         ·cases hr
   case h_9=>
        rename_i c e;split at hr
        ·rename_i hx;cases hx
        ·rename_i f hc;split at hr
         ·rename_i q hq;cases hr;simp only[oQ,az] at hq;obtain⟨s,hs,hq⟩:=hq;split at hq
          case h_2=>cases hq
          simp only[az] at hq;obtain⟨u,hu,hq⟩:=hq;cases cl:Ty.subs u.1 s.args<;>simp only[cl,cond_true,cond_false] at hq
          ·cases hq
          cases hq;refine⟨dst,_,.dat s.res,hd,rfl,?_,(fun _ _ e=>by cases e),(fun x e'=>by rw[e] at e';cases e'),(fun x e'=>by rw[e] at e';cases e'),(fun _ _ _ e'=>by rw[e] at e';cases e')⟩;left;cases s.res.pure
          ·exact⟨_,rfl⟩
          ·exact⟨[],rfl⟩
         ·cases hr
        ·rename_i x PU hc;have hr:∃q,nr C S (g::bM) dst x c.args.toList=some q∧(q.1.setR dst (iK (g::bM) q.2.1),q.2.2)=r:=by
          split at hr
          ·rename_i q hq;cases hr;exact⟨q,hq,rfl⟩
          ·split at hr
           all_goals (first|(cases hr;done)|(rename_i hx;cases hx;done)|(rename_i hx _;cases hx;done)|(rename_i hx _ _;cases hx;done)|(rename_i hx;exact absurd hx (by simp)))
         obtain⟨q,hq,rfl⟩:=hr;unfold nr at hq;split at hq
         case h_2=>cases hq
         rename_i aa r0 ee Qw;split at hq
         case h_1=>cases hq
         simp only[az] at hq;obtain⟨u,hu,hq⟩:=hq;cases cl:Ty.subs u.1 aa<;>simp only[cl,cond_true,cond_false] at hq
         ·cases hq
         cases hq;refine⟨dst,_,.dat r0,hd,rfl,?_,(fun _ _ e=>by cases e),(fun x e'=>by rw[e] at e';cases e'),(fun x e'=>by rw[e] at e';cases e'),(fun _ _ _ e'=>by rw[e] at e';cases e')⟩;left;cases r0.pure
         ·exact⟨_,rfl⟩
         ·exact⟨[],rfl⟩
        ·cases hr
   all_goals (first|(cases hr;done)|(rename_i hx;cases hx;done)|(rename_i hx _;cases hx;done))
 ·split at hr
  all_goals (first|(cases hr;done)|(rename_i hx;cases hx;done)|(rename_i hx _;cases hx;done))
theorem abu {ρ ρ1:Env}:∀{l:List (Nat×Bool)},(∀g,g∈l→ρ1.r g.1=ρ.r g.1)→holds l ρ1=holds l ρ
 |[],_=>rfl
 |x::l,h=>by
  have ih:=abu (l:=l) fun y hy=>h y (dk _ hy);unfold holds at ih ⊢;simp only[p5];rw[ih,h x (dv ..)]
theorem aal:∀(l:List Gh) {S:St} {r:St×List PI},jj C l S=some r→∀t,t∉r.2.flatMap PI.modR
 |[],S,r,hr=>by simp only[jj,bf] at hr;subst hr;simp
 |g::l,S,r,hr=>by
  simp only[jj,az,aG] at hr;obtain⟨q,hq,q2,iS,rfl⟩:=hr;have ih:=aal l iS;have hg:∀t,t∉q.2.flatMap PI.modR:=by
   cases g with
   |fz j=>simp only[Gh.run,bf] at hq;subst hq;simp
   |fbox b=>
    simp only[Gh.run,Cj] at hq;split at hq
    case h_2=>cases hq
    simp only[az] at hq;obtain⟨x,hx,hq⟩:=hq;rename_i ag shs eo;cases ag<;>simp only[cond_true,cond_false] at hq
    ·split at hq
     ·cases hq;simp[PI.modR]
     ·cases hq
    ·cases hq;simp[PI.modR]
   |rereg t j=>
    simp only[Gh.run,wG] at hq;split at hq
    ·rename_i j' ver es;cases hb:(Nat.beq ver (S.ver j')&&mK (S.o j')&& !Nat.beq j' j)<;>simp only[hb,cond_true,cond_false] at hq<;>cases hq<;>simp[PI.modR]
    ·cases hq;simp
   |recell b i j=>
    simp only[Gh.run,EW] at hq;split at hq
    ·split at hq
     ·rename_i ag shs eo j' ver es;cases hb:(Nat.beq ver (S.ver j')&&mK (S.o j')&& !Nat.beq j' j&& !Nat.beq b j&& !Nat.beq b j')<;>simp only[hb,cond_true,cond_false] at hq<;>cases hq<;>simp[PI.modR]
     ·cases hq;simp
    ·cases hq;simp
   |home b i j T=>
    simp only[Gh.run,CX] at hq;split at hq
    ·split at hq
     ·cases hb:(!Nat.beq b j)<;>simp only[hb,cond_true,cond_false] at hq<;>cases hq<;>simp[PI.modR]
     ·cases hq;simp
    ·cases hq;simp
  intro t hm;rw[List.flatMap_append,dj] at hm;exact hm.elim (hg t) (ih t)
theorem aoT (h:Good C w0 σ0 S ρ A a w)(hC:CtxOK C σ0)(bl:dC C)(hΦ:dc C Φ){ops:Array Oper}{o:Oper}(ht:∀d,o.dst=some d→¬A d∧d<a.tmps.size)
 (hj:∀j want t,o.guard=some (j,want)→(ops[j]?).bind (·.dst)=some t→A t) {r:St×List PI} (hr:BP C S ops o=some r) {ρ':Env} (ak:PI.runs Φ r.2 ρ=some ρ')
 {K:Act→World→Prop} {Q:Exit→Act→World→Prop} (hK:∀a' w',Good C w0 σ0 r.1 ρ' (fun u=>A u∨o.dst=some u) a' w'→a'.tmps.size=a.tmps.size→K a' w'):
 if Region.wanted o (yielded ops a.tmps) then o.wp C.P a w K Q else K (a.put o.dst undef) w:=by
 simp only[BP,az] at hr;obtain⟨gs,dF,r1,hZ,r2,qA,r3,vy,hr⟩:=hr;have ya:=aao h dF hj;rw[aap h dF];cases hc:iL gs o.dst r2.2<;>simp only[hc,cond_true,cond_false] at hr
 ·cases hr
 cases hr;simp only[oa,az] at ak;obtain⟨ρ2,⟨ρ1,hρ1,hρ2⟩,hρ3⟩:=ak;have h1:=O2 _ h hZ hρ1;have cE:=h1;obtain⟨σ1,dB,aZ,i1⟩:=cE;have HR:holds gs ρ1=holds gs ρ:=by
  cases gs with
  |nil=>rfl
  |cons g bM=>
   have hb:=(PI.runs_but hρ1).r
   have:∀x,x∈(g::bM)→ρ1.r x.1=ρ.r x.1:=fun x hm=>hb x.1 (by
        intro cU;exact aal _ hZ x.1 cU)
   exact abu this
 cases hh:holds gs ρ with
 |true=>
  simp only[if_true];rw[hh] at HR;refine ao2 i1 hC bl hΦ ht ya HR qA ρ2 hρ2 K Q (fun a' w' fu aS=>?_);exact hK a' w' (O2 (r:=r3) _ fu vy hρ3) aS
 |false=>
  simp only[uB,if_false];rw[hh] at HR;cases gs with
  |nil=>simp[holds] at hh
  |cons g bM=>
   obtain⟨dst,S2,s,hd,hS,xP,hns,n1,n2,n3⟩:=ao0 qA;obtain⟨t1,t2⟩:=ht dst hd;have jO:post C r2.1 o=[]:=by
        unfold post;split
        ·rename_i x t e _;exact absurd e (n1 x)
        ·rename_i T t e _;exact absurd e (n2 T)
        ·rename_i T x v e;exact absurd e (n3 T x v)
        ·rfl
   rw[jO] at vy;simp only[jj,bf] at vy;subst vy;have:=mX hρ3;subst this;obtain⟨σ2,ij,i2⟩:∃σ2 ij,Inv C S2 ρ1 σ2 ij aZ w0 σ0 A a w:=by
        rcases xP with⟨js,rfl⟩|⟨j,rfl⟩
        ·obtain⟨σ2,ij,_,i2⟩:=Inv.fzs js i1;exact⟨σ2,ij,i2⟩
        ·exact⟨σ1,dB,i1.kill j⟩
   have C0:=i2.passed t1 t2 ya HR (s:=s) hns (ρ'.r dst);have hρe:ρ1.setR dst (ρ'.r dst)=ρ':=by
        have hb:=PI.runs_but hρ2;simp only[iL,hd] at hc;unfold af3 at hc;rw[bK] at hc
        have e1:∀t,t≠dst→ρ'.r t=ρ1.r t:=fun t aJ=>hb.r t (fun hm=>by
         obtain⟨p,hp,tu⟩:=mg.1 hm;have:=hc p hp;simp only[ar] at this;have:=bK.1 this.1 t tu;exact aJ (aL this).symm)
        have e2:∀t,ρ'.o t=ρ1.o t:=fun t=>hb.o t (fun hm=>by
         obtain⟨p,hp,tu⟩:=mg.1 hm;have:=hc p hp;simp only[ar] at this;have h9:=rh.1 this.2;rw[h9] at tu;cases tu)
        have r1:bY ρ1.r dst (ρ'.r dst)=ρ'.r:=by
         funext t;rw[fS];split
         ·rename_i e;subst e;rfl
         ·rename_i aJ;exact(e1 t aJ).symm
        have r2:ρ1.o=ρ'.o:=funext fun t=>(e2 t).symm;cases ρ' with|mk a b=>simp only[Env.setR] at r1 r2 ⊢;rw[r1,r2]
   rw[hρe] at C0;have jo:(fun u=>A u∨o.dst=some u)=(fun u=>A u∨u=dst):=by funext u;rw[hd];simp[eq_comm]
   rw[jo] at hK;rw[hd];refine hK _ _ ?_ (size_put _ _ _);simp only;rw[hS];exact⟨_,_,_,C0⟩
theorem aoV (h:Good C w0 σ0 S ρ A a w)(hC:CtxOK C σ0)(bl:dC C)(hΦ:dc C Φ){ops:Array Oper}{o:Oper}(ht:∀d,o.dst=some d→¬A d∧d<a.tmps.size)
 (hj:∀j want t,o.guard=some (j,want)→(ops[j]?).bind (·.dst)=some t→A t) {r:St×List PI} (hr:xz C S ops o=some r) {ρ':Env} (ak:PI.runs Φ r.2 ρ=some ρ')
 {K:Act→World→Prop} {Q:Exit→Act→World→Prop} (hK:∀a' w',Good C w0 σ0 r.1 ρ' (fun u=>A u∨o.dst=some u) a' w'→a'.tmps.size=a.tmps.size→K a' w'):
 if Region.wanted o (yielded ops a.tmps) then o.wp C.P a w K Q else K (a.put o.dst undef) w:=by
 unfold xz at hr;split at hr
 ·rename_i q hq;cases hr;exact aoT h hC bl hΦ ht hj hq ak hK
 ·cases hr;simp[PI.runs,PI.run,Fb,PE.ev,D.b_bool] at ak
end
end Cx
namespace Cx
open Go Go.RowKit
def nL:Op→Bool
 |.defer _=>false
 |_=>true
def FR (rd:Option Nat):Fence:={Fence.wide with round:=rd}
theorem YK {rd:Option Nat}{n:Nat}{P:Program}{f:FuncId}{args:Array Value}{w:World}{R:Ending→World→Prop}(h:Calls P f args w R):CallsIn (FR rd) n P f args w R:=
 (callsIn_wide (n:=n)).2 h
theorem af9 {rd:Option Nat}{n:Nat}{P:Program}{o:Oper}{a:Act}{w:World}{K:Act→World→Prop}{Q:Exit→Act→World→Prop}(bo:nL o.op=true)(h:o.wp P a w K Q):o.wpIn (FR rd) n P a w K Q:=by
 refine⟨fun _ _=>trivial,?_⟩;rw[Oper.semAt_eq _ _ _ (fun c e=>by rw[e] at bo;cases bo)];unfold Oper.wp at h;generalize (execOp a.eval o).run P w=x at h;have dY:∀{p:Prop},((FR rd).depth.isSome=true→p):=fun e=>by cases e
 cases x with
 |ok v w'=>
  cases v with
  |value v=>exact h
  |skip=>exact h
  |defer d=>exact h
  |enter f args=>
   refine⟨dY,(YK h).mono fun e jX hh=>?_⟩;cases e<;>exact hh
  |row row args=>
   refine⟨dY,fun c cs _=>?_⟩;obtain⟨v,w2,h1,h2⟩:=h c cs;exact⟨v,w2,h1,stepsIn_wide.2 h2⟩
  |_=>exact h.elim
 |halt v w'=>
  cases v with
  |panic v=>exact h
  |_=>exact h.elim
structure SameBut (D:Nat→Prop) (a a':Act):Prop where
 size:a'.tmps.size=a.tmps.size
 get:∀t,¬D t→a'.tmps.getD t undef=a.tmps.getD t undef
theorem SameBut.refl (D:Nat→Prop)(a:Act):SameBut D a a:=⟨rfl,fun _ _=>rfl⟩
theorem SameBut.trans {D:Nat→Prop}{a b c:Act}(h:SameBut D a b)(k:SameBut D b c):SameBut D a c:=⟨k.size.trans h.size,fun t ht=>(k.get t ht).trans (h.get t ht)⟩
theorem SameBut.mono {D D':Nat→Prop}{a b:Act}(h:SameBut D a b)(hd:∀t,D t→D' t):SameBut D' a b:=⟨h.size,fun t ht=>h.get t fun e=>ht (hd t e)⟩
theorem SameBut.put (a:Act)(d:Option Tmp)(v:Value)(ds:List Deferred):SameBut (fun t=>d=some t) a ({a with defers:=ds}.put d v):=by
 refine⟨size_put _ _ _,fun t ht=>?_⟩;cases d with
 |none=>rfl
 |some u=>
  have:t≠u:=fun e=>ht (by rw[e]);rw[Ff];simp[this]
theorem Oper.wp_same {P:Program}{o:Oper}{a:Act}{w:World}{K:Act→World→Prop}{Q:Exit→Act→World→Prop}(h:o.wp P a w (fun a' w'=>SameBut (fun t=>o.dst=some t) a a'→K a' w') Q):o.wp P a w K Q:=by
 unfold Oper.wp at h ⊢;generalize (execOp a.eval o).run P w=x at h ⊢;cases x with
 |ok v w'=>
  cases v with
  |value v=>exact h (SameBut.put a _ _ a.defers)
  |skip=>exact h (SameBut.put a _ _ a.defers)
  |defer d=>exact h (SameBut.put a _ _ _)
  |enter f args=>
   refine Calls.mono h fun e jX hh=>?_;cases e with
   |returned v=>exact hh (SameBut.put a _ _ a.defers)
   |panicked c=>exact hh
   |outgrown=>exact hh
  |row row args=>exact Rows.mono h fun v jX hh=>hh (SameBut.put a _ _ a.defers)
  |_=>exact h
 |halt v w'=>
  cases v with
  |panic v=>exact h
  |_=>exact h
def X1 (P:Program)(v:Value)(args:List Value)(w:World)(R:Value→World→Prop):Prop:=
 ∀(rd:Option Nat) (o:Oper) (a:Act) (x:Operand) (aa:Array Operand) (ts:Array TypeId) (K:Act→World→Prop) (Q:Exit→Act→World→Prop),
  o.op=.call {callee:=.value x,args:=aa,argTypes:=ts}→a.eval x=v→aa.toList.map a.eval=args→(∀u w',R u w'→K (a.put o.dst u) w')→o.wpIn (FR rd) 0 P a w K Q
def mc:Nat:=1000000009
def oG (C:Ctx)(Φ:aV)(w0:World)(σ0:Base):Prop:=∀J ys,C.yl=some (J,ys)→σ0.B=0∧(∀t fx cx w,σ0.F t fx cx w→∃xs,t=.list xs)∧
 ∀(xs ds':List D) (d:D),Φ mc [.list (xs++[.tup ds'])]=some d→∀(fx cx:Nat→Prop) (w1:World) (σ1:Im) (args:List Value),σ0.F (.list xs) fx cx w1→σ1.ok w1→pX C σ1 ys args ds'→
  (∀k o x,σ1.c k o=some x→¬cx k)→(∀k x,σ1.m k=some x→¬cx k)→
  (∀k o x,σ1.c k o=some x→σ0.c k o=some x∨w0.heap.size≤k)→(∀k x,σ1.m k=some x→σ0.m k=some x∨w0.heap.size≤k)→
  X1 C.P C.yv args w1 fun u w2=>∃b,d=.v (.bool b)∧u=.bool b∧Below 0 w1 w2∧(∀k,k<w1.heap.size→¬cx k→w2.heap[k]?=w1.heap[k]?)∧
   ∃mw jG,σ0.F (.list (xs++[.tup ds'])) mw jG w2∧(∀k,mw k→k<w1.heap.size→fx k∨(∃o x,σ1.c k o=some x)∨(∃x,σ1.m k=some x∧x≠cM))∧(∀k,jG k→k<w1.heap.size→cx k)
def MF (gs:List (Nat×Bool))(J:Nat)(x:PE):PE:=
 match gs with
 |[]=>.app (.o J) (.lst [x])
 |_=>.pick (.nt (.imp gs (.con (.v (.bool false))))) (.app (.o J) (.lst [x])) (.o J)
def xA (C:Ctx)(S:St)(ops:Array Oper)(o:Oper):Option (St×List PI):=
 match o.dst,o.op,C.yl with
 |some dst,.call {callee:=.value (.tmp t),args:=args,..},some (J,ys)=>
  (oV S ops o).bind fun gs=>
    match kA S gs t with
    |.yv=>
     match(S.fzs (cg S gs args.toList)).o J with
     |.tr=>
      (ld C (S.fzs (cg S gs args.toList)) gs args.toList).bind fun u=>
        bif Ty.subs u.1 ys then some ((S.fzs (cg S gs args.toList)).setR dst (iK gs (.dat .bool)),[.setO J (MF gs J (.tup u.2)),.call gs dst mc [.o J]]) else none
     |_=>none
    |_=>none
 |_,_,_=>none
def oN (C:Ctx)(S:St)(ops:Array Oper)(o:Oper):Option (St×List PI):=
 match xA C S ops o with
 |some r=>some r
 |none=>xz C S ops o
section
variable {C:Ctx} {S:St} {ρ:Env} {σ:Im} {own:Nat→Option Nat} {hv:Nat→Value} {w0:World} {σ0:Base} {A:Nat→Prop} {a:Act} {w:World} {gs:List (Nat×Bool)} {Φ:aV} {dst:Nat}
theorem aCA (gs:List (Nat×Bool))(J:Nat)(x:PE)(ρ:Env):(MF gs J x).ev ρ=if holds gs ρ=true then .list ((ρ.o J).l++[x.ev ρ]) else ρ.o J:=by
 cases gs with
 |nil=>simp[MF,PE.ev,PE.evs,holds,D.l_list]
 |cons g gs=>
  simp only[MF,PE.ev,PE.evs,D.b_bool,D.l_list,wW,Bool.not_not];cases holds (g::gs) ρ<;>rfl
theorem Inv.yielded (h:Inv C S ρ σ own hv w0 σ0 A a w)(hB:σ0.B=0){J:Nat}{ys:List Ty}(hJ:C.yl=some (J,ys))(Hz:S.o J=.tr){w2:World}(hb:Below 0 w w2){t:D}{fx cx:Nat→Prop}(hf:FrOK σ own w0.heap.size σ0 w t fx cx)
 (hs:∀k,k<w.heap.size→¬cx k→w2.heap[k]?=w.heap[k]?) {t':D} {mw jG:Nat→Prop} (hF:σ0.F t' mw jG w2)
 (h1:∀k,mw k→k<w.heap.size→fx k∨(∃o x,σ.c k o=some x)∨(∃x,σ.m k=some x∧x≠cM)) (h2:∀k,jG k→k<w.heap.size→cx k):Inv C S (ρ.setO J t') σ own hv w0 σ0 A a w2:=by
 have cl:=σ0.sub _ _ _ _ hf.F;have eX:∀k o x,σ.c k o=some x→w2.heap[k]?=w.heap[k]?:=fun k o x e=>hs k (h.lt e) (hf.c k o x e);have ye:∀k x,σ.m k=some x→w2.heap[k]?=w.heap[k]?:=fun k x e=>hs k (h.ltm e) (hf.m k x e);have P8:∀k j,own k=some j→w2.heap[k]?=w.heap[k]?:=fun k j e=>hs k (h.owns k j e).2.1 fun hc=>hf.own k j e (cl k hc)
 refine⟨h.defers,⟨fun k o v e=>by rw[World.cell?_of_block (eX k o v e)];exact h.ok.c k o v e,fun k x e=>(h.ok.m k x e).keep (ye k x e)⟩,h.le,h.old,h.newc,h.newm,h.below.trans (hb.mono (by omega)),h.bw,
  fun k j e=>let⟨g1,g2,g3⟩:=h.owns k j e;⟨g1,uK g2 hb.size,g3⟩,fun u=>aQ.mono (S:=S) (ρ:=ρ) (ρ':=ρ.setO J t') (.refl σ) (.refl S hv) (d:=ρ.r u) (fun _ _ _=>rfl) (fun gs s e=>(h.opts u gs s e).2) (h.regs u),fun j=>?_,h.opts,
  t',mw,jG,⟨hF,fun k j e hk=>?_,fun k o x e hc=>hf.c k o x e (h2 k hc (h.lt e)),fun k x e hc=>hf.m k x e (h2 k hc (h.ltm e)),fun k e O6 hk=>?_⟩,fun j hj=>?_⟩
 ·by_cases yc:j=J
  ·subst yc;rw[Hz];trivial
  ·exact(h.objs j).mono (.refl σ) (.refl S hv) rfl (by simp[Env.setO,bA _ _ yc]) (fun k e=>⟨e,P8 k j e⟩)
 ·obtain⟨_,g2,g3,g4⟩:=h.owns k j e;rcases h1 k hk g2 with e1|⟨o,x,e1⟩|⟨x,e1,_⟩
  ·exact hf.own k j e e1
  ·rw[g3 o] at e1;cases e1
  ·rw[g4] at e1;cases e1
 ·rcases h1 k hk (h.ltm e) with e1|⟨o,x,e1⟩|⟨x,e1,e2⟩
  ·exact hf.d k e O6 e1
  ·have c1:=h.ok.c k o x e1;rcases h.ok.m k _ e with⟨m1,_⟩|⟨_,m2⟩
   ·exact m1 rfl
   ·simp[World.cell?,m2] at c1
  ·rw[e] at e1;cases e1;exact e2 rfl
 ·obtain⟨_,_,_,_,ht⟩:=h.frame;obtain⟨⟨ys',e1⟩,_⟩:=ht j hj;rw[hJ] at e1;cases e1;exact⟨⟨_,hJ⟩,aW _ _ _⟩
theorem aoW {rd:Option Nat}(h:Good C w0 σ0 S ρ A a w)(hC:CtxOK C σ0)(hY:oG C Φ w0 σ0){ops:Array Oper}{o:Oper}(ht:∀d,o.dst=some d→¬A d∧d<a.tmps.size)
 (hj:∀j want t,o.guard=some (j,want)→(ops[j]?).bind (·.dst)=some t→A t) {r:St×List PI} (hr:xA C S ops o=some r) {ρ':Env} (ak:PI.runs Φ r.2 ρ=some ρ')
 {K:Act→World→Prop} {Q:Exit→Act→World→Prop} (hK:∀a' w',Good C w0 σ0 r.1 ρ' (fun u=>A u∨o.dst=some u) a' w'→SameBut (fun t=>o.dst=some t) a a'→K a' w'):
 if Region.wanted o (yielded ops a.tmps) then o.wpIn (FR rd) 0 C.P a w K Q else K (a.put o.dst undef) w:=by
 unfold xA at hr;split at hr
 case h_2=>cases hr
 rename_i _ _ dst t args ts J ys hd bO jR;simp only[az] at hr;obtain⟨gs,dF,hr⟩:=hr;split at hr
 case h_2=>cases hr
 rename_i Df;split at hr
 case h_2=>cases hr
 rename_i Hz;simp only[az] at hr;obtain⟨u,hu,hr⟩:=hr;cases cl:Ty.subs u.1 ys<;>simp only[cl,cond_true,cond_false] at hr
 ·cases hr
 cases hr;have ya:=aao h dF hj;rw[aap h dF];obtain⟨σ,own,hv,i⟩:=h;obtain⟨σ1,dB,hle,i1⟩:=Inv.fzs (cg S gs args.toList) i;obtain⟨t1,t2⟩:=ht dst hd;have jo:(fun u=>A u∨o.dst=some u)=(fun u=>A u∨u=dst):=by funext u;rw[hd];simp[eq_comm]
 rw[jo] at hK;simp only[PI.runs,PI.run,kF,aCA,az] at ak;cases hh:holds gs ρ with
 |false=>
  simp only[hh,uB,if_false] at ak ⊢;have e1:ρ.setO J (ρ.o J)=ρ:=by
   cases ρ with|mk r o=>simp only[Env.setO];congr 1;funext x;rw[fS];split<;>simp_all
  rw[e1,hh] at ak;obtain⟨ρ1,e2,e3⟩:=ak;cases e2;cases e3;cases gs with
  |nil=>simp[holds] at hh
  |cons g bM=>
   have C0:=i1.passed t1 t2 ya hh (s:=.dat .bool) (fun _ _ e=>by cases e) (ρ.r dst);have e4:ρ.setR dst (ρ.r dst)=ρ:=by
        cases ρ with|mk r o=>simp only[Env.setR];congr 1;funext x;rw[fS];split<;>simp_all
   rw[e4] at C0;rw[hd];exact hK _ _ ⟨_,_,_,C0⟩ (by rw[hd];exact SameBut.put a (some dst) undef a.defers)
 |true=>
  simp only[hh,if_true] at ak ⊢;have jk:=MV i1 hC hh hu cl;obtain⟨tr,fx,cx,hf,rM⟩:=i1.frame;obtain⟨_,hρJ⟩:=rM J Hz;obtain⟨hB,auV,QI⟩:=hY J ys jR;obtain⟨xs,rfl⟩:=auV _ _ _ _ hf.F;rw[hρJ] at ak;simp only[D.l_list,PE.ev] at ak;obtain⟨ρ1,e2,e3⟩:=ak;cases e3;have hh2:holds gs (ρ.setO J (.list (xs++[.tup (PE.evs ρ u.2)])))=true:=hh;rw[hh2] at e2;simp only[cond_true,PE.evs,PE.ev,Env.setO,aW,aG] at e2;obtain⟨d,e4,e5⟩:=e2;have hy:=QI xs (PE.evs ρ u.2) d e4 fx cx w σ1 (args.toList.map a.eval) hf.F i1.ok jk hf.c hf.m i1.newc i1.newm;have cA:a.eval (.tmp t)=C.yv:=by
   have:=(oe i hh t).1;rw[Df] at this;have h9:a.tmps.getD t undef=C.yv:=this;simpa [Act.eval] using h9
  refine hy rd o a (.tmp t) args ts K Q bO cA rfl fun v w2 jO=>?_;obtain⟨b,rfl,rfl,hb,hs,mw,jG,hF,h1,h2⟩:=jO;have i2:=i1.yielded hB jR Hz hb hf hs hF h1 h2;refine hK _ _ ?_ (SameBut.put a _ _ a.defers);rw[hd,←e5];change Good C w0 σ0 _ ((ρ.setO J (.list (xs++[.tup (PE.evs ρ u.2)]))).setR dst (.v (.bool b))) _ _ _;have hh3:holds gs ((ρ.setO J (.list (xs++[.tup (PE.evs ρ u.2)]))).setR dst (.v (.bool b)))=true:=by
   rw[CW (t:=dst) fun g hm e=>t1 (by rw[←e];exact ya g hm)];exact hh2
  cases gs with
  |nil=>exact⟨_,_,_,i2.setReg t1 (s:=.dat .bool) (.bool b) t2 (fun _ _ e=>by cases e)⟩
  |cons g bM=>
   refine⟨_,_,_,i2.setReg t1 (s:=.opt (g::bM) (.dat .bool)) ⟨fun _=>.bool b,fun e=>absurd (hh3.symm.trans e) (by decide)⟩ t2 (fun gs s e=>?_)⟩;cases e;exact⟨ya,fun _ _ e=>by cases e⟩
theorem Hb {rd:Option Nat}(h:Good C w0 σ0 S ρ A a w)(hC:CtxOK C σ0)(bl:dC C)(hΦ:dc C Φ)(hY:oG C Φ w0 σ0){ops:Array Oper}{o:Oper}(bo:nL o.op=true)(ht:∀d,o.dst=some d→¬A d∧d<a.tmps.size)
 (hj:∀j want t,o.guard=some (j,want)→(ops[j]?).bind (·.dst)=some t→A t) {r:St×List PI} (hr:oN C S ops o=some r) {ρ':Env} (ak:PI.runs Φ r.2 ρ=some ρ')
 {K:Act→World→Prop} {Q:Exit→Act→World→Prop} (hK:∀a' w',Good C w0 σ0 r.1 ρ' (fun u=>A u∨o.dst=some u) a' w'→SameBut (fun t=>o.dst=some t) a a'→K a' w'):
 if Region.wanted o (yielded ops a.tmps) then o.wpIn (FR rd) 0 C.P a w K Q else K (a.put o.dst undef) w:=by
 unfold oN at hr;split at hr
 ·rename_i q hq;cases hr;exact aoW h hC hY ht hj hq ak hK
 ·have:=aoV (K:=fun a' w'=>SameBut (fun t=>o.dst=some t) a a'→K a' w') (Q:=Q) h hC bl hΦ ht hj hr ak (fun a' w' g _ hs=>hK a' w' g hs);split
  ·rename_i hw;rw[if_pos hw] at this;exact af9 bo (Oper.wp_same this)
  ·rename_i hw;rw[if_neg hw] at this;exact this (SameBut.put a _ _ a.defers)
end
def nq (C:Ctx)(ops:Array Oper):List Nat→St→Option (St×List PI)
 |[],S=>some (S,[])
 |i::l,S=>
  match ops[i]? with
  |some o=>(oN C S ops o).bind fun r=>(nq C ops l r.1).map fun q=>(q.1,r.2++q.2)
  |none=>none
def qV (n:Nat)(ops:Array Oper):Bool:=
 jx (ops.toList.filterMap (·.dst))&&ops.toList.all fun o=>nL o.op&&match o.dst with|some d=>Nat.blt d n|none=>true
section
variable {C:Ctx} {S:St} {ρ:Env} {σ:Im} {own:Nat→Option Nat} {hv:Nat→Value} {w0:World} {σ0:Base} {A:Nat→Prop} {a:Act} {w:World} {gs:List (Nat×Bool)} {Φ:aV} {dst:Nat}
def la (ops:Array Oper)(done:List Nat):Nat→Prop:=fun t=>∃i o,i∈done∧ops[i]?=some o∧o.dst=some t
theorem uT.dst_once {ops:Array Oper}(bo:(ops.toList.filterMap (·.dst)).Nodup){i j:Nat}{o o':Oper}{d:Nat}(hi:ops[i]?=some o)(hj:ops[j]?=some o')(hd:o.dst=some d)(fq:o'.dst=some d)(aJ:i≠j):False:=by
 have key:∀(l:List Oper),(l.filterMap (·.dst)).Nodup→∀(i j:Nat) (o o':Oper),l[i]?=some o→l[j]?=some o'→o.dst=some d→o'.dst=some d→i=j:=by
  intro l
  induction l with
  |nil=>intro _ i j o o' hi;simp at hi
  |cons x l ih=>
   intro bo i j o o' hi hj hd fq;have cU:∀(k:Nat) (y:Oper),l[k]?=some y→y.dst=some d→d∈l.filterMap (·.dst):=fun k y hk hy=>sF.2 ⟨y,mh hk,hy⟩;cases hx:x.dst with
   |none=>
    rw[List.filterMap_cons_none hx] at bo;cases i with
    |zero=>simp at hi;subst hi;rw[hx] at hd;cases hd
    |succ i=>
     cases j with
     |zero=>simp at hj;subst hj;rw[hx] at fq;cases fq
     |succ j=>simp at hi hj;rw[ih bo i j o o' hi hj hd fq]
   |some y=>
    rw[List.filterMap_cons_some hx,ng] at bo;cases i with
    |zero=>
     simp at hi;subst hi;rw[hx] at hd;cases hd;cases j with
     |zero=>rfl
     |succ j=>simp at hj;exact absurd (cU j o' hj fq) bo.1
    |succ i=>
     cases j with
     |zero=>
      simp at hj;subst hj;rw[hx] at fq;cases fq;simp at hi;exact absurd (cU i o hi hd) bo.1
     |succ j=>simp at hi hj;rw[ih bo.2 i j o o' hi hj hd fq]
 exact aJ (key ops.toList bo i j o o' (by simpa using hi) (by simpa using hj) hd fq)
def qg (ops:Array Oper):Nat→Prop:=fun t=>∃o,o∈ops.toList∧o.dst=some t
theorem uT (hC:CtxOK C σ0)(bl:dC C)(hΦ:dc C Φ)(hY:oG C Φ w0 σ0){ops:Array Oper}{n:Nat}(aH:qV n ops=true){rd:Option Nat}{Q:Exit→Act→World→Prop}:
 ∀(l done:List Nat) {S:St} {ρ ρ':Env} {a:Act} {w:World} {r:St×List PI},(done++l).Nodup→(∀p i q o j want,l=p++i::q→ops[i]?=some o→o.guard=some (j,want)→j∈done++p)→
  a.tmps.size=n→Good C w0 σ0 S ρ (la ops done) a w→nq C ops l S=some r→PI.runs Φ r.2 ρ=some ρ'→
  (∀a' w',SameBut (qg ops) a a'→Good C w0 σ0 r.1 ρ' (la ops (done++l)) a' w'→Q .normal a' w')→wpOpsIn (FR rd) 0 C.P ops Q l a w:=by
 simp only[qV,ar] at aH;have bo:=mQ aH.1;intro l
 induction l with
 |nil=>
  intro done S ρ ρ' a w r _ _ aS h hr ak hQ;simp only[nq,bf] at hr;subst hr;rw[mX ak] at hQ;simp only[wpOpsIn];exact hQ a w (.refl _ _) (by simpa using h)
 |cons i l ih=>
  intro done S ρ ρ' a w r Pq jM aS h hr ak hQ;simp only[nq] at hr;split at hr
  case h_2=>cases hr
  rename_i o ho;simp only[az,aG] at hr;obtain⟨r1,hZ,q,hq,rfl⟩:=hr;simp only[oa,az] at ak;obtain⟨ρ1,hρ1,hρ2⟩:=ak;have vi:∀d,o.dst=some d→¬la ops done d∧d<a.tmps.size:=by
   intro d hd;refine⟨fun⟨i',o',cZ,dP,fq⟩=>?_,?_⟩
   ·
        have aJ:i'≠i:=by
         intro e;subst e;rw[Ae] at Pq;exact Pq.2.2 i' cZ i' (dv ..) rfl
        exact uT.dst_once bo dP ho fq hd aJ
   ·have:=bK.1 aH.2 o (by
     have:=gz ho;simpa using this)
    simp only[hd,ar] at this;rw[aS];simpa [ix] using this.2
  have hj:∀j want t,o.guard=some (j,want)→(ops[j]?).bind (·.dst)=some t→la ops done t:=by
   intro j want t hg ht;have:=jM [] i l o j want rfl ho hg;simp only[mf] at this;rw[az] at ht;obtain⟨oj,h1,h2⟩:=ht;exact⟨j,oj,this,h1,h2⟩
  have jq:nL o.op=true:=by
   have:=bK.1 aH.2 o (by simpa using gz ho);simp only[ar] at this;exact this.1
  have main:=Hb (rd:=rd) (K:=wpOpsIn (FR rd) 0 C.P ops Q l) (Q:=Q) h hC bl hΦ hY jq vi hj hZ hρ1 (fun a' w' fu ec=>by
   have qD:=ec.size;refine ih (done++[i]) (by simpa using Pq) (fun p i' q' o' j want e dP auw=>?_) (qD.trans aS) ?_ hq hρ2 (fun a2 w2 s2 g2=>hQ a2 w2 ((ec.mono fun t e=>⟨o,by simpa using gz ho,e⟩).trans s2) (by simpa using g2))
   ·have:=jM (i::p) i' q' o' j want (by rw[e];rfl) dP auw;simpa using this
   ·have:(fun u=>la ops done u∨o.dst=some u)=la ops (done++[i]):=by
     funext u;apply propext;constructor
     ·rintro(⟨i',o',h1,h2,h3⟩|h1)
      ·exact⟨i',o',by simp[h1],h2,h3⟩
      ·exact⟨i,o,by simp,ho,h1⟩
     ·rintro⟨i',o',h1,h2,h3⟩;rcases dj.1 h1 with h4|h4
      ·exact .inl ⟨i',o',h4,h2,h3⟩
      ·simp at h4;subst h4;rw[ho] at h2;cases h2;exact .inr h3
    rw[←this];exact fu)
  simp only[wpOpsIn,ho];split
  ·rename_i hw;rw[if_pos hw] at main;exact main
  ·rename_i hw;rw[if_neg hw] at main;exact⟨fun _ _=>trivial,main⟩
end
end Cx
