/-
  Shared texts of this claim.
-/
import Derived.Test.YtepfoekldooaeaaGreatDoorKAC
set_option linter.unusedSimpArgs false
set_option linter.unusedVariables false
namespace Cx
open Go Go.RowKit
open Classical in
noncomputable def Im.noM (σ:Im):Im:=⟨σ.c,fun k=>if σ.m k=some cI then none else σ.m k⟩
theorem Rep.noM {cap:Nat→Option CSig}{σ:Im}{t:Ty}{v:Value}{d:D}(h:Rep cap σ t v d):Rep cap σ.noM t v d:=by
 induction h with
 |int k n h1 h2=>exact .int k n h1 h2
 |bool b=>exact .bool b
 |str s h=>exact .str s h
 |agg ts vs ds h1 h2 _ ho ih=>exact .agg ts vs ds h1 h2 ih ho
 |tup ts vs ds h1 h2 _ ih=>exact .tup ts vs ds h1 h2 ih
 |nil e=>exact .nil e
 |emp e a=>exact .emp e a
 |nils e=>exact .nils e
 |nsl0 e=>exact .nsl0 e
 |nsl e k o n c xs _ hx ih=>exact .nsl e k o n c xs ih hx
 |slice e k o n c xs vs hn hc hm _ hv ih=>exact .slice e k o n c xs vs hn hc hm ih hv
 |mapnil kt et=>exact .mapnil kt et
 |map kt et r iQ es hm hl hx hk _ jP CD=>
  refine .map kt et r iQ es ?_ hl hx jP CD;have aE:σ.m r≠some cI:=fun e=>by rw[hm] at e;cases e;exact CW hl hk rfl
  simp only[Im.noM,if_neg aE,hm]
 |ref t k o v d _ hv ih=>exact .ref t k o v d ih hv
 |fn f cs vs ds hc h1 h2 _ ih=>exact .fn f cs vs ds hc h1 h2 ih
 |fnnil as r=>exact .fnnil as r
def Im.plus (σ τ:Im):Im:=⟨fun k o=>(σ.c k o).or (τ.c k o),fun k=>(σ.m k).or (τ.m k)⟩
theorem Im.plus_le1 (σ τ:Im):σ.le (σ.plus τ):=⟨fun k o v h=>by simp[Im.plus,h],fun k v h=>by simp[Im.plus,h]⟩
theorem qe.det {w:World}{k:Nat}{x y:List (Value×Value)}(h:qe w k x)(g:qe w k y):x=y:=by
 rcases h with⟨_,a,c,h1,h2⟩|⟨h1,h2⟩<;>rcases g with⟨_,a',c',g1,g2⟩|⟨g1,g2⟩
 ·rw[h1] at g1;cases g1;rw[←h2,←g2]
 ·rw[h1] at g2;cases g2
 ·rw[h2] at g1;cases g1
 ·rw[h1,g1]
theorem Im.plus_le2 {σ τ:Im}{w:World}(h:σ.ok w)(g:τ.ok w):τ.le (σ.plus τ):=by
 refine⟨fun k o v e=>?_,fun k v e=>?_⟩
 ·show(σ.c k o).or (τ.c k o)=some v;cases hc:σ.c k o with
  |none=>simpa using e
  |some u=>have:=(h.c k o u hc).symm.trans (g.c k o v e);simpa using this
 ·show(σ.m k).or (τ.m k)=some v;cases hc:σ.m k with
  |none=>simpa using e
  |some u=>simpa using(h.m k u hc).det (g.m k v e)
theorem Im.plus_ok {σ τ:Im}{w:World}(h:σ.ok w)(g:τ.ok w):(σ.plus τ).ok w:=by
 refine⟨fun k o v e=>?_,fun k v e=>?_⟩
 ·change (σ.c k o).or (τ.c k o)=some v at e;cases hc:σ.c k o with
  |none=>rw[hc] at e;exact g.c k o v (by simpa using e)
  |some u=>rw[hc] at e;simp at e;subst e;exact h.c k o u hc
 ·change (σ.m k).or (τ.m k)=some v at e;cases hc:σ.m k with
  |none=>rw[hc] at e;exact g.m k v (by simpa using e)
  |some u=>rw[hc] at e;simp at e;subst e;exact h.m k u hc
theorem Im.plus_c {σ τ:Im}{k o:Nat}{v:Value}(h:(σ.plus τ).c k o=some v):σ.c k o=some v∨τ.c k o=some v:=by
 change (σ.c k o).or (τ.c k o)=some v at h;cases hc:σ.c k o with
 |none=>rw[hc] at h;exact .inr (by simpa using h)
 |some u=>rw[hc] at h;exact .inl (by simpa using h)
theorem Im.plus_m {σ τ:Im}{k:Nat}{v:List (Value×Value)}(h:(σ.plus τ).m k=some v):σ.m k=some v∨τ.m k=some v:=by
 change (σ.m k).or (τ.m k)=some v at h;cases hc:σ.m k with
 |none=>rw[hc] at h;exact .inr (by simpa using h)
 |some u=>rw[hc] at h;exact .inl (by simpa using h)
def Ty.pureT:Ty→Bool
 |.int _|.bool|.str|.nils _=>true
 |_=>false
def Ty.pure:Ty→Bool
 |.tup ts=>ts.all Ty.pureT
 |.agg ts=>ts.all Ty.pureT
 |t=>Ty.pureT t
theorem Rep.pureT {cap:Nat→Option CSig}{σ τ:Im}{t:Ty}{v:Value}{d:D}(h:Rep cap σ t v d)(hp:t.pureT=true):Rep cap τ t v d:=by
 cases h<;>simp[Ty.pureT] at hp<;>constructor<;>assumption
theorem Rep.pure {cap:Nat→Option CSig}{σ τ:Im}{t:Ty}{v:Value}{d:D}(h:Rep cap σ t v d)(hp:t.pure=true):Rep cap τ t v d:=by
 cases h with
 |agg ts vs ds h1 h2 h ho=>exact .agg ts vs ds h1 h2 (fun i t hi=>(h i t hi).pureT (List.all_eq_true.1 hp t (List.mem_of_getElem? hi))) ho
 |tup ts vs ds h1 h2 h=>exact .tup ts vs ds h1 h2 (fun i t hi=>(h i t hi).pureT (List.all_eq_true.1 hp t (List.mem_of_getElem? hi)))
 |int k n h1 h2=>exact .int k n h1 h2
 |bool b=>exact .bool b
 |str s h=>exact .str s h
 |nils e=>exact .nils e
 |_=>simp[Ty.pure,Ty.pureT] at hp
def py (C:Ctx)(s:Sig)(σ':Im)(w w':World)(v:Value)(d:D):Prop:=
 match s.mode with
 |.dat=>Rep C.cap σ' s.res v d
 |.it _=>True
 |.ob ..=>True
 |.row T e=>∃cells xs,d=.list xs∧w'.ownsRow w.heap.size T e.size v xs.length cells∧gm C.cap σ' e cells xs∧∀k,v.ownBlock=some k→(∀o,σ'.c k o=none)∧σ'.m k=none
def pw (C:Ctx)(σ:Im)(ts:List Ty)(args:List Value)(ds:List D):Prop:=
 args.length=ts.length∧ds.length=ts.length∧∀(i:Nat) (t:Ty),ts[i]?=some t→Rep C.cap σ t (args.getD i undef) (ds.getD i .none)
def jA (C:Ctx)(f:Nat)(s:Sig)(ds:List D)(d:D):Prop:=
 ∀(σ:Im) (w:World) (args:Array Value),σ.ok w→CtxOK C σ→pw C σ s.args args.toList ds→
  Calls C.P f args w fun e w'=>∃v σ',e=.returned v∧σ.le σ'∧σ'.ok w'∧Below w.heap.size w w'∧
   (∀k o x,σ'.c k o=some x→σ.c k o=some x∨w.heap.size≤k)∧(∀k x,σ'.m k=some x→σ.m k=some x∨w.heap.size≤k)∧py C s σ' w w' v d
def dP:List (Nat×Ob)→Nat→Ob
 |[],_=>.dead
 |x::l,j=>bif Nat.beq x.1 j then x.2 else dP l j
def mO:List (Nat×Ob)→List D→Nat→D
 |x::l,d::ds,j=>bif Nat.beq x.1 j then d else mO l ds j
 |_,_,_=>.none
def fo (shs:List Sh)(obs:List (Nat×Ob)):St:=⟨fun t=>shs.getD t .none,fun j=>dP obs j,fun _=>0⟩
def lD (obs:List (Nat×Ob))(ds os:List D):Env:=⟨fun t=>ds.getD t .none,fun j=>mO obs os j⟩
def mJ:Sh→Bool
 |.dat _=>true
 |_=>false
def qf:Mode→Bool
 |.ob ..=>true
 |_=>false
def rM:Sh→Bool
 |.none|.dat _|.obj ..|.ptr ..|.fclo ..=>true
 |_=>false
def K6:Ob→Bool
 |.row ..|.mp ..=>true
 |.box _ shs=>shs.all rM
 |_=>false
def CY (shs:List Sh)(obs:List (Nat×Ob)):Bool:=shs.all rM&&obs.all fun x=>K6 x.2
def kW (C:Ctx)(f:Nat)(shs:List Sh)(obs:List (Nat×Ob))(res:Ty)(ds:List D)(d:D):Prop:=
 ∀(N:Nat) (σ:Im) (own:Nat→Option Nat) (hv:Nat→Value) (w:World) (args:Array Value) (cx:Nat→Prop),CY shs obs=true→σ.ok w→CtxOK C σ→(∀k,σ.m k≠some cI)→N≤w.heap.size→args.size=shs.length→
  (∀k j,own k=some j→N≤k∧k<w.heap.size∧(∀o,σ.c k o=none)∧σ.m k=none)→
  (∀k,cx k→k<w.heap.size∧own k=none∧(∀o,σ.c k o=none)∧σ.m k=none)→
  (∀t,aJ C (fo shs obs) (lD obs ds (ds.drop shs.length)) σ hv (shs.getD t .none) (args.getD t undef) (ds.getD t .none))→
  (∀j,cg C (fo shs obs) (lD obs ds (ds.drop shs.length)) σ own hv w N j (dP obs j))→
  Calls C.P f args w fun e w'=>∃v σ' own' hv' dr os,e=.returned v∧d=.tup (dr::os)∧os.length=obs.length∧σ.le σ'∧σ'.ok w'∧Below 0 w w'∧
   (∀k,k<w.heap.size→own k=none→w'.heap[k]?=w.heap[k]?)∧
   (∀k o x,σ'.c k o=some x→(σ.c k o=some x∨N≤k)∧¬cx k)∧(∀k x,σ'.m k=some x→(σ.m k=some x∨N≤k)∧¬cx k)∧(∀k,σ'.m k=some cI→N≤k→k<w.heap.size→own k≠none)∧
   (∀k j,own' k=some j→N≤k∧k<w'.heap.size∧(∀o,σ'.c k o=none)∧σ'.m k=none∧(k<w.heap.size→own k≠none))∧
   (∀(t:Nat) (sh:Sh),shs[t]?=some sh→mJ sh=false→aJ C (fo shs obs) (lD obs ds os) σ' hv' sh (args.getD t undef) (ds.getD t .none))∧
   (∀j,cg C (fo shs obs) (lD obs ds os) σ' own' hv' w' N j (dP obs j))∧Rep C.cap σ' res v dr
theorem aJ.ctx {C C':Ctx}(j3:C'.cap=C.cap){S:St}{ρ:Env}{σ:Im}{hv:Nat→Value}{s:Sh}(hp:rM s=true){v:Value}{d:D}(h:aJ C S ρ σ hv s v d):aJ C' S ρ σ hv s v d:=by
 cases s with
 |dat t=>show Rep C'.cap σ t v d;rw[j3];exact h
 |opt gs s=>cases hp
 |eptr j ver a b=>cases hp
 |yv=>cases hp
 |_=>exact h
theorem cg.ctx {C C':Ctx}(j3:C'.cap=C.cap){S:St}{ρ:Env}{σ:Im}{own:Nat→Option Nat}{hv:Nat→Value}{w:World}{N j:Nat}{ob:Ob}(hp:K6 ob=true∨ob=.dead)(h:cg C S ρ σ own hv w N j ob):cg C' S ρ σ own hv w N j ob:=by
 rcases hp with hp|rfl
 ·cases ob with
  |row T e=>obtain⟨cells,xs,h1,h2,h3,h4⟩:=h;exact⟨cells,xs,h1,h2,by rw[j3];exact h3,h4⟩
  |mp kt et=>obtain⟨k,arr,clock,es,h1,h2,h3,h4,h5,h6,h7⟩:=h;exact⟨k,arr,clock,es,h1,h2,h3,h4,h5,h6,by rw[j3];exact h7⟩
  |box ag shs=>
   obtain⟨k,cs,T,ds,h1,h2,h3,h4,h5,h6,h7⟩:=h;exact⟨k,cs,T,ds,h1,h2,h3,h4,h5,h6,fun i s hs=>⟨(h7 i s hs).1,(h7 i s hs).2.ctx j3 (List.all_eq_true.1 hp s (List.mem_of_getElem? hs))⟩⟩
  |_=>cases hp
 ·trivial
theorem aal {obs:List (Nat×Ob)}(h:(obs.all fun x=>K6 x.2)=true)(j:Nat):K6 (dP obs j)=true∨dP obs j=.dead:=by
 induction obs with
 |nil=>exact .inr rfl
 |cons x l ih=>
  simp only[List.all_cons,Bool.and_eq_true] at h;simp only[dP];cases hb:Nat.beq x.1 j
  ·exact ih h.2
  ·exact .inl h.1
theorem kW.ctx {C C':Ctx}{f:Nat}{shs:List Sh}{obs:List (Nat×Ob)}{res:Ty}{ds:List D}{d:D}(h:kW C f shs obs res ds d)(hP:C'.P=C.P)(j3:C'.cap=C.cap)(Pb:C'.glob=C.glob):kW C' f shs obs res ds d:=by
 intro N σ own hv w args cx hp az hC bu hN aK bM j5 h1 h2;have aU:=hp;simp only[CY,Bool.and_eq_true] at aU;have p5:∀t s,shs[t]?=some s→rM s=true:=fun t s hs=>List.all_eq_true.1 aU.1 s (List.mem_of_getElem? hs);have hC':CtxOK C σ:=⟨fun g x hx=>by have:=hC.glob g x (by rw[Pb];exact hx);rwa [j3] at this⟩
 have:=h N σ own hv w args cx hp az hC' bu hN aK bM j5 (fun t=>by
  cases hs:shs[t]? with
  |none=>rw[List.getD_eq_getElem?_getD,hs];trivial
  |some s=>have:=h1 t;rw[List.getD_eq_getElem?_getD,hs] at this ⊢;exact this.ctx j3.symm (p5 t s hs)) (fun j=>(h2 j).ctx j3.symm (aal aU.2 j))
 rw[hP];refine this.mono fun e w' hh=>?_;obtain⟨v,σ',own',hv',dr,os,g1,g2,g3,g4,g5,g6,g7,g8,g9,g10,g11,g12,g13,g14⟩:=hh;exact⟨v,σ',own',hv',dr,os,g1,g2,g3,g4,g5,g6,g7,g8,g9,g10,g11,fun t sh hs hd=>(g12 t sh hs hd).ctx j3 (p5 t sh hs),fun j=>(g13 j).ctx j3 (aal aU.2 j),by rw[j3];exact g14⟩
def cY (C:Ctx)(Φ:aS):Prop:=∀f ds d,Φ f ds=some d→∀s,C.sig f=some s→(qf s.mode=false→jA C f s ds d)∧∀shs obs,s.mode=.ob shs obs→kW C f shs obs s.res ds d
def lz:List Ty→Ty→Option (List Ty)
 |[.fn ys .bool],.tup []=>some ys
 |_,_=>none
def dz (C:Ctx):Prop:=(∀f cs,C.cap f=some cs→lz cs.args cs.res=none→C.sig f=some ⟨cs.args++cs.caps,cs.res,.dat⟩)∧∀f s,C.sig f=some s→∃fn,C.P.funcs[f]?=some fn∧fn.body.isSome=true∧(fn.name== "runtime.NumGoroutine")=false
def cl (S:St)(gs:List (Nat×Bool)):List Operand→List Nat
 |[]=>[]
 |x::xs=>
  match fV S gs x with
  |.obj j ver=>bif Nat.beq ver (S.ver j)&&mK (S.o j) then j::cl S gs xs else cl S gs xs
  |_=>cl S gs xs
def gZ (gs:List (Nat×Bool))(s:Sh):Sh:=
 match gs with
 |[]=>s
 |_=>.opt gs s
def St.fzs (S:St)(js:List Nat):St:=js.foldl St.fz S
def oe (C:Ctx)(S:St)(gs:List (Nat×Bool))(dst:Nat)(f:Nat)(args:List Operand):Option (St×Sh×List PI):=
 (C.sig f).bind fun s=>
    match s.mode with
    |.dat=>
     (kU C (S.fzs (cl S gs args)) gs args).bind fun u=>
       bif Ty.subs u.1 s.args then some (bif s.res.pure then S else S.fzs (cl S gs args),.dat s.res,[.call gs dst f u.2]) else Option.none
    |_=>Option.none
def Bg (C:Ctx)(S:St)(dst:Nat)(f:Nat)(args:List Operand):kV:=
 (C.sig f).bind fun s=>
    match s.mode with
    |.row T e=>
     (kU C (S.fzs (cl S [] args)) [] args).bind fun u=>
       bif Ty.subs u.1 s.args then some (mkObj (bif e.pure then S else S.fzs (cl S [] args)) dst (.row T e),[.call [] dst f u.2,.setO dst (.r dst),.setR dst (.con .none)]) else Option.none
    |_=>Option.none
def na (C:Ctx)(S:St)(gs:List (Nat×Bool))(dst:Nat)(x:Operand)(args:List Operand):Option (St×Sh×List PI):=
 match use C S gs x with
 |some (.fn as r,e)=>
  match lz as r with
  |some _=>Option.none
  |Option.none=>
  (kU C (S.fzs (cl S gs args)) gs args).bind fun u=>
    bif Ty.subs u.1 as then some (bif r.pure then S else S.fzs (cl S gs args),.dat r,[.callc gs dst e u.2]) else Option.none
 |_=>Option.none
theorem pR:∀(js:List Nat) (S:St),(S.fzs js).ver=S.ver∧(S.fzs js).r=S.r
 |[],S=>⟨rfl,rfl⟩
 |j::js,S=>by
  obtain⟨h1,h2⟩:=pR js (S.fz j);obtain⟨k1,k2⟩:=GV S j;exact⟨h1.trans k1,h2.trans k2⟩
section
variable {C:Ctx} {S:St} {ρ:Env} {σ:Im} {own:Nat→Option Nat} {hv:Nat→Value} {w0:World} {σ0:Base} {A:Nat→Prop} {a:Act} {w:World} {gs:List (Nat×Bool)} {Φ:aS} {dst:Nat}
theorem Inv.fzs:∀(js:List Nat) {S:St} {σ:Im} {own:Nat→Option Nat},Inv C S ρ σ own hv w0 σ0 A a w→∃σ' own',σ.le σ'∧Inv C (S.fzs js) ρ σ' own' hv w0 σ0 A a w
 |[],S,σ,own,h=>⟨σ,own,.refl σ,h⟩
 |j::js,S,σ,own,h=>by
  obtain⟨σ1,dy,hle,h1⟩:=h.fz j;obtain⟨σ2,gV,ln,h2⟩:=Inv.fzs js h1;exact⟨σ2,gV,hle.trans ln,h2⟩
theorem Inv.world (h:Inv C S ρ σ own hv w0 σ0 A a w){σ':Im}{w':World}(hle:σ.le σ')(az:σ'.ok w')(hb:Below w.heap.size w w')(dg:∀k o x,σ'.c k o=some x→σ.c k o=some x∨w.heap.size≤k)
 (cW:∀k x,σ'.m k=some x→σ.m k=some x∨w.heap.size≤k):Inv C S ρ σ' own hv w0 σ0 A a w':=by
 have aK:=h.below.size;refine h.step (fun _=>False) rfl hle az (fun k o x hx=>(dg k o x hx).imp id (fun e=>⟨by omega,.inr e⟩)) (fun k x hx=>(cW k x hx).imp id (fun e=>⟨by omega,.inr e⟩)) (hb.mono aK) (.refl S hv) (fun j _=>⟨rfl,rfl,rfl,fun k hk=>⟨hk,hb.block k (h.owns k j hk).2.1⟩⟩) (fun _ hf=>hf.elim) (fun k j hk=>?_) (fun _=>id) (fun t=>.inl ⟨rfl,rfl,rfl⟩) (fun _ _=>rfl) (fun k hk _=>hb.block k hk) (fun k i hk=>.inl ⟨i,hk⟩) (fun _ hf=>hf.elim);obtain⟨g1,g2,g3,g4⟩:=h.owns k j hk;refine⟨g1,by have:=hb.size;omega,fun o=>?_,?_⟩
 ·cases hc:σ'.c k o with
  |none=>rfl
  |some x=>rcases dg k o x hc with e|e
           ·rw[g3 o] at e;cases e
           ·omega
 ·cases hc:σ'.m k with
  |none=>rfl
  |some x=>rcases cW k x hc with e|e
           ·rw[g4] at e;cases e
           ·omega
theorem CtxOK.mono {C:Ctx}{σ σ':Im}(h:CtxOK C σ)(hle:σ.le σ'):CtxOK C σ':=⟨fun g x hx=>(h.glob g x hx).mono hle⟩
theorem MN (h:Inv C S ρ σ own hv w0 σ0 A a w)(hC:CtxOK C σ0)(hg:holds gs ρ=true){xs:List Operand}{u:List Ty×List PE}{ts:List Ty}(hu:kU C S gs xs=some u)(hs:Ty.subs u.1 ts=true):pw C σ ts (xs.map a.eval) (PE.evs ρ u.2):=by
 obtain⟨l1,l2,aR⟩:=agT h hC hg _ _ hu;have hl:=Ty.subs_len _ _ hs;refine⟨by rw[List.length_map];omega,by rw[PE.evs_eq,List.length_map];omega,fun i t hi=>?_⟩;obtain⟨s,il,cA⟩:=Ty.subs_get _ _ hs i t hi;exact(aR i s il).sub cA
theorem Tg {o:Oper}{f:Nat}{args:Array Operand}{ts:Array TypeId}(ba:dz C){s:Sig}(hs:C.sig f=some s)(ho:o.op=.call {callee:=.value (.func f),args:=args,argTypes:=ts}):
 (execOp a.eval o).run C.P w=.ok (.enter f (args.map a.eval)) w:=by
 obtain⟨fn,h1,h2,h3⟩:=ba.2 f s hs;obtain⟨bd,hZ⟩:=Option.isSome_iff_exists.1 h2;have h4:¬fn.name= "runtime.NumGoroutine" :=by simpa using h3
 simp[execOp,ho,resolve,Act.eval,Deferred.ofValue,invoke,callFunc,h1,hZ,h4]
theorem agf {o:Oper}{x:Operand}{f:Nat}{vs:List Value}{args:Array Operand}{ts:Array TypeId}(ba:dz C){s:Sig}(hs:C.sig f=some s)(hx:a.eval x=.func (.func f) #[] vs.toArray)(ho:o.op=.call {callee:=.value x,args:=args,argTypes:=ts}):
 (execOp a.eval o).run C.P w=.ok (.enter f (args.map a.eval++vs.toArray)) w:=by
 obtain⟨fn,h1,h2,h3⟩:=ba.2 f s hs;obtain⟨bd,hZ⟩:=Option.isSome_iff_exists.1 h2;have h4:¬fn.name= "runtime.NumGoroutine" :=by simpa using h3
 simp[execOp,ho,resolve,hx,Deferred.ofValue,invoke,callFunc,h1,hZ,h4]
theorem WO (h:Inv C S ρ σ own hv w0 σ0 A a w)(hC:CtxOK C σ0)(ht:¬A dst)(af:dst<a.tmps.size)(dC:∀g,g∈gs→A g.1)(hg:holds gs ρ=true){f:Nat}{s:Sig}{js:List Nat}{vals:List Value}{ds:List D}{d:D}(oD:s.mode=.dat)(hfn:jA C f s ds d)
 (jd:∀σ1 dy,σ.le σ1→Inv C (S.fzs js) ρ σ1 dy hv w0 σ0 A a w→pw C σ1 s.args vals ds) {K:Act→World→Prop} {Q:Exit→Act→World→Prop}
 (hK:∀a' w',Good C w0 σ0 ((bif s.res.pure then S else S.fzs js).setR dst (gZ gs (.dat s.res))) (ρ.setR dst d) (fun u=>A u∨u=dst) a' w'→a'.tmps.size=a.tmps.size→K a' w'):
 Calls C.P f vals.toArray w (fun e lT=>match e with|.returned v=>K (a.put (some dst) v) lT|.panicked chain=>Q (.panic chain) a lT|.outgrown=>LetsOut Q):=by
 obtain⟨σ1,dy,ll,h1⟩:=Inv.fzs js h;have va:=hfn σ1 w vals.toArray h1.ok (hC.mono h1.le) (by simpa using jd σ1 dy ll h1);refine va.mono fun e w' hh=>?_;obtain⟨v,σ',rfl,hle,az,hb,dg,cW,kI⟩:=hh;simp only[py,oD] at kI;refine hK _ _ ?_ (size_put _ _ _);have hh:holds gs (ρ.setR dst d)=true:=by rw[Cf (t:=dst) (d:=d) fun g hm e=>ht (by rw[←e];exact dC g hm)];exact hg
 have put:∀{S2:St} {σ2:Im} {gV:Nat→Option Nat},Inv C S2 ρ σ2 gV hv w0 σ0 A a w'→Rep C.cap σ2 s.res v d→Good C w0 σ0 (S2.setR dst (gZ gs (.dat s.res))) (ρ.setR dst d) (fun u=>A u∨u=dst) (a.put (some dst) v) w':=by
  intro S2 σ2 gV h2 hr;cases gs with
  |nil=>exact⟨_,_,_,h2.setReg ht (s:=.dat s.res) hr af (fun _ _ e=>by cases e)⟩
  |cons g bB=>
   refine⟨_,_,_,h2.setReg ht (s:=.opt (g::bB) (.dat s.res)) ⟨fun _=>hr,fun e=>absurd (hh.symm.trans e) (by decide)⟩ af (fun gs s e=>?_)⟩;cases e;exact⟨dC,fun _ _ e=>by cases e⟩
 cases hp:s.res.pure with
 |true=>
  simp only[cond_true];exact put (h.world (.refl σ) (h.ok.below hb) hb (fun _ _ _ hx=>.inl hx) (fun _ _ hx=>.inl hx)) (kI.pure hp)
 |false=>
  simp only[cond_false];exact put (h1.world hle az hb dg cW) kI
theorem NV {o:Oper}{f:Nat}{args:Array Value}{K:Act→World→Prop}{Q:Exit→Act→World→Prop}(hd:o.dst=some dst)(hx:(execOp a.eval o).run C.P w=.ok (.enter f args) w)
 (h:Calls C.P f args w (fun e lT=>match e with|.returned v=>K (a.put (some dst) v) lT|.panicked chain=>Q (.panic chain) a lT|.outgrown=>LetsOut Q)):o.wp C.P a w K Q:=by
 simp only[Oper.wp,hx,Oper.upon,hd];refine h.mono fun e lT hh=>?_;cases e<;>exact hh
theorem aoe (h:Inv C S ρ σ own hv w0 σ0 A a w)(hC:CtxOK C σ0)(ba:dz C)(hΦ:cY C Φ)(ht:¬A dst)(af:dst<a.tmps.size)(dC:∀g,g∈gs→A g.1)(hg:holds gs ρ=true){f:Nat}{args:Array Operand}{ts:Array TypeId}{r:St×Sh×List PI}
 (hr:oe C S gs dst f args.toList=some r) {o:Oper} (hd:o.dst=some dst) (ho:o.op=.call {callee:=.value (.func f),args:=args,argTypes:=ts}):bR C w0 σ0 Φ S ρ A a w o (r.1.setR dst (gZ gs r.2.1),r.2.2):=by
 simp only[oe,Option.bind_eq_some_iff] at hr;obtain⟨s,hs,hr⟩:=hr;split at hr
 case h_2=>cases hr
 rename_i oD;simp only[Option.bind_eq_some_iff] at hr;obtain⟨u,hu,hr⟩:=hr;cases bV:Ty.subs u.1 s.args<;>simp only[bV,cond_true,cond_false] at hr
 ·cases hr
 cases hr;intro ρ' ak K Q hK;simp only[PI.runs,PI.run,hg,cond_true,Option.bind_eq_some_iff,Option.map_eq_some_iff] at ak;obtain⟨ρ1,⟨d,bf,rfl⟩,ak⟩:=ak;cases ak;have hfn:=(hΦ f _ d bf s hs).1 (by rw[oD];rfl);refine NV hd (Tg ba hs ho) ?_;have ls:args.map a.eval=(args.toList.map a.eval).toArray:=by apply Array.ext';rw[Array.toList_map]
 rw[ls];have jf:(fun u=>A u∨o.dst=some u)=(fun u=>A u∨u=dst):=by funext u;rw[hd];simp[eq_comm]
 rw[jf] at hK;exact WO h hC ht af dC hg (js:=cl S gs args.toList) oD hfn (fun σ1 dy _ h1=>MN h1 hC hg hu bV) hK
theorem an9 (h:Inv C S ρ σ own hv w0 σ0 A a w)(hC:CtxOK C σ0)(ba:dz C)(hΦ:cY C Φ)(ht:¬A dst)(af:dst<a.tmps.size)(dC:∀g,g∈gs→A g.1)(hg:holds gs ρ=true){x:Operand}{args:Array Operand}{ts:Array TypeId}{r:St×Sh×List PI}
 (hr:na C S gs dst x args.toList=some r) {o:Oper} (hd:o.dst=some dst) (ho:o.op=.call {callee:=.value x,args:=args,argTypes:=ts}):bR C w0 σ0 Φ S ρ A a w o (r.1.setR dst (gZ gs r.2.1),r.2.2):=by
 unfold na at hr;split at hr
 case h_2=>cases hr
 rename_i as r0 e P5;split at hr
 case h_1=>cases hr
 rename_i Pd;simp only[Option.bind_eq_some_iff] at hr;obtain⟨u,hu,hr⟩:=hr;cases bV:Ty.subs u.1 as<;>simp only[bV,cond_true,cond_false] at hr
 ·cases hr
 cases hr;have hx:=cd h hC hg P5;intro ρ' ak K Q hK;simp only[PI.runs,PI.run,hg,cond_true,Option.bind_eq_some_iff] at ak;obtain⟨ρ1,tc,ak⟩:=ak;cases ak;split at tc
 case h_2=>cases tc
 rename_i f caps bE;simp only[Option.map_eq_some_iff] at tc;obtain⟨d,bf,rfl⟩:=tc;rw[bE] at hx;generalize fw:a.eval x=xv at hx;generalize aX:Ty.fn as r0=ty at hx;cases hx with
 |fn f cs vs ds hc h1 h2 aR=>
  cases aX;have hs:=ba.1 f cs hc Pd;have hfn:=(hΦ f _ d bf _ hs).1 rfl;refine NV hd (agf ba hs fw ho) ?_;have ls:args.map a.eval++vs.toArray=(args.toList.map a.eval++vs).toArray:=by apply Array.ext';simp
  rw[ls];have jf:(fun u=>A u∨o.dst=some u)=(fun u=>A u∨u=dst):=by funext u;rw[hd];simp[eq_comm]
  rw[jf] at hK;refine WO h hC ht af dC hg (js:=cl S gs args.toList) (s:=⟨cs.args++cs.caps,cs.res,.dat⟩) rfl hfn (fun σ1 dy ll i1=>?_) hK;obtain⟨g1,g2,g3⟩:=MN i1 hC hg hu bV;refine⟨by simp only[List.length_append,g1,h1],by simp only[List.length_append,g2,h2],fun i t hi=>?_⟩;rw[List.getElem?_append] at hi;split at hi
  ·rename_i af;have:=g3 i t hi;rw[List.getD_eq_getElem?_getD,List.getD_eq_getElem?_getD,List.getElem?_append_left (by omega),List.getElem?_append_left (by omega)];simpa [List.getD_eq_getElem?_getD] using this
  ·rename_i gd;have:=(aR _ t hi).mono ll;rw[List.getD_eq_getElem?_getD,List.getD_eq_getElem?_getD,List.getElem?_append_right (by omega),List.getElem?_append_right (by omega),g1,g2];simpa [List.getD_eq_getElem?_getD] using this
theorem aob (h:Inv C S ρ σ own hv w0 σ0 A a w)(hC:CtxOK C σ0)(ba:dz C)(hΦ:cY C Φ)(ht:¬A dst)(af:dst<a.tmps.size){f:Nat}{args:Array Operand}{ts:Array TypeId}{r:St×List PI}
 (hr:Bg C S dst f args.toList=some r) {o:Oper} (hd:o.dst=some dst) (ho:o.op=.call {callee:=.value (.func f),args:=args,argTypes:=ts}):bR C w0 σ0 Φ S ρ A a w o r:=by
 simp only[Bg,Option.bind_eq_some_iff] at hr;obtain⟨s,hs,hr⟩:=hr;split at hr
 case h_2=>cases hr
 rename_i T e oD;simp only[Option.bind_eq_some_iff] at hr;obtain⟨u,hu,hr⟩:=hr;cases bV:Ty.subs u.1 s.args<;>simp only[bV,cond_true,cond_false] at hr
 ·cases hr
 cases hr;intro ρ' ak K Q hK;have hgt:holds ([]:List (Nat×Bool)) ρ=true:=rfl;simp only[PI.runs,PI.run,hgt,cond_true,Option.bind_eq_some_iff,Option.map_eq_some_iff] at ak;obtain⟨ρ1,⟨d,bf,rfl⟩,ρ2,g2,ρ3,g3,g4⟩:=ak;cases g2;cases g3;cases g4;have hfn:=(hΦ f _ d bf s hs).1 (by rw[oD];rfl);obtain⟨σ1,dy,ll,h1⟩:=Inv.fzs (cl S [] args.toList) h;have ls:args.map a.eval=(args.toList.map a.eval).toArray:=by apply Array.ext';rw[Array.toList_map]
 refine NV hd (Tg ba hs ho) ?_;rw[ls];have va:=hfn σ1 w (args.toList.map a.eval).toArray h1.ok (hC.mono h1.le) (by simpa using MN h1 hC rfl hu bV);refine va.mono fun e' w' hh=>?_;obtain⟨v,σ',rfl,hle,az,hb,dg,cW,kI⟩:=hh;simp only[py,oD] at kI;obtain⟨cells,xs,rfl,bM,ia,pW⟩:=kI;refine hK _ _ ?_ (size_put _ _ _);have jf:(fun u=>A u∨o.dst=some u)=(fun u=>A u∨u=dst):=by funext u;rw[hd];simp[eq_comm]
 rw[jf];have main:∀{S2:St} {σ1 σ2:Im} {gV:Nat→Option Nat},Inv C S2 ρ σ1 gV hv w0 σ0 A a w→σ1.le σ2→σ2.ok w'→(∀k o x,σ2.c k o=some x→σ1.c k o=some x∨w.heap.size≤k)→(∀k x,σ2.m k=some x→σ1.m k=some x∨w.heap.size≤k)→gm C.cap σ2 e cells xs→(∀k,v.ownBlock=some k→(∀o,σ2.c k o=none)∧σ2.m k=none)→
  Good C w0 σ0 (mkObj S2 dst (.row T e)) ((ρ.setO dst (.list xs)).setR dst .none) (fun u=>A u∨u=dst) (a.put (some dst) v) w':=by
  intro S2 σ1 σ2 gV h2 ln Pz atO atQ asY as1;have aK:=h1.below.size
  have kH:=h2.newOσ dst (.row T e) (.list xs) v (fun k=>decide (v.ownBlock=some k)) ln Pz atO atQ hb (fun k hk=>bM.lt k (by simpa using hk)) (fun k hk=>as1 k (by simpa using hk)) ⟨cells,xs,by simp[Env.setO,aQ],by
        rw[aQ];refine⟨bM.1,?_⟩;rcases bM.2 with e1|⟨g,cap,cur,e1,e2,e3⟩
        ·exact .inl e1
        ·exact .inr ⟨g,cap,cur,e1,by omega,e3⟩,asY,fun k hk=>by rw[aQ] at hk;simp[fD,hk]⟩
  have Zj:=kH.setObj ht (j:=dst) (v:=v) (aQ _ _ _) af;have e:(S2.newO dst (.row T e)).ver dst=S2.ver dst+1:=aQ _ _ _;rw[e] at Zj;exact⟨_,_,_,Zj⟩
 have eρ:((ρ.setR dst (.list xs)).setO dst ((PE.r dst).ev (ρ.setR dst (.list xs)))).setR dst ((PE.con D.none).ev ((ρ.setR dst (.list xs)).setO dst ((PE.r dst).ev (ρ.setR dst (.list xs)))))=(ρ.setO dst (.list xs)).setR dst .none:=by
  have:∀d1 d2:D,bZ (bZ ρ.r dst d1) dst d2=bZ ρ.r dst d2:=by
   intro d1 d2;funext i;simp only[fI];split<;>rfl
  simp[Env.setR,Env.setO,PE.ev,aQ,this]
 show Good C w0 σ0 _ _ _ _ _;rw[eρ];cases hp:e.pure with
 |true=>
  simp only[cond_true];refine main h (.refl σ) (h.ok.below hb) (fun _ _ _ hx=>.inl hx) (fun _ _ hx=>.inl hx) ?_ (fun k hk=>?_)
  ·obtain⟨vs,k1,k2⟩:=ia;exact⟨vs,fun i x hx=>(k1 i x hx).pure hp,k2⟩
  ·obtain⟨f1,f2⟩:=pW k hk;refine⟨fun o=>?_,?_⟩
   ·cases hc:σ.c k o with
    |none=>rfl
    |some x=>have:=hle.c _ _ _ (ll.c _ _ _ hc);rw[f1 o] at this;cases this
   ·cases hc:σ.m k with
    |none=>rfl
    |some x=>have:=hle.m _ _ (ll.m _ _ hc);rw[f2] at this;cases this
 |false=>
  simp only[cond_false];exact main h1 hle az dg cW ia pW
end
def gF:Nat:=1000000013
abbrev m5:=Sh×Option (Ty×PE)
def EH (C:Ctx)(S:St)(x:Operand):m5:=(fV S [] x,use C S [] x)
def WR (c:Nat×Nat):m5:=(.ptr c.1 c.2 0,none)
def cv:List Nat→List Nat→Nat→Option Nat
 |i::is,j::js,k=>bif Nat.beq i k then some j else cv is js k
 |_,_,_=>none
def axY:Sh→Sh→List (Nat×Nat)
 |.obj i _,.obj j _=>[(i,j)]
 |.ptr i _ _,.ptr j _ _=>[(i,j)]
 |.fclo _ a,.fclo _ b=>(a.zip b).map fun x=>(x.1.1,x.2.1)
 |_,_=>[]
def RC:List Sh→List Sh→List (Nat×Nat)
 |a::as,b::bs=>axY a b++RC as bs
 |_,_=>[]
def axX:Ob→Ob→List (Nat×Nat)
 |.box _ a,.box _ b=>RC a b
 |_,_=>[]
def aam:List (Nat×Nat)→Nat→Nat
 |[],_=>gF
 |x::l,i=>bif Nat.beq x.1 i then x.2 else aam l i
def awN (S:St)(obs:List (Nat×Ob))(p:List (Nat×Nat)):List (Nat×Nat):=p++p.flatMap fun x=>axX (dP obs x.1) (S.o x.2)
def XH (S:St)(shs:List Sh)(obs:List (Nat×Ob))(acts:List m5):List Nat:=obs.map fun o=>aam (awN S obs (RC shs (acts.map (·.1)))) o.1
section
variable (ver:Nat→Nat) (is js:List Nat)
def D8:List (Nat×Nat)→Option (List (Nat×Nat))
 |[]=>some []
 |x::l=>bif Nat.beq x.2 0 then(cv is js x.1).bind fun j=>(D8 l).map fun r=>(j,ver j)::r else none
def kp:Sh→Option Sh
 |.dat t=>some (.dat t)
 |.none=>some .none
 |.obj i v=>bif Nat.beq v 0 then(cv is js i).map fun j=>.obj j (ver j) else none
 |.ptr i v off=>bif Nat.beq v 0 then(cv is js i).map fun j=>.ptr j (ver j) off else none
 |.fclo f caps=>(D8 ver is js caps).map (.fclo f)
 |_=>none
def D9:List Sh→Option (List Sh)
 |[]=>some []
 |s::l=>(kp ver is js s).bind fun a=>(D9 l).map (a::·)
def pk:Ob→Option Ob
 |.row T e=>some (.row T e)
 |.mp a b=>some (.mp a b)
 |.box ag shs=>(D9 ver is js shs).map (.box ag)
 |_=>none
end
def Bx (c:Sh):Sh→Bool
 |.none=>true
 |.dat b=>match c with|.dat a=>Ty.sub a b|_=>false
 |x=>Sh.beq c x
def xA:List Sh→List Sh→Bool
 |[],[]=>true
 |a::as,b::bs=>Bx a b&&xA as bs
 |_,_=>false
def xz:Ob→Ob→Bool
 |.box x a,.box y b=>(x==y)&&xA a b
 |.row T a,.row U b=>Nat.beq T U&&Ty.beq a b
 |.mp a b,.mp c d=>Ty.beq a c&&Ty.beq b d
 |_,_=>false
def pQ (S:St)(is js:List Nat):List (Nat×Ob)→List Nat→Bool
 |[],[]=>true
 |o::obs,j::jl=>(match pk S.ver is js o.2 with|some x=>xz (S.o j) x|none=>false)&&pQ S is js obs jl
 |_,_=>false
def Bw (S:St)(is js:List Nat)(a:m5)(s:Sh):Option PE:=
 match s with
 |.dat t=>(match a.2 with|some x=>bif Ty.sub x.1 t then some x.2 else none|none=>none)
 |.none=>some (.con .none)
 |s=>(match kp S.ver is js s with|some x=>bif Sh.beq a.1 x then some (.con .none) else none|none=>none)
def sG (S:St)(is js:List Nat):List m5→List Sh→Option (List PE)
 |[],[]=>some []
 |a::as,s::ss=>(Bw S is js a s).bind fun e=>(sG S is js as ss).map (e::·)
 |_,_=>none
def od:List Sh→List Nat
 |[]=>[]
 |.obj i _::l=>i::od l
 |.ptr i _ _::l=>i::od l
 |.fclo _ c::l=>c.map (·.1)++od l
 |_::l=>od l
def aF (l:List Nat)(x:Nat):Bool:=l.any (Nat.beq x)
def uu (ver:Nat→Nat)(shs:List Sh)(is js:List Nat):Nat→Nat:=fun j=>match cv js is j with|some i=>bif aF (od shs) i then ver j else ver j+1|none=>ver j
def St.handed (S:St)(shs:List Sh)(obs:List (Nat×Ob))(is js:List Nat):St:=
 ⟨S.r,fun j=>match cv js is j with|some i=>(match pk (uu S.ver shs is js) is js (dP obs i) with|some o=>o|none=>.dead)|none=>S.o j,uu S.ver shs is js⟩
def xC (S:St):List Operand→List Sh→List Nat
 |x::xs,s::ss=>(bif mJ s then cl S [] [x] else[])++xC S xs ss
 |_,_=>[]
def Eg:List Nat→Nat→List PI
 |[],_=>[]
 |j::js,k=>.setO j (.tget (.o gF) k)::Eg js (k+1)
def Oc (S:St)(res:Ty)(f:Nat)(shs:List Sh)(obs:List (Nat×Ob))(acts:List m5)(is js:List Nat):Option (St×Ty×List PI):=
 (sG S is js acts shs).bind fun es=>
    bif CY shs obs&&(jo is&&jo js&&pQ S is js obs js&&nw (S.o gF)&& !aF js gF) then some (S.handed shs obs is js,res,.mcall gF f (es++js.map .o)::Eg js 1) else none
def Od (C:Ctx)(S:St)(res:Ty)(f:Nat)(shs:List Sh)(obs:List (Nat×Ob))(acts:List m5):Option (St×Ty×List PI):=
 Oc S res f shs obs acts (obs.map (·.1)) (XH S shs obs acts)
def pH (C:Ctx)(S:St)(f:Nat)(args:List Operand)(caps:List (Nat×Nat)):Option (St×Ty×List PI):=
 (C.sig f).bind fun s=>
    match s.mode with
    |.ob shs obs=>Od C (S.fzs (xC S args shs)) s.res f shs obs (args.map (EH C (S.fzs (xC S args shs)))++caps.map WR)
    |_=>none
theorem ZJ {l:List Nat}{x:Nat}:aF l x=true↔x∈l:=by
 unfold aF;rw[List.any_eq_true];exact⟨fun⟨y,hy,h⟩=>by rw[Nat.eq_of_beq_eq_true h];exact hy,fun h=>⟨x,h,Nat.beq_refl x⟩⟩
theorem aah:∀{is js:List Nat} {i j:Nat},cv is js i=some j→∃k:Nat,is[k]?=some i∧js[k]?=some j
 |[],_,i,j,h=>by cases h
 |_::_,[],i,j,h=>by cases h
 |x::is,y::js,i,j,h=>by
  simp only[cv] at h;cases hb:Nat.beq x i<;>simp only[hb,cond_true,cond_false] at h
  ·obtain⟨k,h1,h2⟩:=aah h;exact⟨k+1,h1,h2⟩
  ·cases h;exact⟨0,by rw[Nat.eq_of_beq_eq_true hb];rfl,rfl⟩
theorem H6:∀{is js:List Nat} {i j k:Nat},is.Nodup→is[k]?=some i→js[k]?=some j→cv is js i=some j
 |[],_,i,j,k,_,h,_=>by simp at h
 |_::_,[],i,j,k,_,_,h=>by simp at h
 |x::is,y::js,i,j,k,hn,h1,h2=>by
  simp only[cv];cases k with
  |zero=>simp at h1 h2;subst h1 h2;rw[Nat.beq_refl];rfl
  |succ k=>
   simp at h1 h2;have aE:x≠i:=fun e=>by subst e;exact(List.nodup_cons.1 hn).1 (List.mem_of_getElem? h1)
   rw[ez aE];exact H6 (List.nodup_cons.1 hn).2 h1 h2
theorem H7 {is js:List Nat}(h2:js.Nodup){i j:Nat}(h:cv is js i=some j):cv js is j=some i:=by
 obtain⟨k,g1,g2⟩:=aah h;exact H6 h2 g2 g1
theorem avx (obs:List (Nat×Ob))(f:Nat→D):∀{is js:List Nat} {i j:Nat},is=obs.map (·.1)→cv is js i=some j→mO obs (js.map f) i=f j:=by
 induction obs with
 |nil=>intro is js i j h1 h2;subst h1;cases h2
 |cons x l ih=>
  intro is js i j h1 h2;subst h1;cases js with
  |nil=>cases h2
  |cons y js=>
   simp only[List.map_cons,cv] at h2;simp only[List.map_cons,mO];cases hb:Nat.beq x.1 i<;>simp only[hb,cond_true,cond_false] at h2 ⊢
   ·exact ih rfl h2
   ·cases h2;rfl
theorem aad:∀{obs:List (Nat×Ob)} {js:List Nat} {os:List D} {i j:Nat},os.length=obs.length→cv (obs.map (·.1)) js i=some j→∃k:Nat,js[k]?=some j∧mO obs os i=os.getD k .none
 |[],_,_,i,j,_,h=>by cases h
 |_::_,[],_,i,j,_,h=>by cases h
 |_::_,_::_,[],i,j,hl,h=>by simp at hl
 |x::obs,y::js,o::os,i,j,hl,h=>by
  simp only[List.map_cons,cv] at h;simp only[mO];cases hb:Nat.beq x.1 i<;>simp only[hb,cond_true,cond_false] at h ⊢
  ·obtain⟨k,h1,h2⟩:=aad (obs:=obs) (js:=js) (os:=os) (by simpa using hl) h;exact⟨k+1,h1,by simpa using h2⟩
  ·cases h;exact⟨0,rfl,rfl⟩
theorem aak:∀{obs:List (Nat×Ob)} {js:List Nat} {i:Nat},js.length=obs.length→cv (obs.map (·.1)) js i=none→dP obs i=.dead
 |[],_,i,_,_=>rfl
 |x::obs,[],i,hl,h=>by simp at hl
 |x::obs,y::js,i,hl,h=>by
  simp only[List.map_cons,cv] at h;simp only[dP];cases hb:Nat.beq x.1 i<;>simp only[hb,cond_true,cond_false] at h ⊢
  ·exact aak (by simpa using hl) h
  ·cases h
theorem XO {S:St}{is js:List Nat}:∀{obs:List (Nat×Ob)} {jl:List Nat},pQ S is js obs jl=true→jl.length=obs.length
 |[],[],_=>rfl
 |[],_::_,h=>by simp[pQ] at h
 |_::_,[],h=>by simp[pQ] at h
 |o::obs,j::jl,h=>by simp only[pQ,Bool.and_eq_true] at h;simp[XO h.2]
theorem XN {S:St}{is js:List Nat}:∀{obs:List (Nat×Ob)} {jl:List Nat},pQ S is js obs jl=true→∀{i j:Nat},cv (obs.map (·.1)) jl i=some j→∃x,pk S.ver is js (dP obs i)=some x∧xz (S.o j) x=true
 |[],_,_,i,j,h=>by cases h
 |_::_,[],_,i,j,h=>by cases h
 |o::obs,y::jl,hf,i,j,h=>by
  simp only[pQ,Bool.and_eq_true] at hf;simp only[List.map_cons,cv] at h;simp only[dP];cases hb:Nat.beq o.1 i<;>simp only[hb,cond_true,cond_false] at h ⊢
  ·exact XN hf.2 h
  ·cases h;have h1:=hf.1;split at h1
   ·rename_i x hx;exact⟨x,hx,h1⟩
   ·cases h1
theorem XP:∀{a b:List Sh},xA a b=true→a.length=b.length∧∀(i:Nat) (y:Sh),b[i]?=some y→∃x,a[i]?=some x∧Bx x y=true
 |[],[],_=>⟨rfl,fun i y h=>by simp at h⟩
 |[],_::_,h=>by simp[xA] at h
 |_::_,[],h=>by simp[xA] at h
 |a::as,b::bs,h=>by
  simp only[xA,Bool.and_eq_true] at h;obtain⟨g1,g2⟩:=XP h.2;refine⟨by simp[g1],fun i y hy=>?_⟩;cases i with
  |zero=>simp at hy;subst hy;exact⟨a,rfl,h.1⟩
  |succ i=>simp at hy;simpa using g2 i y hy
theorem S9 {ver:Nat→Nat}{is js:List Nat}:∀{a b:List Sh},D9 ver is js a=some b→b.length=a.length∧∀(i:Nat) (x:Sh),a[i]?=some x→∃y,b[i]?=some y∧kp ver is js x=some y
 |[],b,h=>by simp only[D9,Option.some.injEq] at h;subst h;exact⟨rfl,fun i x h=>by simp at h⟩
 |s::l,b,h=>by
  simp only[D9,Option.bind_eq_some_iff,Option.map_eq_some_iff] at h;obtain⟨y,hy,r,hr,rfl⟩:=h;obtain⟨g1,g2⟩:=S9 hr;refine⟨by simp[g1],fun i x hx=>?_⟩;cases i with
  |zero=>simp at hx;subst hx;exact⟨y,rfl,hy⟩
  |succ i=>simp at hx;simpa using g2 i x hx
theorem L7 {ver:Nat→Nat}{is js:List Nat}:∀{a b:List (Nat×Nat)},D8 ver is js a=some b→b.length=a.length∧∀(i x v:Nat),a[i]?=some (x,v)→∃j,b[i]?=some (j,ver j)∧cv is js x=some j∧v=0
 |[],b,h=>by simp only[D8,Option.some.injEq] at h;subst h;exact⟨rfl,fun i x v h=>by simp at h⟩
 |s::l,b,h=>by
  simp only[D8] at h;cases hb:Nat.beq s.2 0<;>simp only[hb,cond_true,cond_false] at h
  ·cases h
  simp only[Option.bind_eq_some_iff,Option.map_eq_some_iff] at h;obtain⟨y,hy,r,hr,rfl⟩:=h;obtain⟨g1,g2⟩:=L7 hr;refine⟨by simp[g1],fun i x v hx=>?_⟩;cases i with
  |zero=>simp at hx;subst hx;exact⟨y,rfl,hy,Nat.eq_of_beq_eq_true hb⟩
  |succ i=>simp at hx;simpa using g2 i x v hx
theorem S8 {ver:Nat→Nat}{is js:List Nat}{s x:Sh}(h:kp ver is js s=some x):(∀gs s',s≠.opt gs s')∧∀gs s',x≠.opt gs s':=by
 cases s<;>simp only[kp] at h
 case none=>cases h;exact⟨(fun _ _ e=>by cases e),(fun _ _ e=>by cases e)⟩
 case dat=>cases h;exact⟨(fun _ _ e=>by cases e),(fun _ _ e=>by cases e)⟩
 case obj i v=>
  cases hb:Nat.beq v 0<;>simp only[hb,cond_true,cond_false] at h
  ·cases h
  simp only[Option.map_eq_some_iff] at h;obtain⟨j,_,rfl⟩:=h;exact⟨(fun _ _ e=>by cases e),(fun _ _ e=>by cases e)⟩
 case ptr i v off=>
  cases hb:Nat.beq v 0<;>simp only[hb,cond_true,cond_false] at h
  ·cases h
  simp only[Option.map_eq_some_iff] at h;obtain⟨j,_,rfl⟩:=h;exact⟨(fun _ _ e=>by cases e),(fun _ _ e=>by cases e)⟩
 case fclo f caps=>
  simp only[Option.map_eq_some_iff] at h;obtain⟨j,_,rfl⟩:=h;exact⟨(fun _ _ e=>by cases e),(fun _ _ e=>by cases e)⟩
 all_goals cases h
section
variable {C:Ctx} {S S1:St} {ρ ρ1:Env} {σ σ1:Im} {own dy:Nat→Option Nat} {hv aP:Nat→Value} {w0:World} {σ0:Base} {A:Nat→Prop} {a:Act} {w w1:World} {Φ:aS} {dst:Nat}
 {is js:List Nat} {shs:List Sh} {obs:List (Nat×Ob)} {ρf:Env}
theorem af3 (hσ:Im.leR C.cap σ σ1){ei:Nat→Value}(fj:∀i j,cv is js i=some j→ei i=hv j){s x:Sh}(hr:kp S.ver is js s=some x){v:Value}{d:D}(h:aJ C S ρ σ hv x v d):aJ C (fo shs obs) ρf σ1 ei s v d:=by
 cases s<;>simp only[kp] at hr
 case none=>trivial
 case dat=>cases hr;exact hσ.rep h
 case obj i ver=>
  cases hb:Nat.beq ver 0<;>simp only[hb,cond_true,cond_false] at hr
  ·cases hr
  simp only[Option.map_eq_some_iff] at hr;obtain⟨j,hj,rfl⟩:=hr;exact⟨by rw[Nat.eq_of_beq_eq_true hb];exact Nat.zero_le _,fun _=>by rw[fj i j hj];exact h.2 rfl⟩
 case ptr i ver off=>
  cases hb:Nat.beq ver 0<;>simp only[hb,cond_true,cond_false] at hr
  ·cases hr
  simp only[Option.map_eq_some_iff] at hr;obtain⟨j,hj,rfl⟩:=hr;exact⟨by rw[Nat.eq_of_beq_eq_true hb];exact Nat.zero_le _,fun _=>by rw[fj i j hj];exact h.2 rfl⟩
 case fclo f caps=>
  simp only[Option.map_eq_some_iff] at hr;obtain⟨c,hc,rfl⟩:=hr;obtain⟨g1,g2⟩:=L7 hc;obtain⟨vs,h1,h2,h3⟩:=h;refine⟨vs,h1,by omega,fun i x ver hi=>?_⟩;obtain⟨j,e1,e2,e3⟩:=g2 i x ver hi;exact⟨by rw[e3];exact Nat.zero_le _,fun _=>by rw[fj x j e2];exact(h3 i j _ e1).2 rfl⟩
 all_goals cases hr
theorem ayW (hσ:σ.le σ1){ei:Nat→Value}(fj:∀i j,cv is js i=some j→ei i=aP j){s x:Sh}(hr:kp S1.ver is js s=some x){v:Value}{d:D}(h:aJ C (fo shs obs) ρf σ ei s v d):aJ C S1 ρ1 σ1 aP x v d:=by
 cases s<;>simp only[kp] at hr
 case none=>cases hr;trivial
 case dat=>cases hr;exact Rep.mono hσ h
 case obj i ver=>
  cases hb:Nat.beq ver 0<;>simp only[hb,cond_true,cond_false] at hr
  ·cases hr
  simp only[Option.map_eq_some_iff] at hr;obtain⟨j,hj,rfl⟩:=hr;exact⟨Nat.le_refl _,fun _=>by rw[←fj i j hj];exact h.2 (Nat.eq_of_beq_eq_true hb)⟩
 case ptr i ver off=>
  cases hb:Nat.beq ver 0<;>simp only[hb,cond_true,cond_false] at hr
  ·cases hr
  simp only[Option.map_eq_some_iff] at hr;obtain⟨j,hj,rfl⟩:=hr;exact⟨Nat.le_refl _,fun _=>by rw[←fj i j hj];exact h.2 (Nat.eq_of_beq_eq_true hb)⟩
 case fclo f caps=>
  simp only[Option.map_eq_some_iff] at hr;obtain⟨c,hc,rfl⟩:=hr;obtain⟨g1,g2⟩:=L7 hc;obtain⟨vs,h1,h2,h3⟩:=h;refine⟨vs,h1,by omega,fun i j ver hi=>?_⟩;have af:i<caps.length:=by have:=(List.getElem?_eq_some_iff.1 hi).1;omega
  obtain⟨j',e1,e2,e3⟩:=g2 i _ _ (List.getElem?_eq_getElem af);rw[hi] at e1;cases e1;exact⟨Nat.le_refl _,fun _=>by rw[←fj _ j e2];exact(h3 i _ _ (List.getElem?_eq_getElem af)).2 e3⟩
 all_goals cases hr
theorem apb {c x:Sh}(hf:Bx c x=true){v:Value}{d:D}(h:aJ C S ρ σ hv c v d):aJ C S ρ σ hv x v d:=by
 cases x with
 |none=>trivial
 |dat b=>
  simp only[Bx] at hf;split at hf
  ·exact Rep.sub h hf
  ·cases hf
 |_=>simp only[Bx] at hf;rw[Sh.beq_eq _ _ hf] at h;exact h
theorem aw8 (hσ:Im.leR C.cap σ σ1){ei:Nat→Value}{C3:Nat→Option Nat}(fj:∀i j,cv is js i=some j→ei i=hv j)(bM:∀k j i,own k=some j→cv js is j=some i→C3 k=some i)(bu:js.Nodup){i j N:Nat}(cw:cv is js i=some j)(hρ:ρf.o i=ρ.o j){ob x:Ob}
 (hr:pk S.ver is js ob=some x) (hf:xz (S.o j) x=true) (h:cg C S ρ σ own hv w N j (S.o j)):cg C (fo shs obs) ρf σ1 C3 ei w N i ob:=by
 have sS:=H7 bu cw;cases ob<;>simp only[pk] at hr
 case row T e=>
  cases hr;cases ho:S.o j<;>rw[ho] at hf h<;>simp only[xz,Bool.and_eq_true] at hf<;>try (cases hf;done)
  obtain⟨cells,xs,h1,h2,h3,h4⟩:=h;rw[Nat.eq_of_beq_eq_true hf.1,Ty.beq_eq _ _ hf.2] at*;exact⟨cells,xs,by rw[hρ];exact h1,by rw[fj i j cw];exact h2,h3.monoR hσ,fun k hk=>bM k j i (h4 k (by rw[←fj i j cw];exact hk)) sS⟩
 case mp kt et=>
  cases hr;cases ho:S.o j<;>rw[ho] at hf h<;>simp only[xz,Bool.and_eq_true] at hf<;>try (cases hf;done)
  obtain⟨k,arr,clock,es,h1,h2,h3,h4,h5,h6,h7⟩:=h;rw[Ty.beq_eq _ _ hf.1,Ty.beq_eq _ _ hf.2] at*;exact⟨k,arr,clock,es,by rw[fj i j cw];exact h1,bM k j i h2 sS,h3,by rw[hρ];exact h4,h5,h6,fun n e p he hp=>⟨hσ.rep (h7 n e p he hp).1,hσ.rep (h7 n e p he hp).2⟩⟩
 case box ag cs=>
  simp only[Option.map_eq_some_iff] at hr;obtain⟨fL,eP,rfl⟩:=hr;cases ho:S.o j<;>rw[ho] at hf h<;>simp only[xz,Bool.and_eq_true] at hf<;>try (cases hf;done)
  obtain⟨k,vs,T,ds,h1,h2,h3,h4,h5,h6,h7⟩:=h;obtain⟨l1,g1⟩:=XP hf.2;obtain⟨l2,g2⟩:=S9 eP;refine⟨k,vs,T,ds,by rw[fj i j cw];exact h1,bM k j i h2 sS,h3,by omega,by rw[hρ];exact h5,by omega,fun n s hs=>?_⟩;obtain⟨y,hy,Cq⟩:=g2 n s hs;obtain⟨z,hz,B0⟩:=g1 n y hy;exact⟨(S8 Cq).1,af3 hσ fj Cq (apb B0 (h7 n z hz).2)⟩
 all_goals cases hr
theorem aw9 (hσ:σ.le σ1){ei:Nat→Value}{C3:Nat→Option Nat}(fj:∀i j,cv is js i=some j→ei i=aP j)(bM:∀k i j,C3 k=some i→cv is js i=some j→dy k=some j){i j N:Nat}(cw:cv is js i=some j)(hρ:ρ1.o j=ρf.o i){ob x:Ob}
 (hr:pk S1.ver is js ob=some x) (h:cg C (fo shs obs) ρf σ C3 ei w N i ob):cg C S1 ρ1 σ1 dy aP w N j x:=by
 cases ob<;>simp only[pk] at hr
 case row T e=>
  cases hr;obtain⟨cells,xs,h1,h2,h3,h4⟩:=h;exact⟨cells,xs,by rw[hρ];exact h1,by rw[←fj i j cw];exact h2,h3.mono hσ,fun k hk=>bM k i j (h4 k (by rw[fj i j cw];exact hk)) cw⟩
 case mp kt et=>
  cases hr;obtain⟨k,arr,clock,es,h1,h2,h3,h4,h5,h6,h7⟩:=h;exact⟨k,arr,clock,es,by rw[←fj i j cw];exact h1,bM k i j h2 cw,h3,by rw[hρ];exact h4,h5,h6,fun n e p he hp=>⟨(h7 n e p he hp).1.mono hσ,(h7 n e p he hp).2.mono hσ⟩⟩
 case box ag cs=>
  simp only[Option.map_eq_some_iff] at hr;obtain⟨fL,eP,rfl⟩:=hr;obtain⟨k,vs,T,ds,h1,h2,h3,h4,h5,h6,h7⟩:=h;obtain⟨l2,g2⟩:=S9 eP;refine⟨k,vs,T,ds,by rw[←fj i j cw];exact h1,bM k i j h2 cw,h3,by omega,by rw[hρ];exact h5,by omega,fun n s hs=>?_⟩;have af:n<cs.length:=by have:=(List.getElem?_eq_some_iff.1 hs).1;omega
  obtain⟨y,hy,Cq⟩:=g2 n _ (List.getElem?_eq_getElem af);rw[hs] at hy;cases hy;exact⟨(S8 Cq).2,ayW hσ fj Cq (h7 n _ (List.getElem?_eq_getElem af)).2⟩
 all_goals cases hr
theorem ayV {ver:Nat→Nat}{ob x:Ob}(hr:pk ver is js ob=some x):x≠.tr:=by
 cases ob<;>simp only[pk] at hr
 case row=>cases hr;intro e;cases e
 case mp=>cases hr;intro e;cases e
 case box=>
  simp only[Option.map_eq_some_iff] at hr;obtain⟨_,_,rfl⟩:=hr;intro e;cases e
 all_goals cases hr
theorem CtxOK.noM (h:CtxOK C σ):CtxOK C σ.noM:=⟨fun g x hx=>(h.glob g x hx).noM⟩
def zF (C:Ctx)(S:St)(ρ:Env)(σ:Im)(hv:Nat→Value)(x:m5)(v:Value)(d:D):Prop:=aJ C S ρ σ hv x.1 v d∧∀y,x.2=some y→Rep C.cap σ y.1 v (y.2.ev ρ)
theorem XL:∀{acts:List m5} {shs:List Sh} {es:List PE},sG S is js acts shs=some es→acts.length=shs.length∧es.length=shs.length∧∀(t:Nat) (s:Sh),shs[t]?=some s→∃x e,acts[t]?=some x∧es[t]?=some e∧Bw S is js x s=some e
 |[],[],es,h=>by simp only[sG,Option.some.injEq] at h;subst h;exact⟨rfl,rfl,fun t s h=>by simp at h⟩
 |[],_::_,es,h=>by simp[sG] at h
 |_::_,[],es,h=>by simp[sG] at h
 |x::acts,s::shs,es,h=>by
  simp only[sG,Option.bind_eq_some_iff,Option.map_eq_some_iff] at h;obtain⟨e,he,r,hr,rfl⟩:=h;obtain⟨g1,g2,g3⟩:=XL hr;refine⟨by simp[g1],by simp[g2],fun t s' hs=>?_⟩;cases t with
  |zero=>simp at hs;subst hs;exact⟨x,e,rfl,rfl,he⟩
  |succ t=>simp at hs;simpa using g3 t s' hs
theorem apa (hσ:Im.leR C.cap σ σ1){ei:Nat→Value}(fj:∀i j,cv is js i=some j→ei i=hv j){x:m5}{s:Sh}{e:PE}(hf:Bw S is js x s=some e){v:Value}{d:D}(h:zF C S ρ σ hv x v d):aJ C (fo shs obs) ρf σ1 ei s v (e.ev ρ):=by
 have gen:∀s,(match kp S.ver is js s with|some y=>bif Sh.beq x.1 y then some (PE.con .none) else none|none=>none)=some e→mJ s=false→aJ C (fo shs obs) ρf σ1 ei s v (e.ev ρ):=by
  intro s hm hd;split at hm
  ·rename_i y hy;cases hb:Sh.beq x.1 y<;>simp only[hb,cond_true,cond_false] at hm
   ·cases hm
   have h1:=h.1;rw[Sh.beq_eq _ _ hb] at h1;have:=af3 (shs:=shs) (obs:=obs) (ρf:=ρf) hσ fj hy h1;cases s with
   |dat t=>cases hd
   |opt gs s'=>exact absurd rfl ((S8 hy).1 gs s')
   |eptr j ver size off=>simp[kp] at hy
   |_=>exact this
  ·cases hm
 unfold Bw at hf;split at hf
 ·rename_i t;split at hf
  ·rename_i y hy;cases hb:Ty.sub y.1 t<;>simp only[hb,cond_true,cond_false] at hf
   ·cases hf
   cases hf;exact hσ.rep ((h.2 y hy).sub hb)
  ·cases hf
 ·trivial
 ·rename_i ic mC;refine gen _ hf ?_;cases s<;>first|rfl|exact absurd rfl (ic _)
theorem anM {ei P7:Nat→Value}{σ σ':Im}{ρf ρf':Env}{args:Nat→Value}{ds ds':Nat→D}(h1:∀(t:Nat) (s:Sh),shs[t]?=some s→aJ C (fo shs obs) ρf σ ei s (args t) (ds t))(h2:∀(t:Nat) (s:Sh),shs[t]?=some s→mJ s=false→aJ C (fo shs obs) ρf' σ' P7 s (args t) (ds' t))
 (hz:∀s,s∈shs→∃x,kp S.ver is js s=some x) {i:Nat} (hi:i∈od shs):P7 i=ei i:=by
 have key:∀(l:List Sh),(∀s,s∈l→∃t:Nat,shs[t]?=some s)→i∈od l→P7 i=ei i:=by
  intro l
  induction l with
  |nil=>intro _ h;cases h
  |cons s l ih=>
   intro hl hi;obtain⟨t,ht⟩:=hl s (List.mem_cons_self ..);have xP:∀s,s∈l→∃t:Nat,shs[t]?=some s:=fun s hs=>hl s (List.mem_cons_of_mem _ hs);obtain⟨x,hx⟩:=hz s (List.mem_of_getElem? ht);have a1:=h1 t s ht;have a2:=h2 t s ht;cases s<;>simp only[od] at hi
   case obj j ver=>
        simp only[kp] at hx;cases hb:Nat.beq ver 0<;>simp only[hb,cond_true,cond_false] at hx
        ·cases hx
        rcases List.mem_cons.1 hi with e|e
        ·subst e;rw[←(a1.2 (Nat.eq_of_beq_eq_true hb)),←((a2 rfl).2 (Nat.eq_of_beq_eq_true hb))]
        ·exact ih xP e
   case ptr j ver off=>
        simp only[kp] at hx;cases hb:Nat.beq ver 0<;>simp only[hb,cond_true,cond_false] at hx
        ·cases hx
        rcases List.mem_cons.1 hi with e|e
        ·subst e;obtain⟨k1,e1,e2⟩:=a1.2 (Nat.eq_of_beq_eq_true hb);obtain⟨k2,e3,e4⟩:=(a2 rfl).2 (Nat.eq_of_beq_eq_true hb);rw[e2] at e4;cases e4;rw[e1,e3]
        ·exact ih xP e
   case fclo f caps=>
        simp only[kp,Option.map_eq_some_iff] at hx;obtain⟨c,hc,_⟩:=hx;obtain⟨_,g2⟩:=L7 hc;rcases List.mem_append.1 hi with e|e
        ·obtain⟨y,hy,e1⟩:=List.mem_map.1 e;subst e1;obtain⟨m,hm⟩:=List.getElem?_of_mem hy;obtain⟨vs,b1,b2,b3⟩:=a1;obtain⟨zB,c1,c2,c3⟩:=a2 rfl;rw[b1] at c1;have gz:vs=zB:=by simpa using c1
         subst gz;obtain⟨_,_,_,yi⟩:=g2 m y.1 y.2 hm;rw[←(b3 m y.1 y.2 hm).2 yi,←(c3 m y.1 y.2 hm).2 yi]
        ·exact ih xP e
   all_goals exact ih xP hi
 exact key shs (fun s hs=>List.getElem?_of_mem hs) hi
end
section
variable {C:Ctx} {S:St} {ρ:Env} {σ:Im} {own:Nat→Option Nat} {hv:Nat→Value} {w0:World} {σ0:Base} {A:Nat→Prop} {a:Act} {w:World} {Φ:aS} {dst:Nat}
 {is js:List Nat} {shs:List Sh} {obs:List (Nat×Ob)}
theorem Below.weak {B:Nat}{w w':World}(h:Below 0 w w')(hk:∀k,k<B→w'.heap[k]?=w.heap[k]?):Below B w w':=⟨h.os,h.tape,h.output,h.size,hk⟩
def nF (js is:List Nat)(own:Nat→Option Nat):Nat→Option Nat:=fun k=>(own k).bind (cv js is)
def C2 (js is:List Nat)(own own':Nat→Option Nat):Nat→Option Nat:=fun k=>
 match own' k with
 |some i=>cv is js i
 |none=>match own k with|some j=>(match cv js is j with|some _=>none|none=>some j)|none=>none
theorem handed (h:Inv C S ρ σ own hv w0 σ0 A a w)(hC:CtxOK C σ0)(aud:CY shs obs=true)(B3:is=obs.map (·.1))(Za:is.Nodup)(Hz:js.Nodup)(Hn:pQ S is js obs js=true){acts:List m5}{es:List PE}(ib:sG S is js acts shs=some es)
 (Hj:S.o gF=.dead) (HN:gF∉js) {vals:List Value} (hvl:vals.length=acts.length) (aso:∀(t:Nat) (x:m5),acts[t]?=some x→∃d,zF C S ρ σ hv x (vals.getD t undef) d) {f:Nat} {res:Ty} {d:D}
 (hfn:kW C f shs obs res (es.map (PE.ev ρ)++js.map ρ.o) d):
 Calls C.P f vals.toArray w fun e w'=>∃v dr os,e=.returned v∧d=.tup (dr::os)∧os.length=js.length∧
  ∀ρ':Env,ρ'.r=ρ.r→(∀(k j:Nat),js[k]?=some j→ρ'.o j=os.getD k .none)→(∀j,j∉js→j≠gF→ρ'.o j=ρ.o j)→
   ∃σ1 dy aP,Inv C (S.handed shs obs is js) ρ' σ1 dy aP w0 σ0 A a w'∧Rep C.cap σ1 res v dr:=by
 obtain⟨al1,al2,jd⟩:=XL ib;have eD:=XO Hn;have td:w0.heap.size≤w.heap.size:=h.below.size;obtain⟨tr,fx,cx,hf,rz⟩:=h.frame
 let ei:Nat→Value:=fun i=>match cv is js i with|some j=>hv j|none=>undef
 have fj:∀i j,cv is js i=some j→ei i=hv j:=fun i j e=>by simp only[ei,e]
 have YQ:Im.leR C.cap σ σ.noM:=⟨Rep.noM,fun _ _ _ e=>e⟩
 have Cc:∀k x,σ.noM.m k=some x→σ.m k=some x∧x≠cI:=by
  intro k x e;by_cases hd:σ.m k=some cI
  ·simp[Im.noM,hd] at e
  ·simp only[Im.noM,if_neg hd] at e;exact⟨e,fun e2=>hd (by rw[e,e2])⟩
 have mw:(es.map (PE.ev ρ)++js.map ρ.o).drop shs.length=js.map ρ.o:=by rw[List.drop_append];simp[al2]
 have as7:∀t e,es[t]?=some e→(es.map (PE.ev ρ)++js.map ρ.o).getD t .none=e.ev ρ:=fun t e he=>by
  have af:=(List.getElem?_eq_some_iff.1 he).1;rw[List.getD_eq_getElem?_getD,List.getElem?_append_left (by simpa using af),List.getElem?_map,he];rfl
 have auo:∀s,s∈shs→∃x,kp S.ver is js s=some x:=by
  intro s hs;obtain⟨t,ht⟩:=List.getElem?_of_mem hs;obtain⟨x,e,_,_,he⟩:=jd t s ht;unfold Bw at he;split at he
  ·exact⟨_,rfl⟩
  ·exact⟨_,rfl⟩
  ·split at he
   ·rename_i y hy;exact⟨y,hy⟩
   ·cases he
 have YK:∀t,aJ C (fo shs obs) (lD obs (es.map (PE.ev ρ)++js.map ρ.o) ((es.map (PE.ev ρ)++js.map ρ.o).drop shs.length)) σ.noM ei (shs.getD t .none) (vals.toArray.getD t undef) ((es.map (PE.ev ρ)++js.map ρ.o).getD t .none):=by
  intro t;cases hs:shs[t]? with
  |none=>rw[List.getD_eq_getElem?_getD,hs];trivial
  |some s=>
   obtain⟨x,e,hx,he,Hm⟩:=jd t s hs;obtain⟨d',asp⟩:=aso t x hx;rw[List.getD_eq_getElem?_getD (l:=shs),hs,as7 t e he];have e1:vals.toArray.getD t undef=vals.getD t undef:=by simp[Array.getD_eq_getD_getElem?,List.getD_eq_getElem?_getD]
   rw[e1];exact apa YQ fj Hm asp
 have atp:∀i,cg C (fo shs obs) (lD obs (es.map (PE.ev ρ)++js.map ρ.o) ((es.map (PE.ev ρ)++js.map ρ.o).drop shs.length)) σ.noM (nF js is own) ei w w0.heap.size i (dP obs i):=by
  intro i;cases cw:cv is js i with
  |none=>subst B3;rw[aak eD cw];trivial
  |some j=>
   subst B3;obtain⟨x,hx,Ho⟩:=XN Hn cw;refine aw8 YQ fj (fun k j' i' hk hl=>by simp only[nF,hk,Option.bind_some,hl]) Hz cw ?_ hx Ho (h.objs j);show mO obs _ i=_;rw[mw];exact avx obs ρ.o rfl cw
 have va:=hfn w0.heap.size σ.noM (nF js is own) ei w vals.toArray (fun k=>(∃j,own k=some j∧cv js is j=none)∨σ.m k=some cI∨(cx k)) aud ⟨h.ok.c,fun k x e=>h.ok.m k x (Cc k x e).1⟩ ((hC.mono h.le).noM)
  (fun k e=>(Cc k _ e).2 rfl) td (by simp;omega) (fun k i hk=>by
    simp only[nF,Option.bind_eq_some_iff] at hk;obtain⟨j,hj,_⟩:=hk;obtain⟨g1,g2,g3,g4⟩:=h.owns k j hj;exact⟨g1,g2,g3,by by_cases e:σ.m k=some cI<;>simp[Im.noM,e,g4]⟩) (fun k hk=>by
    rcases hk with⟨j,hj,hn⟩|hk|hk
    ·obtain⟨g1,g2,g3,g4⟩:=h.owns k j hj;exact⟨g2,by simp[nF,hj,hn],g3,by by_cases e:σ.m k=some cI<;>simp[Im.noM,e,g4]⟩
    ·have B9:=h.ok.m k _ hk;have hn:own k=none:=by
      cases e:own k with
      |none=>rfl
      |some j=>rw[(h.owns k j e).2.2.2] at hk;cases hk
     refine⟨B9.lt,by simp[nF,hn],fun o=>?_,by simp[Im.noM,hk]⟩;cases e:σ.c k o with
     |none=>exact e
     |some x=>
      have c1:=h.ok.c k o x e;rcases B9 with⟨m1,_⟩|⟨_,m2⟩
      ·exact absurd rfl m1
      ·simp[World.cell?,m2] at c1
    ·have j7:=σ0.sub _ _ _ _ hf.F k hk;have hn:own k=none:=by
      cases e:own k with
      |none=>rfl
      |some j=>exact absurd j7 (hf.own k j e)
     refine⟨σ0.lt _ _ _ _ hf.F k j7,by simp[nF,hn],fun o=>?_,?_⟩
     ·cases e:σ.c k o with
      |none=>exact e
      |some x=>exact absurd hk (hf.c k o x e)
     ·cases e:σ.m k with
      |none=>simp[Im.noM,e]
      |some x=>exact absurd hk (hf.m k x e)) YK atp
 refine va.mono fun e w' hh=>?_;obtain⟨v,σ',own',hv',dr,os,rfl,hd,PA,hle,az,hb,iu,dg,cW,xQ,Zg,Pe,Py,kI⟩:=hh;refine⟨v,dr,os,rfl,hd,by omega,fun ρ' gS p7 vy=>?_⟩;have HD:∀k,k<w.heap.size→own k=none→w'.heap[k]?=w.heap[k]?:=fun k hk hn=>iu k hk (by simp[nF,hn]);have at6:∀k j,own k=some j→cv js is j=none→w'.heap[k]?=w.heap[k]?:=fun k j hk hn=>iu k (h.owns k j hk).2.1 (by simp[nF,hk,hn])
 have asL:∀k o x,σ.c k o=some x→own k=none:=fun k o x e=>by
  cases e1:own k with
  |none=>rfl
  |some j=>rw[(h.owns k j e1).2.2.1 o] at e;cases e
 have YY:∀k x,σ.m k=some x→own k=none:=fun k x e=>by
  cases e1:own k with
  |none=>rfl
  |some j=>rw[(h.owns k j e1).2.2.2] at e;cases e
 have HF:σ.ok w':=⟨fun k o x e=>by rw[World.cell?_of_block (HD k (h.lt e) (asL k o x e))];exact h.ok.c k o x e,fun k x e=>(h.ok.m k x e).keep (HD k (h.ltm e) (YY k x e))⟩
 have ll:σ.le (σ'.plus σ):=Im.plus_le2 az HF;have ln:σ'.le (σ'.plus σ):=Im.plus_le1 σ' σ;have eP:∀k o x,(σ'.plus σ).c k o=some x→σ'.c k o=some x:=fun k o x e=>(Im.plus_c e).elim id (fun e=>hle.c k o x e)
 have xS:∀k x,(σ'.plus σ).m k=some x→σ'.m k=some x∨(σ.m k=some x∧x=cI):=fun k x e=>(Im.plus_m e).elim .inl (fun e=>by
  by_cases hd:x=cI
  ·exact .inr ⟨e,hd⟩
  ·refine .inl (hle.m k x ?_);have:σ.m k≠some cI:=fun e2=>hd (by rw[e] at e2;cases e2;rfl);simp only[Im.noM,if_neg this,e])
 let aP:Nat→Value:=fun j=>match cv js is j with|some i=>hv' i|none=>hv j
 have auX:∀i j,cv is js i=some j→hv' i=aP j:=fun i j e=>by simp only[aP,H7 Hz e]
 have asU:∀i,i∈od shs→hv' i=ei i:=fun i hi=>anM (S:=S) (is:=is) (js:=js) (args:=fun t=>vals.toArray.getD t undef) (ds:=fun t=>(es.map (PE.ev ρ)++js.map ρ.o).getD t .none) (ds':=fun t=>(es.map (PE.ev ρ)++js.map ρ.o).getD t .none) (fun t s hs=>by
  have:=YK t;rw[List.getD_eq_getElem?_getD (l:=shs),hs] at this;exact this) (fun t s hs hd=>Pe t s hs hd) auo hi
 have sL:Compat S hv (S.handed shs obs is js) aP:=by
  refine⟨fun j=>?_,fun j e=>?_⟩
  ·show S.ver j≤uu S.ver shs is js j;unfold uu;split
   ·cases aF (od shs) _<;>simp
   ·exact Nat.le_refl _
  ·change uu S.ver shs is js j=S.ver j at e;show aP j=hv j;simp only[aP];unfold uu at e;split at e
   ·rename_i i hi;cases hb:aF (od shs) i<;>rw[hb] at e
    ·simp at e
    ·try simp only[hi]
     rw[asU i (ZJ.1 hb),fj i j (H7 Za hi)]
   ·rename_i hi;try simp only[hi]
 have pW:∀k j,C2 js is own own' k=some j→(k<w.heap.size→own k≠none)∧w0.heap.size≤k∧k<w'.heap.size∧(∀o,σ'.c k o=none)∧σ'.m k=none∧σ.m k≠some cI:=by
  intro k j hk;simp only[C2] at hk;split at hk
  ·rename_i i hi;obtain⟨g1,g2,g3,g4,g5⟩:=Zg k i hi;have g6:k<w.heap.size→own k≠none:=fun af e=>g5 af (by simp[nF,e]);refine⟨g6,g1,g2,g3,g4,fun e=>?_⟩;exact g6 (h.ltm e) (YY k _ e)
  ·split at hk
   ·rename_i j' cN;split at hk
    ·cases hk
    ·rename_i hn;obtain⟨g1,g2,g3,g4⟩:=h.owns k j' cN;have j5:(∃j,own k=some j∧cv js is j=none)∨σ.m k=some cI∨(cx k):=.inl ⟨j',cN,hn⟩;refine⟨fun _ e=>(by rw[cN] at e;cases e),g1,Nat.lt_of_lt_of_le g2 hb.size,fun o=>?_,?_,fun e=>?_⟩
     ·cases e:σ'.c k o with
      |none=>rfl
      |some x=>exact absurd j5 (dg k o x e).2
     ·cases e:σ'.m k with
      |none=>rfl
      |some x=>exact absurd j5 (cW k x e).2
     ·rw[g4] at e;cases e
   ·cases hk
 refine⟨σ'.plus σ,C2 js is own own',aP,⟨h.defers.mono ll,Im.plus_ok az HF,h.le.trans ll,h.old,fun k o x e=>?_,fun k x e=>?_,h.below.trans (Below.weak hb fun k hk=>?_),h.bw,fun k j hk=>?_,fun t=>?_,fun j=>?_,h.opts,?_⟩,kI.mono ln⟩
 ·rcases(dg k o x (eP k o x e)).1 with e1|e1
  ·exact h.newc k o x e1
  ·exact .inr e1
 ·rcases xS k x e with e1|e1
  ·rcases(cW k x e1).1 with e2|e2
   ·exact h.newm k x (Cc k x e2).1
   ·exact .inr e2
  ·exact h.newm k x e1.1
 ·have ct:k<w0.heap.size:=Nat.lt_of_lt_of_le hk h.bw;refine HD k (by omega) ?_;cases e:own k with
  |none=>rfl
  |some j=>have:=(h.owns k j e).1;omega
 ·obtain⟨_,g1,g2,g3,g4,g5⟩:=pW k j hk;refine⟨g1,g2,fun o=>?_,?_⟩
  ·cases e:(σ'.plus σ).c k o with
   |none=>rfl
   |some x=>have:=eP k o x e;rw[g3 o] at this;cases this
  ·cases e:(σ'.plus σ).m k with
   |none=>rfl
   |some x=>
    rcases xS k x e with e1|e1
    ·rw[g4] at e1;cases e1
    ·exact absurd (by rw[e1.1,e1.2]) g5
 ·show aJ C _ ρ' _ aP (S.r t) _ (ρ'.r t);rw[gS]
  exact aJ.mono ll sL (fun gs s e=>by
   unfold holds;rw[gS]) (fun gs s e=>(h.opts t gs s e).2) (h.regs t)
 ·show cg C _ ρ' _ _ aP w' _ j (match cv js is j with|some i=>(match pk (uu S.ver shs is js) is js (dP obs i) with|some o=>o|none=>.dead)|none=>S.o j);split
  ·rename_i i hi;have cw:=H7 Za hi;split
   ·rename_i x hx;refine aw9 (S1:=S.handed shs obs is js) ln auX (fun k i' j' hk hl=>by simp only[C2,hk,hl]) cw ?_ hx (Py i);subst B3;obtain⟨k,cD,ct⟩:=aad (os:=os) PA cw;show ρ'.o j=mO obs os i;rw[ct];exact p7 k j cD
   ·trivial
  ·rename_i hn
   have Ps:j∉js:=fun hm=>by
        obtain⟨k,hk⟩:=List.getElem?_of_mem hm;have af:k<is.length:=by
         have:=(List.getElem?_eq_some_iff.1 hk).1;rw[B3,List.length_map];omega
        have:=H6 Hz hk (List.getElem?_eq_getElem af);rw[hn] at this;cases this
   by_cases Hu:j=gF
   ·subst Hu;rw[Hj];trivial
   ·refine(h.objs j).mono ll sL (by show aP j=hv j;simp only[aP,hn]) (vy j Ps Hu) (fun k hk=>⟨?_,at6 k j hk hn⟩);have:own' k=none:=by
     cases e:own' k with
     |none=>rfl
     |some i=>exact absurd (by simp[nF,hk,hn]) ((Zg k i e).2.2.2.2 (h.owns k j hk).2.1)
    simp only[C2,this,hk,hn]
 ·refine⟨tr,fx,cx,⟨σ0.keep _ _ _ _ _ hf.F hb fun k hk=>?_,fun k j hk j7=>?_,fun k o x e hc=>?_,fun k x e hc=>?_,fun k e hB hk=>?_⟩,fun j hj=>?_⟩
  ·refine HD k (σ0.lt _ _ _ _ hf.F k hk) ?_;cases e:own k with
   |none=>rfl
   |some j=>exact absurd hk (hf.own k j e)
  ·have af:=σ0.lt _ _ _ _ hf.F k j7;have:=(pW k j hk).1 af;cases e:own k with
   |none=>exact this e
   |some j'=>exact hf.own k j' e j7
  ·exact(dg k o x (eP k o x e)).2 (.inr (.inr hc))
  ·rcases xS k x e with e1|e1
   ·exact(cW k x e1).2 (.inr (.inr hc))
   ·exact hf.m k x e1.1 hc
  ·rcases xS k _ e with e1|e1
   ·have af:=σ0.lt _ _ _ _ hf.F k hk;refine xQ k e1 hB af ?_;have:own k=none:=by
     cases e:own k with
     |none=>rfl
     |some j=>exact absurd hk (hf.own k j e)
    simp[nF,this]
   ·exact hf.d k e1.1 hB hk
  ·change (match cv js is j with|some i=>(match pk (uu S.ver shs is js) is js (dP obs i) with|some o=>o|none=>.dead)|none=>S.o j)=.tr at hj;split at hj
   ·rename_i i hi;split at hj
    ·rename_i x hx;exact absurd hj (ayV hx)
    ·cases hj
   ·rename_i hn
    have Ps:j∉js:=fun hm=>by
     obtain⟨k,hk⟩:=List.getElem?_of_mem hm;have af:k<is.length:=by
         have:=(List.getElem?_eq_some_iff.1 hk).1;rw[B3,List.length_map];omega
     have:=H6 Hz hk (List.getElem?_eq_getElem af);rw[hn] at this;cases this
    have Hu:j≠gF:=fun e=>by subst e;rw[Hj] at hj;cases hj
    rw[vy j Ps Hu];exact rz j hj
theorem agn:∀(js:List Nat) (k:Nat) {ρ ρ':Env} {l:List D},PI.runs Φ (Eg js k) ρ=some ρ'→ρ.o gF=.tup l→gF∉js→js.Nodup→
 ρ'.r=ρ.r∧(∀(i j:Nat),js[i]?=some j→ρ'.o j=l.getD (k+i) .none)∧∀j,j∉js→ρ'.o j=ρ.o j
 |[],k,ρ,ρ',l,h,hs,hn,hd=>by
  simp only[Eg,PI.runs,Option.some.injEq] at h;subst h;exact⟨rfl,fun i j e=>by simp at e,fun _ _=>rfl⟩
 |x::js,k,ρ,ρ',l,h,hs,hn,hd=>by
  simp only[Eg,PI.runs,PI.run,Option.bind_some,PE.ev,hs,D.tget] at h;simp only[List.mem_cons,not_or] at hn;have dH:=List.nodup_cons.1 hd;obtain⟨g1,g2,g3⟩:=agn js (k+1) h (by simp only[Env.setO];rw[bk _ _ hn.1];exact hs) hn.2 dH.2;refine⟨g1,fun i j e=>?_,fun j hj=>?_⟩
  ·cases i with
   |zero=>simp at e;subst e;rw[g3 _ dH.1];simp[Env.setO,aQ]
   |succ i=>simp at e;rw[g2 i j e];congr 1;omega
  ·simp only[List.mem_cons,not_or] at hj;rw[g3 j hj.2];simp only[Env.setO];exact bk _ _ hj.1
theorem ahx (h:Inv C S ρ σ own hv w0 σ0 A a w)(hC:CtxOK C σ0)(x:Operand):∃d,zF C S ρ σ hv (EH C S x) (a.eval x) d:=by
 cases x with
 |tmp t=>
  refine⟨ρ.r t,?_,fun y hy=>cd (gs:=[]) h hC rfl hy⟩;have:=(nR (gs:=[]) h rfl t).1;simpa [Act.eval,EH,fV] using this
 |_=>exact⟨.none,trivial,fun y hy=>cd (gs:=[]) h hC rfl hy⟩
theorem Xo (h:Inv C S ρ σ own hv w0 σ0 A a w)(hC:CtxOK C σ0)(hΦ:cY C Φ){f:Nat}{args:List Operand}{caps:List (Nat×Nat)}{vs:List Value}(gz:vs.length=caps.length)
 (j3:∀(i j ver:Nat),caps[i]?=some (j,ver)→ver≤S.ver j∧(ver=S.ver j→vs.getD i undef=hv j)) (asC:∀(i j ver:Nat),caps[i]?=some (j,ver)→ver=S.ver j→∃k,hv j=.pointer (some ⟨k,0,none⟩)) {r:St×Ty×List PI} (hr:pH C S f args caps=some r)
 {ρ1:Env} (ak:PI.runs Φ r.2.2 ρ=some ρ1):
 Calls C.P f (args.map a.eval++vs).toArray w fun e w'=>∃v σ1 dy aP,e=.returned v∧Inv C r.1 ρ1 σ1 dy aP w0 σ0 A a w'∧Rep C.cap σ1 r.2.1 v ((ρ1.o gF).tget 0):=by
 simp only[pH,Option.bind_eq_some_iff] at hr;obtain⟨s,hs,hr⟩:=hr;split at hr
 case h_2=>cases hr
 rename_i shs obs oD;obtain⟨σ2,gV,ln,h2⟩:=Inv.fzs (xC S args shs) h;have dN:=(pR (xC S args shs) S).1;generalize S.fzs (xC S args shs)=S2 at hr h2 dN;unfold Od Oc at hr;generalize XH S2 shs obs (args.map (EH C S2)++caps.map WR)=js at hr;simp only[Option.bind_eq_some_iff] at hr;obtain⟨es,ib,hr⟩:=hr;cases hb:(CY shs obs&&(jo (obs.map (·.1))&&jo js&&pQ S2 (obs.map (·.1)) js obs js&&nw (S2.o gF)&& !aF js gF))<;>simp only[hb,cond_true,cond_false] at hr
 ·cases hr
 cases hr;simp only[Bool.and_eq_true,Bool.not_eq_true'] at hb;obtain⟨b0,⟨⟨⟨b1,b2⟩,b3⟩,b4⟩,b5⟩:=hb;have ic:=mQ b1;have mC:=mQ b2;have Hj:S2.o gF=.dead:=by
  cases e:S2.o gF<;>rw[e] at b4<;>first|rfl|cases b4
 have HN:gF∉js:=fun hm=>by rw[ZJ.2 hm] at b5;cases b5
 simp only[PI.runs,PI.run,Option.bind_eq_some_iff,Option.map_eq_some_iff] at ak;obtain⟨ρ2,⟨d,hd,rfl⟩,ak⟩:=ak;rw[PE.evs_eq,List.map_append,List.map_map] at hd;have e1:js.map (PE.ev ρ∘PE.o)=js.map ρ.o:=rfl;rw[e1] at hd;have hfn:=(hΦ f _ d hd s hs).2 shs obs oD
 have va:=handed h2 hC b0 rfl ic mC b3 ib Hj HN (vals:=args.map a.eval++vs) (by simp[gz]) (fun t x hx=>by
  rw[List.getElem?_append] at hx;split at hx
  ·rename_i af;rw[List.length_map] at af;rw[List.getElem?_map,List.getElem?_eq_getElem af] at hx;cases hx;have:(args.map a.eval++vs).getD t undef=a.eval args[t]:=by
        rw[List.getD_eq_getElem?_getD,List.getElem?_append_left (by simpa using af),List.getElem?_map,List.getElem?_eq_getElem af];rfl
   rw[this];exact ahx h2 hC _
  ·rename_i gd;rw[List.length_map] at gd hx;rw[List.getElem?_map,Option.map_eq_some_iff] at hx;obtain⟨c,hc,rfl⟩:=hx;obtain⟨j,ver⟩:=c;have bW:(args.map a.eval++vs).getD t undef=vs.getD (t-args.length) undef:=by
        rw[List.getD_eq_getElem?_getD,List.getElem?_append_right (by simpa using gd),List.length_map,List.getD_eq_getElem?_getD]
   obtain⟨g1,g2⟩:=j3 _ j ver hc;refine⟨.none,⟨by rw[dN];exact g1,fun e=>?_⟩,fun y hy=>by cases hy⟩;rw[dN] at e;obtain⟨k,hk⟩:=asC _ j ver hc e;exact⟨k,hk,by rw[bW,g2 e,hk]⟩) (hfn:=hfn)
 refine va.mono fun e w' hh=>?_;obtain⟨v,dr,os,rfl,rfl,PA,my⟩:=hh;obtain⟨g1,g2,g3⟩:=agn js 1 (l:=dr::os) ak (by simp[Env.setO,aQ]) HN mC
 obtain⟨σ1,dy,aP,hinv,bN⟩:=my ρ1 g1 (fun k j hk=>by
  have:=g2 k j hk;rw[Nat.add_comm] at this;simpa using this) (fun j hj aE=>by rw[g3 j hj];simp only[Env.setO];exact bk _ _ aE)
 refine⟨v,σ1,dy,aP,rfl,hinv,?_⟩;rw[g3 gF HN];simpa [Env.setO,aQ,D.tget] using bN
def oO (S:St)(dst:Option Nat)(r:St×Ty×List PI):St×List PI:=
 match dst with
 |some d=>(r.1.setR d (.dat r.2.1),r.2.2++[.setR d (.tget (.o gF) 0)])
 |none=>(r.1,r.2.2)
theorem azb {a b:List PI}{ρ:Env}:PI.runs Φ (a++b) ρ=(PI.runs Φ a ρ).bind (PI.runs Φ b):=by
 induction a generalizing ρ with
 |nil=>simp[PI.runs]
 |cons x a ih=>
  simp only[List.cons_append,PI.runs];cases x.run Φ ρ with
  |none=>rfl
  |some ρ1=>simp[ih]
theorem WN {o:Oper}{f:Nat}{vals:List Value}(ht:∀d,o.dst=some d→¬A d∧d<a.tmps.size){r:St×Ty×List PI}(hx:(execOp a.eval o).run C.P w=.ok (.enter f vals.toArray) w)
 (hc:∀ρ1,PI.runs Φ r.2.2 ρ=some ρ1→Calls C.P f vals.toArray w fun e w'=>∃v σ1 dy aP,e=.returned v∧Inv C r.1 ρ1 σ1 dy aP w0 σ0 A a w'∧Rep C.cap σ1 r.2.1 v ((ρ1.o gF).tget 0)):bR C w0 σ0 Φ S ρ A a w o (oO S o.dst r):=by
 intro ρ' ak K Q hK;simp only[Oper.wp,hx,Oper.upon];cases hd:o.dst with
 |none=>
  rw[hd] at ak hK;refine(hc ρ' ak).mono fun e w' hh=>?_;obtain⟨v,σ1,dy,aP,rfl,hinv,bN⟩:=hh;refine hK _ _ ⟨σ1,dy,aP,?_⟩ rfl;have:(fun u=>A u∨(none:Option Nat)=some u)=A:=by funext u;simp
  rw[this];exact hinv
 |some d=>
  rw[hd] at ak hK;obtain⟨t1,t2⟩:=ht d hd;simp only[oO,azb,Option.bind_eq_some_iff] at ak;obtain⟨ρ1,h1,h2⟩:=ak;simp[PI.runs,PI.run,PE.ev] at h2;subst h2;refine(hc ρ1 h1).mono fun e w' hh=>?_;obtain⟨v,σ1,dy,aP,rfl,hinv,bN⟩:=hh;refine hK _ _ ⟨σ1,dy,aP,?_⟩ (size_put _ _ _);have:(fun u=>A u∨some d=some u)=(fun u=>A u∨u=d):=by funext u;simp[eq_comm]
  rw[this];exact hinv.setReg t1 (s:=.dat r.2.1) bN t2 (fun _ _ e=>by cases e)
theorem Xp (h:Inv C S ρ σ own hv w0 σ0 A a w)(hC:CtxOK C σ0)(ba:dz C)(hΦ:cY C Φ){f:Nat}{args:Array Operand}{ts:Array TypeId}{r:St×Ty×List PI}{o:Oper}(ht:∀d,o.dst=some d→¬A d∧d<a.tmps.size)
 (hr:pH C S f args.toList []=some r) (ho:o.op=.call {callee:=.value (.func f),args:=args,argTypes:=ts}):bR C w0 σ0 Φ S ρ A a w o (oO S o.dst r):=by
 have hs:∃s,C.sig f=some s:=by
  simp only[pH,Option.bind_eq_some_iff] at hr;obtain⟨s,hs,_⟩:=hr;exact⟨s,hs⟩
 obtain⟨s,hs⟩:=hs;have hx:=Tg (a:=a) (w:=w) ba hs ho;have ls:args.map a.eval=(args.toList.map a.eval++[]).toArray:=by apply Array.ext';simp
 rw[ls] at hx;exact WN ht hx fun ρ1 ak=>Xo h hC hΦ (vs:=[]) rfl (fun i j ver e=>by simp at e) (fun i j ver e=>by simp at e) hr ak
def xj (S:St):List (Nat×Nat)→Bool
 |[]=>true
 |c::l=>Nat.beq c.2 (S.ver c.1)&&(match S.o c.1 with|.box ..=>true|_=>false)&&xj S l
theorem WT (h:Inv C S ρ σ own hv w0 σ0 A a w):∀{l:List (Nat×Nat)},xj S l=true→∀(i j ver:Nat),l[i]?=some (j,ver)→ver=S.ver j∧∃k,hv j=.pointer (some ⟨k,0,none⟩)
 |[],_,i,j,ver,e=>by simp at e
 |c::l,hl,i,j,ver,e=>by
  simp only[xj,Bool.and_eq_true] at hl;cases i with
  |zero=>
   simp at e;subst e;refine⟨Nat.eq_of_beq_eq_true hl.1.1,?_⟩;have h1:=hl.1.2;have h2:=h.objs j;split at h1
   ·rename_i ag shs eo;simp only at eo;rw[eo] at h2;obtain⟨k,cs,T,ds,g1,_⟩:=h2;exact⟨k,g1⟩
   ·cases h1
  |succ i=>simp at e;exact WT h hl.2 i j ver e
def xr (C:Ctx)(S:St)(t:Nat)(args:List Operand):Option (St×Ty×List PI):=
 match kr S [] t with
 |.fclo f caps=>bif xj S caps then pH C S f args caps else none
 |_=>none
theorem Xn (h:Inv C S ρ σ own hv w0 σ0 A a w)(hC:CtxOK C σ0)(ba:dz C)(hΦ:cY C Φ){t:Nat}{args:Array Operand}{ts:Array TypeId}{r:St×Ty×List PI}{o:Oper}(ht:∀d,o.dst=some d→¬A d∧d<a.tmps.size)
 (hr:xr C S t args.toList=some r) (ho:o.op=.call {callee:=.value (.tmp t),args:=args,argTypes:=ts}):bR C w0 σ0 Φ S ρ A a w o (oO S o.dst r):=by
 unfold xr at hr;split at hr
 case h_2=>cases hr
 rename_i f caps kc;cases hb:xj S caps<;>simp only[hb,cond_true,cond_false] at hr
 ·cases hr
 have jk:=(nR (gs:=[]) h rfl t).1;rw[kc] at jk;obtain⟨vs,h1,h2,h3⟩:=jk;have hs:∃s,C.sig f=some s:=by
  simp only[pH,Option.bind_eq_some_iff] at hr;obtain⟨s,hs,_⟩:=hr;exact⟨s,hs⟩
 obtain⟨s,hs⟩:=hs;have hx:=agf (a:=a) (w:=w) (vs:=vs) (x:=.tmp t) ba hs (by simpa [Act.eval] using h1) ho;have ls:args.map a.eval++vs.toArray=(args.toList.map a.eval++vs).toArray:=by apply Array.ext';simp
 rw[ls] at hx;exact WN ht hx fun ρ1 ak=>Xo h hC hΦ h2 h3 (fun i j ver e _=>(WT h hb i j ver e).2) hr ak
def Ah (S:St):List Operand→Option (List (Nat×Nat))
 |[]=>some []
 |x::xs=>
  match x with
  |.tmp t=>
   match kr S [] t with
   |.ptr j ver off=>bif Nat.beq ver (S.ver j)&&Nat.beq off 0 then(Ah S xs).map fun r=>(j,ver)::r else none
   |_=>none
  |_=>none
def Bj (C:Ctx)(S:St)(dst:Nat)(fn:Fn)(first caps:Array Operand):Option (St×List PI):=
 match fn,first.toList with
 |.func f,[]=>
  match C.sig f with
  |some s=>bif qf s.mode then(Ah S caps.toList).map fun c=>(S.setR dst (.fclo f c),[.setR dst (.con .none)]) else none
  |none=>none
 |_,_=>none
theorem WU (h:Inv C S ρ σ own hv w0 σ0 A a w):∀{l:List Operand} {c:List (Nat×Nat)},Ah S l=some c→c.length=l.length∧∀(i j ver:Nat),c[i]?=some (j,ver)→ver≤S.ver j∧(ver=S.ver j→(l.map a.eval).getD i undef=hv j)
 |[],c,e=>by simp only[Ah,Option.some.injEq] at e;subst e;exact⟨rfl,fun i j ver e=>by simp at e⟩
 |x::xs,c,e=>by
  simp only[Ah] at e;split at e
  case h_2=>cases e
  rename_i t;split at e
  case h_2=>cases e
  rename_i j ver off kc;cases hb:(Nat.beq ver (S.ver j)&&Nat.beq off 0)<;>simp only[hb,cond_true,cond_false] at e
  ·cases e
  simp only[Bool.and_eq_true] at hb;simp only[Option.map_eq_some_iff] at e;obtain⟨r,hr,rfl⟩:=e;obtain⟨g1,g2⟩:=WU h hr;have jk:=(nR (gs:=[]) h rfl t).1;rw[kc] at jk;refine⟨by simp[g1],fun i j' nU e=>?_⟩;cases i with
  |zero=>
   simp at e;obtain⟨rfl,rfl⟩:=e;refine⟨jk.1,fun e=>?_⟩;obtain⟨k,k1,k2⟩:=jk.2 e;have e0:off=0:=Nat.eq_of_beq_eq_true hb.2;subst e0;rw[k1,←k2];simp[Act.eval]
  |succ i=>simp at e;simpa using g2 i j' nU e
theorem aom (h:Inv C S ρ σ own hv w0 σ0 A a w)(ht:¬A dst)(af:dst<a.tmps.size){fn:Fn}{first caps:Array Operand}{r:St×List PI}{o:Oper}(hr:Bj C S dst fn first caps=some r)(hd:o.dst=some dst)(ho:o.op=.makeFunc fn first caps):bR C w0 σ0 Φ S ρ A a w o r:=by
 unfold Bj at hr;split at hr
 case h_2=>cases hr
 rename_i f BZ;split at hr
 case h_2=>cases hr
 rename_i s hs;cases hb:qf s.mode<;>simp only[hb,cond_true,cond_false] at hr
 ·cases hr
 simp only[Option.map_eq_some_iff] at hr;obtain⟨c,hc,rfl⟩:=hr;obtain⟨g1,g2⟩:=WU h hc;have nm:first=#[]:=by rw[←Array.toList_inj];simpa using BZ
 refine bR.value hd fun ρ' ak=>⟨.func (.func f) #[] (caps.toList.map a.eval).toArray,w,?_,?_⟩
 ·subst nm;have e9:caps.map a.eval=(caps.toList.map a.eval).toArray:=by apply Array.ext';rw[Array.toList_map]
  simp[execOp,ho,Instr.makeFunc,e9]
 ·have hρ:ρ'=ρ.setR dst .none:=by simp[PI.runs,PI.run,PE.ev] at ak;exact ak.symm
  subst hρ;exact⟨_,_,_,h.setReg ht (s:=.fclo f c) ⟨_,rfl,by simp[g1],g2⟩ af (fun _ _ e=>by cases e)⟩
end
end Cx
namespace Cx
open Go Go.RowKit
inductive Gh where
 |fz (j:Nat)|fbox (b:Nat)|rereg (t j:Nat)|recell (b i j:Nat)|home (b i j:Nat) (T:TypeId)
def Gh.run (C:Ctx)(S:St):Gh→Option (St×List PI)
 |.fz j=>some (S.fz j,[])
 |.fbox b=>BD S b
 |.rereg t j=>wM S t j
 |.recell b i j=>D7 S b i j
 |.home b i j T=>Cg C S b i j T
def jc (C:Ctx):List Gh→St→Option (St×List PI)
 |[],S=>some (S,[])
 |g::gs,S=>(g.run C S).bind fun r=>(jc C gs r.1).map fun q=>(q.1,r.2++q.2)
theorem nQ {Φ:aS}:∀{a b:List PI} {ρ:Env},PI.runs Φ (a++b) ρ=(PI.runs Φ a ρ).bind (PI.runs Φ b)
 |[],b,ρ=>by simp[PI.runs]
 |x::a,b,ρ=>by
  simp only[List.cons_append,PI.runs];cases x.run Φ ρ with
  |none=>rfl
  |some ρ1=>simp[nQ (a:=a) (b:=b)]
def ou (S:St)(ops:Array Oper)(o:Oper):Option (List (Nat×Bool)):=
 match o.guard with
 |none=>some []
 |some (j,want)=>
  match(ops[j]?).bind (·.dst) with
  |some t=>
   match S.r t with
   |.dat .bool=>some [(t,want)]
   |.opt gs (.dat .bool)=>some ((t,want)::gs)
   |_=>none
  |none=>none
def tM (S:St)(gs:List (Nat×Bool)):Op→List Nat
 |.build _ ps=>cl S gs (ps.toList.map (·.2))
 |.buildSlice _ _ ps=>cl S gs (ps.toList.map (·.2))
 |.box _ x=>cl S gs [x]
 |.pick _ x y=>cl S gs [x,y]
 |.slice _ x _ _ _=>cl S gs [x]
 |.mapUpdate _ _ k v=>cl S gs [k,v]
 |.insert _ _ k v=>cl S gs [k,v]
 |.store _ x v=>match fV S gs x with|.eptr ..=>cl S gs [v]|_=>[]
 |_=>[]
def Ai:List Sh→List Nat
 |[]=>[]
 |.obj j _::r=>j::Ai r
 |_::r=>Ai r
def EX (S:St)(gs:List (Nat×Bool)):List Operand→List Nat
 |[]=>[]
 |x::xs=>
  match fV S gs x with
  |.ptr j ver off=>bif Nat.beq ver (S.ver j)&&(match S.o j with|.box ..=>true|_=>false) then j::EX S gs xs else EX S gs xs
  |_=>EX S gs xs
def acY (C:Ctx):Fn→Bool
 |.func f=>(match C.sig f with|some s=>qf s.mode|none=>false)
 |_=>false
def pre (C:Ctx)(S:St)(gs:List (Nat×Bool))(op:Op):List Gh:=
 match op with
 |.makeFunc fn _ caps=>
  bif acY C fn then[] else(EX S gs caps.toList).flatMap fun b=>(match S.o b with|.box _ shs=>(Ai shs).map .fz|_=>[])++[.fbox b]
 |.load T x=>
  match fV S gs x,oJ C.P T,C.P.info? T with
  |.ptr j _ off,some true,some inf=>(match S.o j with|.box _ shs=>(Ai ((shs.drop off).take inf.size)).map .fz|_=>[])
  |_,_,_=>[]
 |op=>(tM S gs op).map .fz
def oS (C:Ctx)(S:St)(gs:List (Nat×Bool))(o:Oper):List Gh:=
 match o.op,o.dst with
 |.assign x,some t=>bif C.fr.any (Nat.beq t) then(cl S gs [x]).map .fz else[]
 |_,_=>[]
def N0 (P:Program):Nat→TypeId→List (Option TypeId)
 |0,_=>[]
 |n+1,t=>
  match P.underlying t with
  |some (.struct fs)=>fs.toList.flatMap fun f=>N0 P n f.type
  |some (.array len e)=>(List.replicate len (N0 P n e)).flatten
  |some (.slice e)=>[some e]
  |_=>[none]
def homes (P:Program)(b off:Nat)(T:TypeId):List Gh:=
 ((N0 P 12 T).zipIdx).filterMap fun x=>x.1.map fun e=>.home b (off+x.2) (Zf b (off+x.2)) e
def HZ (nh:List Nat)(l:List Gh):List Gh:=l.filter fun g=>match g with|.home _ _ j _=> !(nh.any (Nat.beq j))|_=>true
def af2 (b off n:Nat):List Gh:=(List.range n).map fun i=>.recell b (off+i) (Zf b (off+i))
def post (C:Ctx)(S:St)(o:Oper):List Gh:=
 match o.op,o.dst with
 |.assign _,some t=>[.rereg t t]
 |.alloc T,some t=>HZ C.nh (homes C.P t 0 T)
 |.store T x _,_=>
  match fV S [] x with
  |.ptr j _ off=>HZ C.nh (homes C.P j off T)++af2 j off (match C.P.info? T with|some i=>i.size|none=>0)
  |_=>[]
 |_,_=>[]
def qn:Sh→Bool
 |.opt ..=>false
 |_=>true
def sC (C:Ctx)(S:St)(dst:Nat)(T:TypeId)(x:Operand):kV:=
 match x with
 |.const v=>(nT C.P T).bind fun t=>(nV t).bind fun z=>bif iT t v then some (S.setR dst (.dat z.1),[.setR dst (.con z.2)]) else none
 |_=>none
def core (C:Ctx)(S:St)(gs:List (Nat×Bool))(o:Oper):Option (St×List PI):=
 match o.dst with
 |some dst=>
  match nD C S gs dst o.op with
  |some r=>bif qn r.1 then some (S.setR dst (gZ gs r.1),r.2) else none
  |none=>
   match o.op,gs with
   |.assign x,[]=>
    bif C.fr.any (Nat.beq dst) then
          match oP C S [] dst x with
          |some r=>some (S.setR dst r.1,r.2)
          |none=>sC C S dst o.type x
    else
    match Bk C S dst o.type x with
    |some r=>some r
    |none=>
     match oP C S [] dst x with
     |some r=>some (S.setR dst r.1,r.2)
     |none=>sC C S dst o.type x
   |.alloc T,[]=>Bc C S dst T
   |.box T x,[]=>Be C S dst T x
   |.buildSlice T n ps,gs=>
    match gs with
    |[]=>uP C S [] dst T n ps.toList
    |_=>xt C S gs dst T n ps.toList
   |.makeSlice T l c,[]=>Bi C S dst T l c
   |.makeMap T r,[]=>Bh C S dst T r
   |.range T x,[]=>Bl C S dst T x
   |.convert T U x,[]=>Bf C S dst T U x
   |.call c,gs=>
    match c.callee,gs with
    |.builtin .append,[]=>
     match c.args.toList,c.argTypes.toList with
     |[s,x],[T,T']=>bif Nat.beq T T' then Bd C S dst T s x else none
     |_,_=>none
    |.value (.func f),gs=>
     match oe C S gs dst f c.args.toList with
     |some r=>some (r.1.setR dst (gZ gs r.2.1),r.2.2)
     |none=>
      match gs with
      |[]=>
       match Bg C S dst f c.args.toList with
       |some r=>some r
       |none=>(pH C S f c.args.toList []).map (oO S (some dst))
      |_=>none
    |.value x,gs=>
     match na C S gs dst x c.args.toList with
     |some r=>some (r.1.setR dst (gZ gs r.2.1),r.2.2)
     |none=>
      match x,gs with
      |.tmp t,[]=>(xr C S t c.args.toList).map (oO S (some dst))
      |_,_=>none
    |_,_=>none
   |.makeFunc fn first caps,[]=>Bj C S dst fn first caps
   |_,_=>none
 |none=>
  match o.op,gs with
  |.store T x v,[]=>sB C S T x v
  |.mapUpdate T m k v,[]=>qW C S T m k v
  |.insert T m k v,[]=>qW C S T m k v
  |.panic _,[]=>some (S,[.chk (.nt (.con (.bool true)))])
  |.call c,[]=>
   match c.callee with
   |.value (.func f)=>(pH C S f c.args.toList []).map (oO S none)
   |.value (.tmp t)=>(xr C S t c.args.toList).map (oO S none)
   |_=>none
  |_,_=>none
def aez (dst:Nat)(l:List PI):Bool:=l.all fun p=>p.modR.all (Nat.beq dst)&&p.modO.isEmpty
def hG (gs:List (Nat×Bool))(dst:Option Nat)(l:List PI):Bool:=
 match gs,dst with
 |[],_=>true
 |_,some d=>aez d l
 |_,none=>false
def A8 (C:Ctx)(S:St)(ops:Array Oper)(o:Oper):Option (St×List PI):=
 (ou S ops o).bind fun gs=>
 (jc C (pre C S gs o.op++oS C S gs o) S).bind fun r1=>
 (core C r1.1 gs o).bind fun r2=>
 (jc C (post C r2.1 o) r2.1).bind fun r3=>
 bif hG gs o.dst r2.2 then some (r3.1,r1.2++r2.2++r3.2) else none
def Em:PI:=.chk (.con (.v (.bool false)))
def xn (C:Ctx)(S:St)(ops:Array Oper)(o:Oper):Option (St×List PI):=
 match A8 C S ops o with
 |some r=>some r
 |none=>some (match o.dst with|some d=>S.setR d .none|none=>S,[Em])
section
variable {C:Ctx} {S:St} {ρ:Env} {σ:Im} {own:Nat→Option Nat} {hv:Nat→Value} {w0:World} {σ0:Base} {A:Nat→Prop} {a:Act} {w:World} {gs:List (Nat×Bool)} {Φ:aS} {dst:Nat}
theorem Gh.sound {g:Gh}{r:St×List PI}(h:Good C w0 σ0 S ρ A a w)(hr:g.run C S=some r):zH C w0 σ0 Φ S ρ A a w r:=by
 obtain⟨σ,own,hv,h⟩:=h;cases g with
 |fz j=>
  simp only[Gh.run,Option.some.injEq] at hr;subst hr;intro ρ' ak;rw[mT ak];obtain⟨σ',own',_,h'⟩:=h.fz j;exact⟨σ',own',hv,h'⟩
 |fbox b=>exact arF h hr
 |rereg t j=>exact ayU h hr
 |recell b i j=>exact ayT h hr
 |home b i j T=>exact at3 h hr
theorem OC:∀(l:List Gh) {S:St} {ρ ρ':Env} {r:St×List PI},Good C w0 σ0 S ρ A a w→jc C l S=some r→PI.runs Φ r.2 ρ=some ρ'→Good C w0 σ0 r.1 ρ' A a w
 |[],S,ρ,ρ',r,h,hr,ak=>by
  simp only[jc,Option.some.injEq] at hr;subst hr;rw[mT ak];exact h
 |g::l,S,ρ,ρ',r,h,hr,ak=>by
  simp only[jc,Option.bind_eq_some_iff,Option.map_eq_some_iff] at hr;obtain⟨q,hq,q2,eE,rfl⟩:=hr;simp only[nQ,Option.bind_eq_some_iff] at ak;obtain⟨ρ1,h1,h2⟩:=ak;exact OC (r:=q2) l (Gh.sound (Φ:=Φ) h hq ρ1 h1) eE h2
theorem X1 (h:Good C w0 σ0 S ρ A a w){ops:Array Oper}{o:Oper}(hg:ou S ops o=some gs):Region.wanted o (yielded ops a.tmps)=holds gs ρ:=by
 obtain⟨σ,own,hv,h⟩:=h;unfold ou at hg;unfold Region.wanted;split at hg
 ·rename_i e;cases hg;simp[e,holds]
 ·rename_i j want e;simp only[e];split at hg
  case h_2=>cases hg
  rename_i t ht;have jk:=h.regs t;have hy:∀v,a.tmps.getD t undef=v→(∀b,v=.bool b→yielded ops a.tmps j=some b)∧(v=undef→yielded ops a.tmps j=none):=by
   intro v hv';unfold yielded;rw[ht];simp only[Option.bind_some];rw[Array.getD_eq_getD_getElem?] at hv';cases sQ:a.tmps[t]? with
   |none=>rw[sQ] at hv';simp at hv';subst hv';exact⟨fun b e=>absurd e (by simp[undef]),fun _=>rfl⟩
   |some u=>rw[sQ] at hv';simp at hv';subst hv';exact⟨fun b e=>by subst e;rfl,fun e=>by subst e;rfl⟩
  split at hg
  ·rename_i es;cases hg;rw[es] at jk;obtain⟨b,je,dX⟩:=Rep.bool_inv jk;rw[(hy _ je).1 b rfl];simp[holds,dX,D.b_bool]
  ·rename_i bB es;cases hg;rw[es] at jk;simp only[holds,List.all_cons];cases hh:holds bB ρ with
   |true=>
    obtain⟨b,je,dX⟩:=Rep.bool_inv (jk.1 hh);rw[(hy _ je).1 b rfl];unfold holds at hh;rw[hh,dX];simp[D.b_bool]
   |false=>
    rw[(hy _ (jk.2 hh)).2 rfl];unfold holds at hh;rw[hh];simp
  ·cases hg
theorem X0 (h:Good C w0 σ0 S ρ A a w){ops:Array Oper}{o:Oper}(hg:ou S ops o=some gs)(hj:∀j want t,o.guard=some (j,want)→(ops[j]?).bind (·.dst)=some t→A t):∀g,g∈gs→A g.1:=by
 obtain⟨σ,own,hv,h⟩:=h;unfold ou at hg;split at hg
 ·cases hg;simp
 ·rename_i j want e;split at hg
  case h_2=>cases hg
  rename_i t ht;have hA:=hj j want t e ht;split at hg
  ·cases hg;intro g hm;simp at hm;subst hm;exact hA
  ·rename_i bB es;cases hg;intro g hm;rcases List.mem_cons.1 hm with e'|eQ
   ·subst e';exact hA
   ·exact(h.opts t bB _ es).1 g eQ
  ·cases hg
theorem axE (h:Inv C S ρ σ own hv w0 σ0 A a w)(hC:CtxOK C σ0)(hg:holds gs ρ=true){o:Oper}{r:Sh×List PI}(hr:nD C S gs dst o.op=some r):dV C S ρ σ hv Φ dst a w o r:=by
 unfold nD at hr;split at hr
 ·rename_i x e;exact aeD h hC hg hr (.inl e)
 ·rename_i c x y e;exact axD h hC hg hr e
 ·rename_i op T x y T' e;exact axe h hC hg hr e
 ·rename_i op T x e;exact axI h hC hg hr e
 ·rename_i s d x e;exact axi h hC hg hr e
 ·rename_i T x e;exact IF h hC hg hr e
 ·rename_i T x i e;exact axm h hC hg hr e
 ·rename_i T x i e;exact axo h hC hg hr e
 ·rename_i T x i e;exact axr h hC hg hr e
 ·rename_i T x i e;exact axt h hC hg hr e
 ·rename_i x i e;exact axk h hC hg hr e
 ·rename_i T m k ok e;exact axz h hC hg hr e
 ·rename_i T x lo hi mx e;exact axG h hC hg hr e
 ·rename_i f a b e;exact axp h hC hg hr e
 ·rename_i T ps e;exact axg h hC hg hr e
 ·rename_i x e;exact axB h hC hg hr e
 ·cases hr;intro ρ' ak;have:=(Ti hg ak).1;cases this
 ·rename_i c e;split at hr
  ·rename_i x T hc ha ht;refine axv h hC hg hr ?_;rw[e];cases c with|mk callee args argTypes=>
   simp only at hc ha ht;have h1:args=#[x]:=by rw[←Array.toList_inj];exact ha
   have h2:argTypes=#[T]:=by rw[←Array.toList_inj];exact ht
   rw[hc,h1,h2]
  ·rename_i x y hc ha;refine aeB (ts:=c.argTypes) h hC hg hr ?_;rw[e];cases c with|mk callee args argTypes=>
   simp only at hc ha;have h1:args=#[x,y]:=by rw[←Array.toList_inj];exact ha
   rw[hc,h1];rfl
  ·rename_i x y hc ha;refine aeB (ts:=c.argTypes) h hC hg hr ?_;rw[e];cases c with|mk callee args argTypes=>
   simp only at hc ha;have h1:args=#[x,y]:=by rw[←Array.toList_inj];exact ha
   rw[hc,h1];rfl
  ·cases hr
 ·cases hr
theorem aou (h:Inv C S ρ σ own hv w0 σ0 A a w)(ht:¬A dst)(af:dst<a.tmps.size){T:TypeId}{x:Operand}{r:St×List PI}(hr:sC C S dst T x=some r){o:Oper}(hd:o.dst=some dst)(ho:o.op=.assign x):bR C w0 σ0 Φ S ρ A a w o r:=by
 unfold sC at hr;split at hr
 case h_2=>cases hr
 rename_i v;simp only[Option.bind_eq_some_iff] at hr;obtain⟨t,_,z,hz,hr⟩:=hr;cases hc:iT t v<;>simp only[hc,cond_true,cond_false] at hr
 ·cases hr
 cases hr;have bN:=(w7 (cap:=C.cap) (σ:=σ) hz hc).1;refine bR.value hd fun ρ' ak=>⟨v,w,by simp[execOp,ho,Act.eval],?_⟩
 have hρ:ρ'=ρ.setR dst z.2:=by simp[PI.runs,PI.run,PE.ev] at ak;exact ak.symm
 subst hρ;exact⟨_,_,_,h.setReg ht (s:=.dat z.1) bN af (fun _ _ e=>by cases e)⟩
theorem anE (h:Inv C S ρ σ own hv w0 σ0 A a w)(hC:CtxOK C σ0)(ba:dz C)(hΦ:cY C Φ){o:Oper}(ht:∀d,o.dst=some d→¬A d∧d<a.tmps.size)(dC:∀g,g∈gs→A g.1)(hg:holds gs ρ=true){r:St×List PI}
 (hr:core C S gs o=some r):bR C w0 σ0 Φ S ρ A a w o r:=by
 unfold core at hr;split at hr
 ·rename_i dst hd;obtain⟨gf,gg⟩:=ht dst hd;split at hr
  ·rename_i q hq;cases fN:qn q.1<;>simp only[fN,cond_true,cond_false] at hr
   ·cases hr
   cases hr;have Zl:=axE (Φ:=Φ) h hC hg hq;cases gs with
   |nil=>exact Zl.eff h gf gg hd
   |cons g bB=>exact Zl.effG h gf gg dC hg hd
  ·rename_i Pt;clear Pt;split at hr
   ·rename_i x e
    have mv:∀r,(match oP C S [] dst x with|some r=>some (S.setR dst r.1,r.2)|none=>sC C S dst o.type x)=some r→bR C w0 σ0 Φ S ρ A a w o r:=by
     intro r hr;split at hr
     ·rename_i q hq;cases hr;exact(aeD (Φ:=Φ) h hC hg hq (.inr e)).eff h gf gg hd
     ·exact aou h gf gg hr hd e
    cases cV:C.fr.any (Nat.beq dst)<;>simp only[cV,cond_true,cond_false] at hr
    ·split at hr
     ·rename_i q hq;cases hr;exact aoo h hC gf gg hq hd e
     ·exact mv r hr
    ·exact mv r hr
   ·rename_i T e;exact anY h gf gg hr hd e
   ·rename_i T x e;exact an2 h hC gf gg hr hd e
   ·rename_i T n ps e;split at hr
    ·exact an4 h hC gf gg hr hd e
    ·exact aog h hC gf gg dC hg hr hd e
   ·rename_i T l c e;exact aok h hC gf gg hr hd e
   ·rename_i T m e;exact aoi h gf gg hr hd e
   ·rename_i T x e;exact aoq h gf gg hr hd e
   ·rename_i T U x e;exact an6 h hC gf gg hr hd e
   ·rename_i c e;cases c with|mk callee args argTypes=>
    split at hr
    ·rename_i hc;simp only at hc;split at hr
     ·rename_i s x T T' ha P3;simp only at ha P3;cases hT:Nat.beq T T'<;>simp only[hT,cond_true,cond_false] at hr
      ·cases hr
      have xG:=Nat.eq_of_beq_eq_true hT;subst xG;refine an0 h hC gf gg hr hd ?_;have h1:args=#[s,x]:=by rw[←Array.toList_inj];exact ha
      have h2:argTypes=#[T,T]:=by rw[←Array.toList_inj];exact P3
      rw[e,hc,h1,h2]
     ·cases hr
    ·rename_i f hc;simp only at hc;split at hr
     ·rename_i q hq;cases hr;exact aoe h hC ba hΦ gf gg dC hg hq hd (by rw[e,hc])
     ·split at hr
      ·split at hr
       ·rename_i q hq;cases hr;exact aob h hC ba hΦ gf gg hq hd (by rw[e,hc])
       ·simp only[Option.map_eq_some_iff] at hr;obtain⟨q,hq,rfl⟩:=hr;rw[←hd];exact Xp h hC ba hΦ ht hq (by rw[e,hc])
      ·cases hr
    ·rename_i x Pr hc;simp only at hc;split at hr
     ·rename_i q hq;cases hr;exact an9 h hC ba hΦ gf gg dC hg hq hd (by rw[e,hc])
     ·split at hr
      ·simp only[Option.map_eq_some_iff] at hr;obtain⟨q,hq,rfl⟩:=hr;rw[←hd];exact Xn h hC ba hΦ ht hq (by rw[e,hc])
      ·cases hr
    ·cases hr
   ·rename_i fn first caps e;exact aom h gf gg hr hd e
   ·cases hr
 ·rename_i hd;split at hr
  ·rename_i T x v e;exact aos h hC hr hd e
  ·rename_i T m k v e;exact Xr h hC hr hd (.inl e)
  ·rename_i T m k v e;exact Xr h hC hr hd (.inr e)
  ·cases hr;intro ρ' ak;simp[PI.runs,PI.run,PE.ev,D.bool,D.b] at ak
  ·rename_i c e;cases c with|mk callee args argTypes=>
   split at hr
   ·rename_i f hc;simp only at hc;simp only[Option.map_eq_some_iff] at hr;obtain⟨q,hq,rfl⟩:=hr;rw[←hd];exact Xp h hC ba hΦ ht hq (by rw[e,hc])
   ·rename_i t hc;simp only at hc;simp only[Option.map_eq_some_iff] at hr;obtain⟨q,hq,rfl⟩:=hr;rw[←hd];exact Xn h hC ba hΦ ht hq (by rw[e,hc])
   ·cases hr
  ·cases hr
theorem anC {g:Nat×Bool}{bB:List (Nat×Bool)}{o:Oper}{r:St×List PI}(hr:core C S (g::bB) o=some r):
 ∃dst S2 s,o.dst=some dst∧r.1=S2.setR dst (.opt (g::bB) s)∧((∃js,S2=S.fzs js)∨∃j,S2=S.newO j .dead)∧(∀gs s',s≠.opt gs s')∧(∀x,o.op≠.assign x)∧(∀T,o.op≠.alloc T)∧∀T x v,o.op≠.store T x v:=by
 unfold core at hr;split at hr
 ·rename_i dst hd;split at hr
  ·rename_i q hq;cases fN:qn q.1<;>simp only[fN,cond_true,cond_false] at hr
   ·cases hr
   cases hr;refine⟨dst,S,q.1,hd,rfl,.inl ⟨[],rfl⟩,(fun gs s' e=>by rw[e] at fN;cases fN),fun x e=>?_,fun T e=>?_,fun T x v e=>?_⟩<;>(rw[e] at hq;simp[nD] at hq)
  ·rename_i Pt;clear Pt;split at hr
   case h_4=>
        rename_i T n ps e;split at hr
        ·rename_i hx;cases hx
        ·unfold xt at hr;split at hr
         case h_2=>cases hr
         simp only[Option.bind_eq_some_iff] at hr;obtain⟨e0,he0,hr⟩:=hr;split at hr
         ·cases hr;exact⟨dst,_,.dat (.slice e0.rol),hd,rfl,.inr ⟨dst,rfl⟩,(fun _ _ e=>by cases e),(fun x e'=>by rw[e] at e';cases e'),(fun x e'=>by rw[e] at e';cases e'),(fun _ _ _ e'=>by rw[e] at e';cases e')⟩
         ·cases hr
   case h_9=>
        rename_i c e;split at hr
        ·rename_i hx;cases hx
        ·rename_i f hc;split at hr
         ·rename_i q hq;cases hr;simp only[oe,Option.bind_eq_some_iff] at hq;obtain⟨s,hs,hq⟩:=hq;split at hq
          case h_2=>cases hq
          simp only[Option.bind_eq_some_iff] at hq;obtain⟨u,hu,hq⟩:=hq;cases bV:Ty.subs u.1 s.args<;>simp only[bV,cond_true,cond_false] at hq
          ·cases hq
          cases hq;refine⟨dst,_,.dat s.res,hd,rfl,?_,(fun _ _ e=>by cases e),(fun x e'=>by rw[e] at e';cases e'),(fun x e'=>by rw[e] at e';cases e'),(fun _ _ _ e'=>by rw[e] at e';cases e')⟩;left;cases s.res.pure
          ·exact⟨_,rfl⟩
          ·exact⟨[],rfl⟩
         ·cases hr
        ·rename_i x Pr hc;have hr:∃q,na C S (g::bB) dst x c.args.toList=some q∧(q.1.setR dst (gZ (g::bB) q.2.1),q.2.2)=r:=by
          split at hr
          ·rename_i q hq;cases hr;exact⟨q,hq,rfl⟩
          ·split at hr
           all_goals (first|(cases hr;done)|(rename_i hx;cases hx;done)|(rename_i hx _;cases hx;done)|(rename_i hx _ _;cases hx;done)|(rename_i hx;exact absurd hx (by simp)))
         obtain⟨q,hq,rfl⟩:=hr;unfold na at hq;split at hq
         case h_2=>cases hq
         rename_i as r0 ee P5;split at hq
         case h_1=>cases hq
         simp only[Option.bind_eq_some_iff] at hq;obtain⟨u,hu,hq⟩:=hq;cases bV:Ty.subs u.1 as<;>simp only[bV,cond_true,cond_false] at hq
         ·cases hq
         cases hq;refine⟨dst,_,.dat r0,hd,rfl,?_,(fun _ _ e=>by cases e),(fun x e'=>by rw[e] at e';cases e'),(fun x e'=>by rw[e] at e';cases e'),(fun _ _ _ e'=>by rw[e] at e';cases e')⟩;left;cases r0.pure
         ·exact⟨_,rfl⟩
         ·exact⟨[],rfl⟩
        ·cases hr
   all_goals (first|(cases hr;done)|(rename_i hx;cases hx;done)|(rename_i hx _;cases hx;done))
 ·split at hr
  all_goals (first|(cases hr;done)|(rename_i hx;cases hx;done)|(rename_i hx _;cases hx;done))
theorem Ze {ρ ρ1:Env}:∀{l:List (Nat×Bool)},(∀g,g∈l→ρ1.r g.1=ρ.r g.1)→holds l ρ1=holds l ρ
 |[],_=>rfl
 |x::l,h=>by
  have ih:=Ze (l:=l) fun y hy=>h y (List.mem_cons_of_mem _ hy);unfold holds at ih ⊢;simp only[List.all_cons];rw[ih,h x (List.mem_cons_self ..)]
theorem XX:∀(l:List Gh) {S:St} {r:St×List PI},jc C l S=some r→∀t,t∉r.2.flatMap PI.modR
 |[],S,r,hr=>by simp only[jc,Option.some.injEq] at hr;subst hr;simp
 |g::l,S,r,hr=>by
  simp only[jc,Option.bind_eq_some_iff,Option.map_eq_some_iff] at hr;obtain⟨q,hq,q2,eE,rfl⟩:=hr;have ih:=XX l eE;have hg:∀t,t∉q.2.flatMap PI.modR:=by
   cases g with
   |fz j=>simp only[Gh.run,Option.some.injEq] at hq;subst hq;simp
   |fbox b=>
    simp only[Gh.run,BD] at hq;split at hq
    case h_2=>cases hq
    simp only[Option.bind_eq_some_iff] at hq;obtain⟨x,hx,hq⟩:=hq;rename_i ag shs eo;cases ag<;>simp only[cond_true,cond_false] at hq
    ·split at hq
     ·cases hq;simp[PI.modR]
     ·cases hq
    ·cases hq;simp[PI.modR]
   |rereg t j=>
    simp only[Gh.run,wM] at hq;split at hq
    ·rename_i j' ver es;cases hb:(Nat.beq ver (S.ver j')&&mK (S.o j')&& !Nat.beq j' j)<;>simp only[hb,cond_true,cond_false] at hq<;>cases hq<;>simp[PI.modR]
    ·cases hq;simp
   |recell b i j=>
    simp only[Gh.run,D7] at hq;split at hq
    ·split at hq
     ·rename_i ag shs eo j' ver es;cases hb:(Nat.beq ver (S.ver j')&&mK (S.o j')&& !Nat.beq j' j&& !Nat.beq b j&& !Nat.beq b j')<;>simp only[hb,cond_true,cond_false] at hq<;>cases hq<;>simp[PI.modR]
     ·cases hq;simp
    ·cases hq;simp
   |home b i j T=>
    simp only[Gh.run,Cg] at hq;split at hq
    ·split at hq
     ·cases hb:(!Nat.beq b j)<;>simp only[hb,cond_true,cond_false] at hq<;>cases hq<;>simp[PI.modR]
     ·cases hq;simp
    ·cases hq;simp
  intro t hm;rw[List.flatMap_append,List.mem_append] at hm;exact hm.elim (hg t) (ih t)
theorem anu (h:Good C w0 σ0 S ρ A a w)(hC:CtxOK C σ0)(ba:dz C)(hΦ:cY C Φ){ops:Array Oper}{o:Oper}(ht:∀d,o.dst=some d→¬A d∧d<a.tmps.size)
 (hj:∀j want t,o.guard=some (j,want)→(ops[j]?).bind (·.dst)=some t→A t) {r:St×List PI} (hr:A8 C S ops o=some r) {ρ':Env} (ak:PI.runs Φ r.2 ρ=some ρ')
 {K:Act→World→Prop} {Q:Exit→Act→World→Prop} (hK:∀a' w',Good C w0 σ0 r.1 ρ' (fun u=>A u∨o.dst=some u) a' w'→a'.tmps.size=a.tmps.size→K a' w'):
 if Region.wanted o (yielded ops a.tmps) then o.wp C.P a w K Q else K (a.put o.dst undef) w:=by
 simp only[A8,Option.bind_eq_some_iff] at hr;obtain⟨gs,dC,r1,gS,r2,p7,r3,vy,hr⟩:=hr;have xL:=X0 h dC hj;rw[X1 h dC];cases hc:hG gs o.dst r2.2<;>simp only[hc,cond_true,cond_false] at hr
 ·cases hr
 cases hr;simp only[nQ,Option.bind_eq_some_iff] at ak;obtain⟨ρ2,⟨ρ1,hρ1,hρ2⟩,hρ3⟩:=ak;have h1:=OC _ h gS hρ1;have cJ:=h1;obtain⟨σ1,dy,aP,i1⟩:=cJ;have Hp:holds gs ρ1=holds gs ρ:=by
  cases gs with
  |nil=>rfl
  |cons g bB=>
   have hb:=(PI.runs_but hρ1).r
   have:∀x,x∈(g::bB)→ρ1.r x.1=ρ.r x.1:=fun x hm=>hb x.1 (by
        intro cS;exact XX _ gS x.1 cS)
   exact Ze this
 cases hh:holds gs ρ with
 |true=>
  simp only[if_true];rw[hh] at Hp;refine anE i1 hC ba hΦ ht xL Hp p7 ρ2 hρ2 K Q (fun a' w' fg aK=>?_);exact hK a' w' (OC (r:=r3) _ fg vy hρ3) aK
 |false=>
  simp only[Bool.false_eq_true,if_false];rw[hh] at Hp;cases gs with
  |nil=>simp[holds] at hh
  |cons g bB=>
   obtain⟨dst,S2,s,hd,hS,xF,hns,n1,n2,n3⟩:=anC p7;obtain⟨t1,t2⟩:=ht dst hd;have jM:post C r2.1 o=[]:=by
        unfold post;split
        ·rename_i x t e _;exact absurd e (n1 x)
        ·rename_i T t e _;exact absurd e (n2 T)
        ·rename_i T x v e;exact absurd e (n3 T x v)
        ·rfl
   rw[jM] at vy;simp only[jc,Option.some.injEq] at vy;subst vy;have:=mT hρ3;subst this;obtain⟨σ2,gV,i2⟩:∃σ2 gV,Inv C S2 ρ1 σ2 gV aP w0 σ0 A a w:=by
        rcases xF with⟨js,rfl⟩|⟨j,rfl⟩
        ·obtain⟨σ2,gV,_,i2⟩:=Inv.fzs js i1;exact⟨σ2,gV,i2⟩
        ·exact⟨σ1,dy,i1.kill j⟩
   have Cj:=i2.passed t1 t2 xL Hp (s:=s) hns (ρ'.r dst);have hρe:ρ1.setR dst (ρ'.r dst)=ρ':=by
        have hb:=PI.runs_but hρ2;simp only[hG,hd] at hc;unfold aez at hc;rw[List.all_eq_true] at hc
        have e1:∀t,t≠dst→ρ'.r t=ρ1.r t:=fun t aE=>hb.r t (fun hm=>by
         obtain⟨p,hp,sZ⟩:=List.mem_flatMap.1 hm;have:=hc p hp;simp only[Bool.and_eq_true] at this;have:=List.all_eq_true.1 this.1 t sZ;exact aE (Nat.eq_of_beq_eq_true this).symm)
        have e2:∀t,ρ'.o t=ρ1.o t:=fun t=>hb.o t (fun hm=>by
         obtain⟨p,hp,sZ⟩:=List.mem_flatMap.1 hm;have:=hc p hp;simp only[Bool.and_eq_true] at this;have h9:=List.isEmpty_iff.1 this.2;rw[h9] at sZ;cases sZ)
        have r1:bZ ρ1.r dst (ρ'.r dst)=ρ'.r:=by
         funext t;rw[fI];split
         ·rename_i e;subst e;rfl
         ·rename_i aE;exact(e1 t aE).symm
        have r2:ρ1.o=ρ'.o:=funext fun t=>(e2 t).symm;cases ρ' with|mk a b=>simp only[Env.setR] at r1 r2 ⊢;rw[r1,r2]
   rw[hρe] at Cj;have jf:(fun u=>A u∨o.dst=some u)=(fun u=>A u∨u=dst):=by funext u;rw[hd];simp[eq_comm]
   rw[jf] at hK;rw[hd];refine hK _ _ ?_ (size_put _ _ _);simp only;rw[hS];exact⟨_,_,_,Cj⟩
theorem anw (h:Good C w0 σ0 S ρ A a w)(hC:CtxOK C σ0)(ba:dz C)(hΦ:cY C Φ){ops:Array Oper}{o:Oper}(ht:∀d,o.dst=some d→¬A d∧d<a.tmps.size)
 (hj:∀j want t,o.guard=some (j,want)→(ops[j]?).bind (·.dst)=some t→A t) {r:St×List PI} (hr:xn C S ops o=some r) {ρ':Env} (ak:PI.runs Φ r.2 ρ=some ρ')
 {K:Act→World→Prop} {Q:Exit→Act→World→Prop} (hK:∀a' w',Good C w0 σ0 r.1 ρ' (fun u=>A u∨o.dst=some u) a' w'→a'.tmps.size=a.tmps.size→K a' w'):
 if Region.wanted o (yielded ops a.tmps) then o.wp C.P a w K Q else K (a.put o.dst undef) w:=by
 unfold xn at hr;split at hr
 ·rename_i q hq;cases hr;exact anu h hC ba hΦ ht hj hq ak hK
 ·cases hr;simp[PI.runs,PI.run,Em,PE.ev,D.b_bool] at ak
end
end Cx
