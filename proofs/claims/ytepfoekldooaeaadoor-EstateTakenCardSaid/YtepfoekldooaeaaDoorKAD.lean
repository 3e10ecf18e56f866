/-
  Shared texts of this claim.
-/
import Derived.Test.YtepfoekldooaeaaDoorKAC
set_option linter.unusedSimpArgs false
set_option linter.unusedVariables false
namespace Cx
open Go Go.RowKit
open Classical in
noncomputable def Im.noM (σ:Im):Im:=⟨σ.c,fun k=>if σ.m k=some cl then none else σ.m k⟩
theorem Rep.noM {cap:Nat→Option CSig}{σ:Im}{t:Ty}{v:Value}{d:D}(h:Rep cap σ t v d):Rep cap σ.noM t v d:=by
 induction h with
 |int k n h1 h2=>exact .int k n h1 h2
 |bool b=>exact .bool b
 |str s h=>exact .str s h
 |agg ts vs ds h1 h2 _ ho ih=>exact .agg ts vs ds h1 h2 ih ho
 |tup ts vs ds h1 h2 _ ih=>exact .tup ts vs ds h1 h2 ih
 |nil e=>exact .nil e
 |emp e a=>exact .emp e a
 |nils e=>exact .nils e
 |nsl0 e=>exact .nsl0 e
 |nsl e k o n c xs _ hx ih=>exact .nsl e k o n c xs ih hx
 |slice e k o n c xs vs hn hc hm _ hv ih=>exact .slice e k o n c xs vs hn hc hm ih hv
 |mapnil kt et=>exact .mapnil kt et
 |map kt et r fX es hm hl hx hk _ gE yy=>
  refine .map kt et r fX es ?_ hl hx gE yy;have av:σ.m r≠some cl:=fun e=>by rw[hm] at e;cases e;exact yL hl hk rfl
  simp only[Im.noM,if_neg av,hm]
 |ref t k o v d _ hv ih=>exact .ref t k o v d ih hv
 |fn f cs vs ds hc h1 h2 _ ih=>exact .fn f cs vs ds hc h1 h2 ih
 |fnnil as r=>exact .fnnil as r
def Im.plus (σ τ:Im):Im:=⟨fun k o=>(σ.c k o).or (τ.c k o),fun k=>(σ.m k).or (τ.m k)⟩
theorem Im.plus_le1 (σ τ:Im):σ.le (σ.plus τ):=⟨fun k o v h=>by simp[Im.plus,h],fun k v h=>by simp[Im.plus,h]⟩
theorem mJ.det {w:World}{k:Nat}{x y:List (Value×Value)}(h:mJ w k x)(g:mJ w k y):x=y:=by
 rcases h with⟨_,a,c,h1,h2⟩|⟨h1,h2⟩<;>rcases g with⟨_,a',c',g1,g2⟩|⟨g1,g2⟩
 ·rw[h1] at g1;cases g1;rw[←h2,←g2]
 ·rw[h1] at g2;cases g2
 ·rw[h2] at g1;cases g1
 ·rw[h1,g1]
theorem Im.plus_le2 {σ τ:Im}{w:World}(h:σ.ok w)(g:τ.ok w):τ.le (σ.plus τ):=by
 refine⟨fun k o v e=>?_,fun k v e=>?_⟩
 ·show(σ.c k o).or (τ.c k o)=some v;cases hc:σ.c k o with
  |none=>simpa using e
  |some u=>have:=(h.c k o u hc).symm.trans (g.c k o v e);simpa using this
 ·show(σ.m k).or (τ.m k)=some v;cases hc:σ.m k with
  |none=>simpa using e
  |some u=>simpa using(h.m k u hc).det (g.m k v e)
theorem Im.plus_ok {σ τ:Im}{w:World}(h:σ.ok w)(g:τ.ok w):(σ.plus τ).ok w:=by
 refine⟨fun k o v e=>?_,fun k v e=>?_⟩
 ·change (σ.c k o).or (τ.c k o)=some v at e;cases hc:σ.c k o with
  |none=>rw[hc] at e;exact g.c k o v (by simpa using e)
  |some u=>rw[hc] at e;simp at e;subst e;exact h.c k o u hc
 ·change (σ.m k).or (τ.m k)=some v at e;cases hc:σ.m k with
  |none=>rw[hc] at e;exact g.m k v (by simpa using e)
  |some u=>rw[hc] at e;simp at e;subst e;exact h.m k u hc
theorem Im.plus_c {σ τ:Im}{k o:Nat}{v:Value}(h:(σ.plus τ).c k o=some v):σ.c k o=some v∨τ.c k o=some v:=by
 change (σ.c k o).or (τ.c k o)=some v at h;cases hc:σ.c k o with
 |none=>rw[hc] at h;exact .inr (by simpa using h)
 |some u=>rw[hc] at h;exact .inl (by simpa using h)
theorem Im.plus_m {σ τ:Im}{k:Nat}{v:List (Value×Value)}(h:(σ.plus τ).m k=some v):σ.m k=some v∨τ.m k=some v:=by
 change (σ.m k).or (τ.m k)=some v at h;cases hc:σ.m k with
 |none=>rw[hc] at h;exact .inr (by simpa using h)
 |some u=>rw[hc] at h;exact .inl (by simpa using h)
def Ty.pureT:Ty→Bool
 |.int _|.bool|.str|.nils _=>true
 |_=>false
def Ty.pure:Ty→Bool
 |.tup ts=>ts.all Ty.pureT
 |.agg ts=>ts.all Ty.pureT
 |t=>Ty.pureT t
theorem Rep.pureT {cap:Nat→Option CSig}{σ τ:Im}{t:Ty}{v:Value}{d:D}(h:Rep cap σ t v d)(hp:t.pureT=true):Rep cap τ t v d:=by
 cases h<;>simp[Ty.pureT] at hp<;>constructor<;>assumption
theorem Rep.pure {cap:Nat→Option CSig}{σ τ:Im}{t:Ty}{v:Value}{d:D}(h:Rep cap σ t v d)(hp:t.pure=true):Rep cap τ t v d:=by
 cases h with
 |agg ts vs ds h1 h2 h ho=>exact .agg ts vs ds h1 h2 (fun i t hi=>(h i t hi).pureT (List.all_eq_true.1 hp t (List.mem_of_getElem? hi))) ho
 |tup ts vs ds h1 h2 h=>exact .tup ts vs ds h1 h2 (fun i t hi=>(h i t hi).pureT (List.all_eq_true.1 hp t (List.mem_of_getElem? hi)))
 |int k n h1 h2=>exact .int k n h1 h2
 |bool b=>exact .bool b
 |str s h=>exact .str s h
 |nils e=>exact .nils e
 |_=>simp[Ty.pure,Ty.pureT] at hp
def l8 (C:Ctx)(s:Sig)(σ':Im)(w w':World)(v:Value)(d:D):Prop:=
 match s.mode with
 |.dat=>Rep C.cap σ' s.res v d
 |.it _=>True
 |.ob ..=>True
 |.row T e=>∃cells xs,d=.list xs∧w'.ownsRow w.heap.size T e.size v xs.length cells∧eX C.cap σ' e cells xs∧∀k,v.ownBlock=some k→(∀o,σ'.c k o=none)∧σ'.m k=none
def nf (C:Ctx)(σ:Im)(ts:List Ty)(args:List Value)(ds:List D):Prop:=
 args.length=ts.length∧ds.length=ts.length∧∀(i:Nat) (t:Ty),ts[i]?=some t→Rep C.cap σ t (args.getD i undef) (ds.getD i .none)
def ja (C:Ctx)(f:Nat)(s:Sig)(ds:List D)(d:D):Prop:=
 ∀(σ:Im) (w:World) (args:Array Value),σ.ok w→CtxOK C σ→nf C σ s.args args.toList ds→
  Calls C.P f args w fun e w'=>∃v σ',e=.returned v∧σ.le σ'∧σ'.ok w'∧Below w.heap.size w w'∧
   (∀k o x,σ'.c k o=some x→σ.c k o=some x∨w.heap.size≤k)∧(∀k x,σ'.m k=some x→σ.m k=some x∨w.heap.size≤k)∧l8 C s σ' w w' v d
def de:List (Nat×Ob)→Nat→Ob
 |[],_=>.dead
 |x::l,j=>bif Nat.beq x.1 j then x.2 else de l j
def j4:List (Nat×Ob)→List D→Nat→D
 |x::l,d::ds,j=>bif Nat.beq x.1 j then d else j4 l ds j
 |_,_,_=>.none
def dY (shs:List Sh)(obs:List (Nat×Ob)):St:=⟨fun t=>shs.getD t .none,fun j=>de obs j,fun _=>0⟩
def jx (obs:List (Nat×Ob))(ds os:List D):Env:=⟨fun t=>ds.getD t .none,fun j=>j4 obs os j⟩
def jZ:Sh→Bool
 |.dat _=>true
 |_=>false
def mK:Mode→Bool
 |.ob ..=>true
 |_=>false
def oc:Sh→Bool
 |.none|.dat _|.obj ..|.ptr ..|.fclo ..=>true
 |_=>false
def Ex:Ob→Bool
 |.row ..|.mp ..=>true
 |.box _ shs=>shs.all oc
 |_=>false
def yN (shs:List Sh)(obs:List (Nat×Ob)):Bool:=shs.all oc&&obs.all fun x=>Ex x.2
def jb (C:Ctx)(f:Nat)(shs:List Sh)(obs:List (Nat×Ob))(res:Ty)(ds:List D)(d:D):Prop:=
 ∀(N:Nat) (σ:Im) (own:Nat→Option Nat) (hv:Nat→Value) (w:World) (args:Array Value) (cx:Nat→Prop),yN shs obs=true→σ.ok w→CtxOK C σ→(∀k,σ.m k≠some cl)→N≤w.heap.size→args.size=shs.length→
  (∀k j,own k=some j→N≤k∧k<w.heap.size∧(∀o,σ.c k o=none)∧σ.m k=none)→
  (∀k,cx k→k<w.heap.size∧own k=none∧(∀o,σ.c k o=none)∧σ.m k=none)→
  (∀t,ay C (dY shs obs) (jx obs ds (ds.drop shs.length)) σ hv (shs.getD t .none) (args.getD t undef) (ds.getD t .none))→
  (∀j,bJ C (dY shs obs) (jx obs ds (ds.drop shs.length)) σ own hv w N j (de obs j))→
  Calls C.P f args w fun e w'=>∃v σ' own' hv' dr os,e=.returned v∧d=.tup (dr::os)∧os.length=obs.length∧σ.le σ'∧σ'.ok w'∧Below 0 w w'∧
   (∀k,k<w.heap.size→own k=none→w'.heap[k]?=w.heap[k]?)∧
   (∀k o x,σ'.c k o=some x→(σ.c k o=some x∨N≤k)∧¬cx k)∧(∀k x,σ'.m k=some x→(σ.m k=some x∨N≤k)∧¬cx k)∧(∀k,σ'.m k=some cl→N≤k→k<w.heap.size→own k≠none)∧
   (∀k j,own' k=some j→N≤k∧k<w'.heap.size∧(∀o,σ'.c k o=none)∧σ'.m k=none∧(k<w.heap.size→own k≠none))∧
   (∀(t:Nat) (sh:Sh),shs[t]?=some sh→jZ sh=false→ay C (dY shs obs) (jx obs ds os) σ' hv' sh (args.getD t undef) (ds.getD t .none))∧
   (∀j,bJ C (dY shs obs) (jx obs ds os) σ' own' hv' w' N j (de obs j))∧Rep C.cap σ' res v dr
theorem ay.ctx {C C':Ctx}(gU:C'.cap=C.cap){S:St}{ρ:Env}{σ:Im}{hv:Nat→Value}{s:Sh}(hp:oc s=true){v:Value}{d:D}(h:ay C S ρ σ hv s v d):ay C' S ρ σ hv s v d:=by
 cases s with
 |dat t=>show Rep C'.cap σ t v d;rw[gU];exact h
 |opt gs s=>cases hp
 |eptr j ver a b=>cases hp
 |yv=>cases hp
 |_=>exact h
theorem bJ.ctx {C C':Ctx}(gU:C'.cap=C.cap){S:St}{ρ:Env}{σ:Im}{own:Nat→Option Nat}{hv:Nat→Value}{w:World}{N j:Nat}{ob:Ob}(hp:Ex ob=true∨ob=.dead)(h:bJ C S ρ σ own hv w N j ob):bJ C' S ρ σ own hv w N j ob:=by
 rcases hp with hp|rfl
 ·cases ob with
  |row T e=>obtain⟨cells,xs,h1,h2,h3,h4⟩:=h;exact⟨cells,xs,h1,h2,by rw[gU];exact h3,h4⟩
  |mp kt et=>obtain⟨k,arr,clock,es,h1,h2,h3,h4,h5,h6,h7⟩:=h;exact⟨k,arr,clock,es,h1,h2,h3,h4,h5,h6,by rw[gU];exact h7⟩
  |box ag shs=>
   obtain⟨k,cs,T,ds,h1,h2,h3,h4,h5,h6,h7⟩:=h;exact⟨k,cs,T,ds,h1,h2,h3,h4,h5,h6,fun i s hs=>⟨(h7 i s hs).1,(h7 i s hs).2.ctx gU (List.all_eq_true.1 hp s (List.mem_of_getElem? hs))⟩⟩
  |_=>cases hp
 ·trivial
theorem Rq {obs:List (Nat×Ob)}(h:(obs.all fun x=>Ex x.2)=true)(j:Nat):Ex (de obs j)=true∨de obs j=.dead:=by
 induction obs with
 |nil=>exact .inr rfl
 |cons x l ih=>
  simp only[List.all_cons,Bool.and_eq_true] at h;simp only[de];cases hb:Nat.beq x.1 j
  ·exact ih h.2
  ·exact .inl h.1
theorem jb.ctx {C C':Ctx}{f:Nat}{shs:List Sh}{obs:List (Nat×Ob)}{res:Ty}{ds:List D}{d:D}(h:jb C f shs obs res ds d)(hP:C'.P=C.P)(gU:C'.cap=C.cap)(HG:C'.glob=C.glob):jb C' f shs obs res ds d:=by
 intro N σ own hv w args cx hp aw hC bk hN aD bz gX h1 h2;have aN:=hp;simp only[yN,Bool.and_eq_true] at aN;have nL:∀t s,shs[t]?=some s→oc s=true:=fun t s hs=>List.all_eq_true.1 aN.1 s (List.mem_of_getElem? hs);have hC':CtxOK C σ:=⟨fun g x hx=>by have:=hC.glob g x (by rw[HG];exact hx);rwa [gU] at this⟩
 have:=h N σ own hv w args cx hp aw hC' bk hN aD bz gX (fun t=>by
  cases hs:shs[t]? with
  |none=>rw[List.getD_eq_getElem?_getD,hs];trivial
  |some s=>have:=h1 t;rw[List.getD_eq_getElem?_getD,hs] at this ⊢;exact this.ctx gU.symm (nL t s hs)) (fun j=>(h2 j).ctx gU.symm (Rq aN.2 j))
 rw[hP];refine this.mono fun e w' hh=>?_;obtain⟨v,σ',own',hv',dr,os,g1,g2,g3,g4,g5,g6,g7,g8,g9,g10,g11,g12,g13,g14⟩:=hh;exact⟨v,σ',own',hv',dr,os,g1,g2,g3,g4,g5,g6,g7,g8,g9,g10,g11,fun t sh hs hd=>(g12 t sh hs hd).ctx gU (nL t sh hs),fun j=>(g13 j).ctx gU (Rq aN.2 j),by rw[gU];exact g14⟩
def dh (C:Ctx)(Φ:aO):Prop:=∀f ds d,Φ f ds=some d→∀s,C.sig f=some s→(mK s.mode=false→ja C f s ds d)∧∀shs obs,s.mode=.ob shs obs→jb C f shs obs s.res ds d
def jt:List Ty→Ty→Option (List Ty)
 |[.fn ys .bool],.tup []=>some ys
 |_,_=>none
def dg (C:Ctx):Prop:=(∀f cs,C.cap f=some cs→jt cs.args cs.res=none→C.sig f=some ⟨cs.args++cs.caps,cs.res,.dat⟩)∧∀f s,C.sig f=some s→∃fn,C.P.funcs[f]?=some fn∧fn.body.isSome=true∧(fn.name== "runtime.NumGoroutine")=false
def bE (S:St)(gs:List (Nat×Bool)):List Operand→List Nat
 |[]=>[]
 |x::xs=>
  match eK S gs x with
  |.obj j ver=>bif Nat.beq ver (S.ver j)&&j0 (S.o j) then j::bE S gs xs else bE S gs xs
  |_=>bE S gs xs
def fG (gs:List (Nat×Bool))(s:Sh):Sh:=
 match gs with
 |[]=>s
 |_=>.opt gs s
def St.fzs (S:St)(js:List Nat):St:=js.foldl St.fz S
def ll (C:Ctx)(S:St)(gs:List (Nat×Bool))(dst:Nat)(f:Nat)(args:List Operand):Option (St×Sh×List PI):=
 (C.sig f).bind fun s=>
    match s.mode with
    |.dat=>
     (iX C (S.fzs (bE S gs args)) gs args).bind fun u=>
       bif Ty.subs u.1 s.args then some (bif s.res.pure then S else S.fzs (bE S gs args),.dat s.res,[.call gs dst f u.2]) else Option.none
    |_=>Option.none
def wR (C:Ctx)(S:St)(dst:Nat)(f:Nat)(args:List Operand):iZ:=
 (C.sig f).bind fun s=>
    match s.mode with
    |.row T e=>
     (iX C (S.fzs (bE S [] args)) [] args).bind fun u=>
       bif Ty.subs u.1 s.args then some (mkObj (bif e.pure then S else S.fzs (bE S [] args)) dst (.row T e),[.call [] dst f u.2,.setO dst (.r dst),.setR dst (.con .none)]) else Option.none
    |_=>Option.none
def ki (C:Ctx)(S:St)(gs:List (Nat×Bool))(dst:Nat)(x:Operand)(args:List Operand):Option (St×Sh×List PI):=
 match use C S gs x with
 |some (.fn as r,e)=>
  match jt as r with
  |some _=>Option.none
  |Option.none=>
  (iX C (S.fzs (bE S gs args)) gs args).bind fun u=>
    bif Ty.subs u.1 as then some (bif r.pure then S else S.fzs (bE S gs args),.dat r,[.callc gs dst e u.2]) else Option.none
 |_=>Option.none
theorem mw:∀(js:List Nat) (S:St),(S.fzs js).ver=S.ver∧(S.fzs js).r=S.r
 |[],S=>⟨rfl,rfl⟩
 |j::js,S=>by
  obtain⟨h1,h2⟩:=mw js (S.fz j);obtain⟨k1,k2⟩:=By S j;exact⟨h1.trans k1,h2.trans k2⟩
section
variable {C:Ctx} {S:St} {ρ:Env} {σ:Im} {own:Nat→Option Nat} {hv:Nat→Value} {w0:World} {σ0:Base} {A:Nat→Prop} {a:Act} {w:World} {gs:List (Nat×Bool)} {Φ:aO} {dst:Nat}
theorem Inv.fzs:∀(js:List Nat) {S:St} {σ:Im} {own:Nat→Option Nat},Inv C S ρ σ own hv w0 σ0 A a w→∃σ' own',σ.le σ'∧Inv C (S.fzs js) ρ σ' own' hv w0 σ0 A a w
 |[],S,σ,own,h=>⟨σ,own,.refl σ,h⟩
 |j::js,S,σ,own,h=>by
  obtain⟨σ1,cQ,hle,h1⟩:=h.fz j;obtain⟨σ2,fy,jk,h2⟩:=Inv.fzs js h1;exact⟨σ2,fy,hle.trans jk,h2⟩
theorem Inv.world (h:Inv C S ρ σ own hv w0 σ0 A a w){σ':Im}{w':World}(hle:σ.le σ')(aw:σ'.ok w')(hb:Below w.heap.size w w')(cY:∀k o x,σ'.c k o=some x→σ.c k o=some x∨w.heap.size≤k)
 (cM:∀k x,σ'.m k=some x→σ.m k=some x∨w.heap.size≤k):Inv C S ρ σ' own hv w0 σ0 A a w':=by
 have aD:=h.below.size;refine h.step (fun _=>False) rfl hle aw (fun k o x hx=>(cY k o x hx).imp id (fun e=>⟨by omega,.inr e⟩)) (fun k x hx=>(cM k x hx).imp id (fun e=>⟨by omega,.inr e⟩)) (hb.mono aD) (.refl S hv) (fun j _=>⟨rfl,rfl,rfl,fun k hk=>⟨hk,hb.block k (h.owns k j hk).2.1⟩⟩) (fun _ hf=>hf.elim) (fun k j hk=>?_) (fun _=>id) (fun t=>.inl ⟨rfl,rfl,rfl⟩) (fun _ _=>rfl) (fun k hk _=>hb.block k hk) (fun k i hk=>.inl ⟨i,hk⟩) (fun _ hf=>hf.elim);obtain⟨g1,g2,g3,g4⟩:=h.owns k j hk;refine⟨g1,by have:=hb.size;omega,fun o=>?_,?_⟩
 ·cases hc:σ'.c k o with
  |none=>rfl
  |some x=>rcases cY k o x hc with e|e
           ·rw[g3 o] at e;cases e
           ·omega
 ·cases hc:σ'.m k with
  |none=>rfl
  |some x=>rcases cM k x hc with e|e
           ·rw[g4] at e;cases e
           ·omega
theorem CtxOK.mono {C:Ctx}{σ σ':Im}(h:CtxOK C σ)(hle:σ.le σ'):CtxOK C σ':=⟨fun g x hx=>(h.glob g x hx).mono hle⟩
theorem FM (h:Inv C S ρ σ own hv w0 σ0 A a w)(hC:CtxOK C σ0)(hg:holds gs ρ=true){xs:List Operand}{u:List Ty×List PE}{ts:List Ty}(hu:iX C S gs xs=some u)(hs:Ty.subs u.1 ts=true):nf C σ ts (xs.map a.eval) (PE.evs ρ u.2):=by
 obtain⟨l1,l2,aJ⟩:=Wp h hC hg _ _ hu;have hl:=Ty.subs_len _ _ hs;refine⟨by rw[List.length_map];omega,by rw[PE.evs_eq,List.length_map];omega,fun i t hi=>?_⟩;obtain⟨s,lJ,cv⟩:=Ty.subs_get _ _ hs i t hi;exact(aJ i s lJ).sub cv
theorem LJ {o:Oper}{f:Nat}{args:Array Operand}{ts:Array TypeId}(bh:dg C){s:Sig}(hs:C.sig f=some s)(ho:o.op=.call {callee:=.value (.func f),args:=args,argTypes:=ts}):
 (execOp a.eval o).run C.P w=.ok (.enter f (args.map a.eval)) w:=by
 obtain⟨fn,h1,h2,h3⟩:=bh.2 f s hs;obtain⟨bd,jQ⟩:=Option.isSome_iff_exists.1 h2;have h4:¬fn.name= "runtime.NumGoroutine" :=by simpa using h3
 simp[execOp,ho,resolve,Act.eval,Deferred.ofValue,invoke,callFunc,h1,jQ,h4]
theorem VS {o:Oper}{x:Operand}{f:Nat}{vs:List Value}{args:Array Operand}{ts:Array TypeId}(bh:dg C){s:Sig}(hs:C.sig f=some s)(hx:a.eval x=.func (.func f) #[] vs.toArray)(ho:o.op=.call {callee:=.value x,args:=args,argTypes:=ts}):
 (execOp a.eval o).run C.P w=.ok (.enter f (args.map a.eval++vs.toArray)) w:=by
 obtain⟨fn,h1,h2,h3⟩:=bh.2 f s hs;obtain⟨bd,jQ⟩:=Option.isSome_iff_exists.1 h2;have h4:¬fn.name= "runtime.NumGoroutine" :=by simpa using h3
 simp[execOp,ho,resolve,hx,Deferred.ofValue,invoke,callFunc,h1,jQ,h4]
theorem Oa (h:Inv C S ρ σ own hv w0 σ0 A a w)(hC:CtxOK C σ0)(ht:¬A dst)(ae:dst<a.tmps.size)(cT:∀g,g∈gs→A g.1)(hg:holds gs ρ=true){f:Nat}{s:Sig}{js:List Nat}{vals:List Value}{ds:List D}{d:D}(lE:s.mode=.dat)(hfn:ja C f s ds d)
 (gf:∀σ1 cQ,σ.le σ1→Inv C (S.fzs js) ρ σ1 cQ hv w0 σ0 A a w→nf C σ1 s.args vals ds) {K:Act→World→Prop} {Q:Exit→Act→World→Prop}
 (hK:∀a' w',Good C w0 σ0 ((bif s.res.pure then S else S.fzs js).setR dst (fG gs (.dat s.res))) (ρ.setR dst d) (fun u=>A u∨u=dst) a' w'→a'.tmps.size=a.tmps.size→K a' w'):
 Calls C.P f vals.toArray w (fun e jK=>match e with|.returned v=>K (a.put (some dst) v) jK|.panicked chain=>Q (.panic chain) a jK|.outgrown=>LetsOut Q):=by
 obtain⟨σ1,cQ,jj,h1⟩:=Inv.fzs js h;have qV:=hfn σ1 w vals.toArray h1.ok (hC.mono h1.le) (by simpa using gf σ1 cQ jj h1);refine qV.mono fun e w' hh=>?_;obtain⟨v,σ',rfl,hle,aw,hb,cY,cM,iS⟩:=hh;simp only[l8,lE] at iS;refine hK _ _ ?_ (size_put _ _ _);have hh:holds gs (ρ.setR dst d)=true:=by rw[yc (t:=dst) (d:=d) fun g hm e=>ht (by rw[←e];exact cT g hm)];exact hg
 have put:∀{S2:St} {σ2:Im} {fy:Nat→Option Nat},Inv C S2 ρ σ2 fy hv w0 σ0 A a w'→Rep C.cap σ2 s.res v d→Good C w0 σ0 (S2.setR dst (fG gs (.dat s.res))) (ρ.setR dst d) (fun u=>A u∨u=dst) (a.put (some dst) v) w':=by
  intro S2 σ2 fy h2 hr;cases gs with
  |nil=>exact⟨_,_,_,h2.setReg ht (s:=.dat s.res) hr ae (fun _ _ e=>by cases e)⟩
  |cons g bn=>
   refine⟨_,_,_,h2.setReg ht (s:=.opt (g::bn) (.dat s.res)) ⟨fun _=>hr,fun e=>absurd (hh.symm.trans e) (by decide)⟩ ae (fun gs s e=>?_)⟩;cases e;exact⟨cT,fun _ _ e=>by cases e⟩
 cases hp:s.res.pure with
 |true=>
  simp only[cond_true];exact put (h.world (.refl σ) (h.ok.below hb) hb (fun _ _ _ hx=>.inl hx) (fun _ _ hx=>.inl hx)) (iS.pure hp)
 |false=>
  simp only[cond_false];exact put (h1.world hle aw hb cY cM) iS
theorem Gw {o:Oper}{f:Nat}{args:Array Value}{K:Act→World→Prop}{Q:Exit→Act→World→Prop}(hd:o.dst=some dst)(hx:(execOp a.eval o).run C.P w=.ok (.enter f args) w)
 (h:Calls C.P f args w (fun e jK=>match e with|.returned v=>K (a.put (some dst) v) jK|.panicked chain=>Q (.panic chain) a jK|.outgrown=>LetsOut Q)):o.wp C.P a w K Q:=by
 simp only[Oper.wp,hx,Oper.upon,hd];refine h.mono fun e jK hh=>?_;cases e<;>exact hh
theorem abM (h:Inv C S ρ σ own hv w0 σ0 A a w)(hC:CtxOK C σ0)(bh:dg C)(hΦ:dh C Φ)(ht:¬A dst)(ae:dst<a.tmps.size)(cT:∀g,g∈gs→A g.1)(hg:holds gs ρ=true){f:Nat}{args:Array Operand}{ts:Array TypeId}{r:St×Sh×List PI}
 (hr:ll C S gs dst f args.toList=some r) {o:Oper} (hd:o.dst=some dst) (ho:o.op=.call {callee:=.value (.func f),args:=args,argTypes:=ts}):bA C w0 σ0 Φ S ρ A a w o (r.1.setR dst (fG gs r.2.1),r.2.2):=by
 simp only[ll,Option.bind_eq_some_iff] at hr;obtain⟨s,hs,hr⟩:=hr;split at hr
 case h_2=>cases hr
 rename_i lE;simp only[Option.bind_eq_some_iff] at hr;obtain⟨u,hu,hr⟩:=hr;cases bQ:Ty.subs u.1 s.args<;>simp only[bQ,cond_true,cond_false] at hr
 ·cases hr
 cases hr;intro ρ' af K Q hK;simp only[PI.runs,PI.run,hg,cond_true,Option.bind_eq_some_iff,Option.map_eq_some_iff] at af;obtain⟨ρ1,⟨d,aZ,rfl⟩,af⟩:=af;cases af;have hfn:=(hΦ f _ d aZ s hs).1 (by rw[lE];rfl);refine Gw hd (LJ bh hs ho) ?_;have jm:args.map a.eval=(args.toList.map a.eval).toArray:=by apply Array.ext';rw[Array.toList_map]
 rw[jm];have gg:(fun u=>A u∨o.dst=some u)=(fun u=>A u∨u=dst):=by funext u;rw[hd];simp[eq_comm]
 rw[gg] at hK;exact Oa h hC ht ae cT hg (js:=bE S gs args.toList) lE hfn (fun σ1 cQ _ h1=>FM h1 hC hg hu bQ) hK
theorem abH (h:Inv C S ρ σ own hv w0 σ0 A a w)(hC:CtxOK C σ0)(bh:dg C)(hΦ:dh C Φ)(ht:¬A dst)(ae:dst<a.tmps.size)(cT:∀g,g∈gs→A g.1)(hg:holds gs ρ=true){x:Operand}{args:Array Operand}{ts:Array TypeId}{r:St×Sh×List PI}
 (hr:ki C S gs dst x args.toList=some r) {o:Oper} (hd:o.dst=some dst) (ho:o.op=.call {callee:=.value x,args:=args,argTypes:=ts}):bA C w0 σ0 Φ S ρ A a w o (r.1.setR dst (fG gs r.2.1),r.2.2):=by
 unfold ki at hr;split at hr
 case h_2=>cases hr
 rename_i as r0 e IA;split at hr
 case h_1=>cases hr
 rename_i HI;simp only[Option.bind_eq_some_iff] at hr;obtain⟨u,hu,hr⟩:=hr;cases bQ:Ty.subs u.1 as<;>simp only[bQ,cond_true,cond_false] at hr
 ·cases hr
 cases hr;have hx:=bD h hC hg IA;intro ρ' af K Q hK;simp only[PI.runs,PI.run,hg,cond_true,Option.bind_eq_some_iff] at af;obtain⟨ρ1,pk,af⟩:=af;cases af;split at pk
 case h_2=>cases pk
 rename_i f caps bp;simp only[Option.map_eq_some_iff] at pk;obtain⟨d,aZ,rfl⟩:=pk;rw[bp] at hx;generalize eg:a.eval x=xv at hx;generalize aS:Ty.fn as r0=ty at hx;cases hx with
 |fn f cs vs ds hc h1 h2 aJ=>
  cases aS;have hs:=bh.1 f cs hc HI;have hfn:=(hΦ f _ d aZ _ hs).1 rfl;refine Gw hd (VS bh hs eg ho) ?_;have jm:args.map a.eval++vs.toArray=(args.toList.map a.eval++vs).toArray:=by apply Array.ext';simp
  rw[jm];have gg:(fun u=>A u∨o.dst=some u)=(fun u=>A u∨u=dst):=by funext u;rw[hd];simp[eq_comm]
  rw[gg] at hK;refine Oa h hC ht ae cT hg (js:=bE S gs args.toList) (s:=⟨cs.args++cs.caps,cs.res,.dat⟩) rfl hfn (fun σ1 cQ jj i1=>?_) hK;obtain⟨g1,g2,g3⟩:=FM i1 hC hg hu bQ;refine⟨by simp only[List.length_append,g1,h1],by simp only[List.length_append,g2,h2],fun i t hi=>?_⟩;rw[List.getElem?_append] at hi;split at hi
  ·rename_i ae;have:=g3 i t hi;rw[List.getD_eq_getElem?_getD,List.getD_eq_getElem?_getD,List.getElem?_append_left (by omega),List.getElem?_append_left (by omega)];simpa [List.getD_eq_getElem?_getD] using this
  ·rename_i eP;have:=(aJ _ t hi).mono jj;rw[List.getD_eq_getElem?_getD,List.getD_eq_getElem?_getD,List.getElem?_append_right (by omega),List.getElem?_append_right (by omega),g1,g2];simpa [List.getD_eq_getElem?_getD] using this
theorem abJ (h:Inv C S ρ σ own hv w0 σ0 A a w)(hC:CtxOK C σ0)(bh:dg C)(hΦ:dh C Φ)(ht:¬A dst)(ae:dst<a.tmps.size){f:Nat}{args:Array Operand}{ts:Array TypeId}{r:St×List PI}
 (hr:wR C S dst f args.toList=some r) {o:Oper} (hd:o.dst=some dst) (ho:o.op=.call {callee:=.value (.func f),args:=args,argTypes:=ts}):bA C w0 σ0 Φ S ρ A a w o r:=by
 simp only[wR,Option.bind_eq_some_iff] at hr;obtain⟨s,hs,hr⟩:=hr;split at hr
 case h_2=>cases hr
 rename_i T e lE;simp only[Option.bind_eq_some_iff] at hr;obtain⟨u,hu,hr⟩:=hr;cases bQ:Ty.subs u.1 s.args<;>simp only[bQ,cond_true,cond_false] at hr
 ·cases hr
 cases hr;intro ρ' af K Q hK;have hgt:holds ([]:List (Nat×Bool)) ρ=true:=rfl;simp only[PI.runs,PI.run,hgt,cond_true,Option.bind_eq_some_iff,Option.map_eq_some_iff] at af;obtain⟨ρ1,⟨d,aZ,rfl⟩,ρ2,g2,ρ3,g3,g4⟩:=af;cases g2;cases g3;cases g4;have hfn:=(hΦ f _ d aZ s hs).1 (by rw[lE];rfl);obtain⟨σ1,cQ,jj,h1⟩:=Inv.fzs (bE S [] args.toList) h;have jm:args.map a.eval=(args.toList.map a.eval).toArray:=by apply Array.ext';rw[Array.toList_map]
 refine Gw hd (LJ bh hs ho) ?_;rw[jm];have qV:=hfn σ1 w (args.toList.map a.eval).toArray h1.ok (hC.mono h1.le) (by simpa using FM h1 hC rfl hu bQ);refine qV.mono fun e' w' hh=>?_;obtain⟨v,σ',rfl,hle,aw,hb,cY,cM,iS⟩:=hh;simp only[l8,lE] at iS;obtain⟨cells,xs,rfl,bz,fK,mA⟩:=iS;refine hK _ _ ?_ (size_put _ _ _);have gg:(fun u=>A u∨o.dst=some u)=(fun u=>A u∨u=dst):=by funext u;rw[hd];simp[eq_comm]
 rw[gg];have main:∀{S2:St} {σ1 σ2:Im} {fy:Nat→Option Nat},Inv C S2 ρ σ1 fy hv w0 σ0 A a w→σ1.le σ2→σ2.ok w'→(∀k o x,σ2.c k o=some x→σ1.c k o=some x∨w.heap.size≤k)→(∀k x,σ2.m k=some x→σ1.m k=some x∨w.heap.size≤k)→eX C.cap σ2 e cells xs→(∀k,v.ownBlock=some k→(∀o,σ2.c k o=none)∧σ2.m k=none)→
  Good C w0 σ0 (mkObj S2 dst (.row T e)) ((ρ.setO dst (.list xs)).setR dst .none) (fun u=>A u∨u=dst) (a.put (some dst) v) w':=by
  intro S2 σ1 σ2 fy h2 jk H6 agu agw afL afO;have aD:=h1.below.size
  have iQ:=h2.newOσ dst (.row T e) (.list xs) v (fun k=>decide (v.ownBlock=some k)) jk H6 agu agw hb (fun k hk=>bz.lt k (by simpa using hk)) (fun k hk=>afO k (by simpa using hk)) ⟨cells,xs,by simp[Env.setO,aI],by
        rw[aI];refine⟨bz.1,?_⟩;rcases bz.2 with e1|⟨g,cap,cur,e1,e2,e3⟩
        ·exact .inl e1
        ·exact .inr ⟨g,cap,cur,e1,by omega,e3⟩,afL,fun k hk=>by rw[aI] at hk;simp[ew,hk]⟩
  have Qy:=iQ.setObj ht (j:=dst) (v:=v) (aI _ _ _) ae;have e:(S2.newO dst (.row T e)).ver dst=S2.ver dst+1:=aI _ _ _;rw[e] at Qy;exact⟨_,_,_,Qy⟩
 have eρ:((ρ.setR dst (.list xs)).setO dst ((PE.r dst).ev (ρ.setR dst (.list xs)))).setR dst ((PE.con D.none).ev ((ρ.setR dst (.list xs)).setO dst ((PE.r dst).ev (ρ.setR dst (.list xs)))))=(ρ.setO dst (.list xs)).setR dst .none:=by
  have:∀d1 d2:D,bC (bC ρ.r dst d1) dst d2=bC ρ.r dst d2:=by
   intro d1 d2;funext i;simp only[eC];split<;>rfl
  simp[Env.setR,Env.setO,PE.ev,aI,this]
 show Good C w0 σ0 _ _ _ _ _;rw[eρ];cases hp:e.pure with
 |true=>
  simp only[cond_true];refine main h (.refl σ) (h.ok.below hb) (fun _ _ _ hx=>.inl hx) (fun _ _ hx=>.inl hx) ?_ (fun k hk=>?_)
  ·obtain⟨vs,k1,k2⟩:=fK;exact⟨vs,fun i x hx=>(k1 i x hx).pure hp,k2⟩
  ·obtain⟨f1,f2⟩:=mA k hk;refine⟨fun o=>?_,?_⟩
   ·cases hc:σ.c k o with
    |none=>rfl
    |some x=>have:=hle.c _ _ _ (jj.c _ _ _ hc);rw[f1 o] at this;cases this
   ·cases hc:σ.m k with
    |none=>rfl
    |some x=>have:=hle.m _ _ (jj.m _ _ hc);rw[f2] at this;cases this
 |false=>
  simp only[cond_false];exact main h1 hle aw cY cM fK mA
end
def fl:Nat:=1000000013
abbrev kf:=Sh×Option (Ty×PE)
def Ah (C:Ctx)(S:St)(x:Operand):kf:=(eK S [] x,use C S [] x)
def Od (c:Nat×Nat):kf:=(.ptr c.1 c.2 0,none)
def bP:List Nat→List Nat→Nat→Option Nat
 |i::is,j::js,k=>bif Nat.beq i k then some j else bP is js k
 |_,_,_=>none
def alj:Sh→Sh→List (Nat×Nat)
 |.obj i _,.obj j _=>[(i,j)]
 |.ptr i _ _,.ptr j _ _=>[(i,j)]
 |.fclo _ a,.fclo _ b=>(a.zip b).map fun x=>(x.1.1,x.2.1)
 |_,_=>[]
def Kb:List Sh→List Sh→List (Nat×Nat)
 |a::as,b::bs=>alj a b++Kb as bs
 |_,_=>[]
def ali:Ob→Ob→List (Nat×Nat)
 |.box _ a,.box _ b=>Kb a b
 |_,_=>[]
def Rr:List (Nat×Nat)→Nat→Nat
 |[],_=>fl
 |x::l,i=>bif Nat.beq x.1 i then x.2 else Rr l i
def ajW (S:St)(obs:List (Nat×Ob))(p:List (Nat×Nat)):List (Nat×Nat):=p++p.flatMap fun x=>ali (de obs x.1) (S.o x.2)
def O6 (S:St)(shs:List Sh)(obs:List (Nat×Ob))(acts:List kf):List Nat:=obs.map fun o=>Rr (ajW S obs (Kb shs (acts.map (·.1)))) o.1
section
variable (ver:Nat→Nat) (is js:List Nat)
def zL:List (Nat×Nat)→Option (List (Nat×Nat))
 |[]=>some []
 |x::l=>bif Nat.beq x.2 0 then(bP is js x.1).bind fun j=>(zL l).map fun r=>(j,ver j)::r else none
def iz:Sh→Option Sh
 |.dat t=>some (.dat t)
 |.none=>some .none
 |.obj i v=>bif Nat.beq v 0 then(bP is js i).map fun j=>.obj j (ver j) else none
 |.ptr i v off=>bif Nat.beq v 0 then(bP is js i).map fun j=>.ptr j (ver j) off else none
 |.fclo f caps=>(zL ver is js caps).map (.fclo f)
 |_=>none
def zM:List Sh→Option (List Sh)
 |[]=>some []
 |s::l=>(iz ver is js s).bind fun a=>(zM l).map (a::·)
def l5:Ob→Option Ob
 |.row T e=>some (.row T e)
 |.mp a b=>some (.mp a b)
 |.box ag shs=>(zM ver is js shs).map (.box ag)
 |_=>none
end
def xd (c:Sh):Sh→Bool
 |.none=>true
 |.dat b=>match c with|.dat a=>Ty.sub a b|_=>false
 |x=>Sh.beq c x
def sY:List Sh→List Sh→Bool
 |[],[]=>true
 |a::as,b::bs=>xd a b&&sY as bs
 |_,_=>false
def sX:Ob→Ob→Bool
 |.box x a,.box y b=>(x==y)&&sY a b
 |.row T a,.row U b=>Nat.beq T U&&Ty.beq a b
 |.mp a b,.mp c d=>Ty.beq a c&&Ty.beq b d
 |_,_=>false
def mu (S:St)(is js:List Nat):List (Nat×Ob)→List Nat→Bool
 |[],[]=>true
 |o::obs,j::jl=>(match l5 S.ver is js o.2 with|some x=>sX (S.o j) x|none=>false)&&mu S is js obs jl
 |_,_=>false
def xc (S:St)(is js:List Nat)(a:kf)(s:Sh):Option PE:=
 match s with
 |.dat t=>(match a.2 with|some x=>bif Ty.sub x.1 t then some x.2 else none|none=>none)
 |.none=>some (.con .none)
 |s=>(match iz S.ver is js s with|some x=>bif Sh.beq a.1 x then some (.con .none) else none|none=>none)
def oN (S:St)(is js:List Nat):List kf→List Sh→Option (List PE)
 |[],[]=>some []
 |a::as,s::ss=>(xc S is js a s).bind fun e=>(oN S is js as ss).map (e::·)
 |_,_=>none
def lj:List Sh→List Nat
 |[]=>[]
 |.obj i _::l=>i::lj l
 |.ptr i _ _::l=>i::lj l
 |.fclo _ c::l=>c.map (·.1)++lj l
 |_::l=>lj l
def aC (l:List Nat)(x:Nat):Bool:=l.any (Nat.beq x)
def qt (ver:Nat→Nat)(shs:List Sh)(is js:List Nat):Nat→Nat:=fun j=>match bP js is j with|some i=>bif aC (lj shs) i then ver j else ver j+1|none=>ver j
def St.handed (S:St)(shs:List Sh)(obs:List (Nat×Ob))(is js:List Nat):St:=
 ⟨S.r,fun j=>match bP js is j with|some i=>(match l5 (qt S.ver shs is js) is js (de obs i) with|some o=>o|none=>.dead)|none=>S.o j,qt S.ver shs is js⟩
def s9 (S:St):List Operand→List Sh→List Nat
 |x::xs,s::ss=>(bif jZ s then bE S [] [x] else[])++s9 S xs ss
 |_,_=>[]
def zS:List Nat→Nat→List PI
 |[],_=>[]
 |j::js,k=>.setO j (.tget (.o fl) k)::zS js (k+1)
def GN (S:St)(res:Ty)(f:Nat)(shs:List Sh)(obs:List (Nat×Ob))(acts:List kf)(is js:List Nat):Option (St×Ty×List PI):=
 (oN S is js acts shs).bind fun es=>
    bif yN shs obs&&(gl is&&gl js&&mu S is js obs js&&kD (S.o fl)&& !aC js fl) then some (S.handed shs obs is js,res,.mcall fl f (es++js.map .o)::zS js 1) else none
def GO (C:Ctx)(S:St)(res:Ty)(f:Nat)(shs:List Sh)(obs:List (Nat×Ob))(acts:List kf):Option (St×Ty×List PI):=
 GN S res f shs obs acts (obs.map (·.1)) (O6 S shs obs acts)
def ml (C:Ctx)(S:St)(f:Nat)(args:List Operand)(caps:List (Nat×Nat)):Option (St×Ty×List PI):=
 (C.sig f).bind fun s=>
    match s.mode with
    |.ob shs obs=>GO C (S.fzs (s9 S args shs)) s.res f shs obs (args.map (Ah C (S.fzs (s9 S args shs)))++caps.map Od)
    |_=>none
theorem QV {l:List Nat}{x:Nat}:aC l x=true↔x∈l:=by
 unfold aC;rw[List.any_eq_true];exact⟨fun⟨y,hy,h⟩=>by rw[Nat.eq_of_beq_eq_true h];exact hy,fun h=>⟨x,h,Nat.beq_refl x⟩⟩
theorem Rm:∀{is js:List Nat} {i j:Nat},bP is js i=some j→∃k:Nat,is[k]?=some i∧js[k]?=some j
 |[],_,i,j,h=>by cases h
 |_::_,[],i,j,h=>by cases h
 |x::is,y::js,i,j,h=>by
  simp only[bP] at h;cases hb:Nat.beq x i<;>simp only[hb,cond_true,cond_false] at h
  ·obtain⟨k,h1,h2⟩:=Rm h;exact⟨k+1,h1,h2⟩
  ·cases h;exact⟨0,by rw[Nat.eq_of_beq_eq_true hb];rfl,rfl⟩
theorem CC:∀{is js:List Nat} {i j k:Nat},is.Nodup→is[k]?=some i→js[k]?=some j→bP is js i=some j
 |[],_,i,j,k,_,h,_=>by simp at h
 |_::_,[],i,j,k,_,_,h=>by simp at h
 |x::is,y::js,i,j,k,hn,h1,h2=>by
  simp only[bP];cases k with
  |zero=>simp at h1 h2;subst h1 h2;rw[Nat.beq_refl];rfl
  |succ k=>
   simp at h1 h2;have av:x≠i:=fun e=>by subst e;exact(List.nodup_cons.1 hn).1 (List.mem_of_getElem? h1)
   rw[dO av];exact CC (List.nodup_cons.1 hn).2 h1 h2
theorem CD {is js:List Nat}(h2:js.Nodup){i j:Nat}(h:bP is js i=some j):bP js is j=some i:=by
 obtain⟨k,g1,g2⟩:=Rm h;exact CC h2 g2 g1
theorem ahX (obs:List (Nat×Ob))(f:Nat→D):∀{is js:List Nat} {i j:Nat},is=obs.map (·.1)→bP is js i=some j→j4 obs (js.map f) i=f j:=by
 induction obs with
 |nil=>intro is js i j h1 h2;subst h1;cases h2
 |cons x l ih=>
  intro is js i j h1 h2;subst h1;cases js with
  |nil=>cases h2
  |cons y js=>
   simp only[List.map_cons,bP] at h2;simp only[List.map_cons,j4];cases hb:Nat.beq x.1 i<;>simp only[hb,cond_true,cond_false] at h2 ⊢
   ·exact ih rfl h2
   ·cases h2;rfl
theorem Rj:∀{obs:List (Nat×Ob)} {js:List Nat} {os:List D} {i j:Nat},os.length=obs.length→bP (obs.map (·.1)) js i=some j→∃k:Nat,js[k]?=some j∧j4 obs os i=os.getD k .none
 |[],_,_,i,j,_,h=>by cases h
 |_::_,[],_,i,j,_,h=>by cases h
 |_::_,_::_,[],i,j,hl,h=>by simp at hl
 |x::obs,y::js,o::os,i,j,hl,h=>by
  simp only[List.map_cons,bP] at h;simp only[j4];cases hb:Nat.beq x.1 i<;>simp only[hb,cond_true,cond_false] at h ⊢
  ·obtain⟨k,h1,h2⟩:=Rj (obs:=obs) (js:=js) (os:=os) (by simpa using hl) h;exact⟨k+1,h1,by simpa using h2⟩
  ·cases h;exact⟨0,rfl,rfl⟩
theorem Rp:∀{obs:List (Nat×Ob)} {js:List Nat} {i:Nat},js.length=obs.length→bP (obs.map (·.1)) js i=none→de obs i=.dead
 |[],_,i,_,_=>rfl
 |x::obs,[],i,hl,h=>by simp at hl
 |x::obs,y::js,i,hl,h=>by
  simp only[List.map_cons,bP] at h;simp only[de];cases hb:Nat.beq x.1 i<;>simp only[hb,cond_true,cond_false] at h ⊢
  ·exact Rp (by simpa using hl) h
  ·cases h
theorem Pe {S:St}{is js:List Nat}:∀{obs:List (Nat×Ob)} {jl:List Nat},mu S is js obs jl=true→jl.length=obs.length
 |[],[],_=>rfl
 |[],_::_,h=>by simp[mu] at h
 |_::_,[],h=>by simp[mu] at h
 |o::obs,j::jl,h=>by simp only[mu,Bool.and_eq_true] at h;simp[Pe h.2]
theorem Pd {S:St}{is js:List Nat}:∀{obs:List (Nat×Ob)} {jl:List Nat},mu S is js obs jl=true→∀{i j:Nat},bP (obs.map (·.1)) jl i=some j→∃x,l5 S.ver is js (de obs i)=some x∧sX (S.o j) x=true
 |[],_,_,i,j,h=>by cases h
 |_::_,[],_,i,j,h=>by cases h
 |o::obs,y::jl,hf,i,j,h=>by
  simp only[mu,Bool.and_eq_true] at hf;simp only[List.map_cons,bP] at h;simp only[de];cases hb:Nat.beq o.1 i<;>simp only[hb,cond_true,cond_false] at h ⊢
  ·exact Pd hf.2 h
  ·cases h;have h1:=hf.1;split at h1
   ·rename_i x hx;exact⟨x,hx,h1⟩
   ·cases h1
theorem Pf:∀{a b:List Sh},sY a b=true→a.length=b.length∧∀(i:Nat) (y:Sh),b[i]?=some y→∃x,a[i]?=some x∧xd x y=true
 |[],[],_=>⟨rfl,fun i y h=>by simp at h⟩
 |[],_::_,h=>by simp[sY] at h
 |_::_,[],h=>by simp[sY] at h
 |a::as,b::bs,h=>by
  simp only[sY,Bool.and_eq_true] at h;obtain⟨g1,g2⟩:=Pf h.2;refine⟨by simp[g1],fun i y hy=>?_⟩;cases i with
  |zero=>simp at hy;subst hy;exact⟨a,rfl,h.1⟩
  |succ i=>simp at hy;simpa using g2 i y hy
theorem LA {ver:Nat→Nat}{is js:List Nat}:∀{a b:List Sh},zM ver is js a=some b→b.length=a.length∧∀(i:Nat) (x:Sh),a[i]?=some x→∃y,b[i]?=some y∧iz ver is js x=some y
 |[],b,h=>by simp only[zM,Option.some.injEq] at h;subst h;exact⟨rfl,fun i x h=>by simp at h⟩
 |s::l,b,h=>by
  simp only[zM,Option.bind_eq_some_iff,Option.map_eq_some_iff] at h;obtain⟨y,hy,r,hr,rfl⟩:=h;obtain⟨g1,g2⟩:=LA hr;refine⟨by simp[g1],fun i x hx=>?_⟩;cases i with
  |zero=>simp at hx;subst hx;exact⟨y,rfl,hy⟩
  |succ i=>simp at hx;simpa using g2 i x hx
theorem Fk {ver:Nat→Nat}{is js:List Nat}:∀{a b:List (Nat×Nat)},zL ver is js a=some b→b.length=a.length∧∀(i x v:Nat),a[i]?=some (x,v)→∃j,b[i]?=some (j,ver j)∧bP is js x=some j∧v=0
 |[],b,h=>by simp only[zL,Option.some.injEq] at h;subst h;exact⟨rfl,fun i x v h=>by simp at h⟩
 |s::l,b,h=>by
  simp only[zL] at h;cases hb:Nat.beq s.2 0<;>simp only[hb,cond_true,cond_false] at h
  ·cases h
  simp only[Option.bind_eq_some_iff,Option.map_eq_some_iff] at h;obtain⟨y,hy,r,hr,rfl⟩:=h;obtain⟨g1,g2⟩:=Fk hr;refine⟨by simp[g1],fun i x v hx=>?_⟩;cases i with
  |zero=>simp at hx;subst hx;exact⟨y,rfl,hy,Nat.eq_of_beq_eq_true hb⟩
  |succ i=>simp at hx;simpa using g2 i x v hx
theorem Lz {ver:Nat→Nat}{is js:List Nat}{s x:Sh}(h:iz ver is js s=some x):(∀gs s',s≠.opt gs s')∧∀gs s',x≠.opt gs s':=by
 cases s<;>simp only[iz] at h
 case none=>cases h;exact⟨(fun _ _ e=>by cases e),(fun _ _ e=>by cases e)⟩
 case dat=>cases h;exact⟨(fun _ _ e=>by cases e),(fun _ _ e=>by cases e)⟩
 case obj i v=>
  cases hb:Nat.beq v 0<;>simp only[hb,cond_true,cond_false] at h
  ·cases h
  simp only[Option.map_eq_some_iff] at h;obtain⟨j,_,rfl⟩:=h;exact⟨(fun _ _ e=>by cases e),(fun _ _ e=>by cases e)⟩
 case ptr i v off=>
  cases hb:Nat.beq v 0<;>simp only[hb,cond_true,cond_false] at h
  ·cases h
  simp only[Option.map_eq_some_iff] at h;obtain⟨j,_,rfl⟩:=h;exact⟨(fun _ _ e=>by cases e),(fun _ _ e=>by cases e)⟩
 case fclo f caps=>
  simp only[Option.map_eq_some_iff] at h;obtain⟨j,_,rfl⟩:=h;exact⟨(fun _ _ e=>by cases e),(fun _ _ e=>by cases e)⟩
 all_goals cases h
section
variable {C:Ctx} {S S1:St} {ρ ρ1:Env} {σ σ1:Im} {own cQ:Nat→Option Nat} {hv aK:Nat→Value} {w0:World} {σ0:Base} {A:Nat→Prop} {a:Act} {w w1:World} {Φ:aO} {dst:Nat}
 {is js:List Nat} {shs:List Sh} {obs:List (Nat×Ob)} {ρf:Env}
theorem VH (hσ:Im.leR C.cap σ σ1){du:Nat→Value}(dU:∀i j,bP is js i=some j→du i=hv j){s x:Sh}(hr:iz S.ver is js s=some x){v:Value}{d:D}(h:ay C S ρ σ hv x v d):ay C (dY shs obs) ρf σ1 du s v d:=by
 cases s<;>simp only[iz] at hr
 case none=>trivial
 case dat=>cases hr;exact hσ.rep h
 case obj i ver=>
  cases hb:Nat.beq ver 0<;>simp only[hb,cond_true,cond_false] at hr
  ·cases hr
  simp only[Option.map_eq_some_iff] at hr;obtain⟨j,hj,rfl⟩:=hr;exact⟨by rw[Nat.eq_of_beq_eq_true hb];exact Nat.zero_le _,fun _=>by rw[dU i j hj];exact h.2 rfl⟩
 case ptr i ver off=>
  cases hb:Nat.beq ver 0<;>simp only[hb,cond_true,cond_false] at hr
  ·cases hr
  simp only[Option.map_eq_some_iff] at hr;obtain⟨j,hj,rfl⟩:=hr;exact⟨by rw[Nat.eq_of_beq_eq_true hb];exact Nat.zero_le _,fun _=>by rw[dU i j hj];exact h.2 rfl⟩
 case fclo f caps=>
  simp only[Option.map_eq_some_iff] at hr;obtain⟨c,hc,rfl⟩:=hr;obtain⟨g1,g2⟩:=Fk hc;obtain⟨vs,h1,h2,h3⟩:=h;refine⟨vs,h1,by omega,fun i x ver hi=>?_⟩;obtain⟨j,e1,e2,e3⟩:=g2 i x ver hi;exact⟨by rw[e3];exact Nat.zero_le _,fun _=>by rw[dU x j e2];exact(h3 i j _ e1).2 rfl⟩
 all_goals cases hr
theorem amA (hσ:σ.le σ1){du:Nat→Value}(dU:∀i j,bP is js i=some j→du i=aK j){s x:Sh}(hr:iz S1.ver is js s=some x){v:Value}{d:D}(h:ay C (dY shs obs) ρf σ du s v d):ay C S1 ρ1 σ1 aK x v d:=by
 cases s<;>simp only[iz] at hr
 case none=>cases hr;trivial
 case dat=>cases hr;exact Rep.mono hσ h
 case obj i ver=>
  cases hb:Nat.beq ver 0<;>simp only[hb,cond_true,cond_false] at hr
  ·cases hr
  simp only[Option.map_eq_some_iff] at hr;obtain⟨j,hj,rfl⟩:=hr;exact⟨Nat.le_refl _,fun _=>by rw[←dU i j hj];exact h.2 (Nat.eq_of_beq_eq_true hb)⟩
 case ptr i ver off=>
  cases hb:Nat.beq ver 0<;>simp only[hb,cond_true,cond_false] at hr
  ·cases hr
  simp only[Option.map_eq_some_iff] at hr;obtain⟨j,hj,rfl⟩:=hr;exact⟨Nat.le_refl _,fun _=>by rw[←dU i j hj];exact h.2 (Nat.eq_of_beq_eq_true hb)⟩
 case fclo f caps=>
  simp only[Option.map_eq_some_iff] at hr;obtain⟨c,hc,rfl⟩:=hr;obtain⟨g1,g2⟩:=Fk hc;obtain⟨vs,h1,h2,h3⟩:=h;refine⟨vs,h1,by omega,fun i j ver hi=>?_⟩;have ae:i<caps.length:=by have:=(List.getElem?_eq_some_iff.1 hi).1;omega
  obtain⟨j',e1,e2,e3⟩:=g2 i _ _ (List.getElem?_eq_getElem ae);rw[hi] at e1;cases e1;exact⟨Nat.le_refl _,fun _=>by rw[←dU _ j e2];exact(h3 i _ _ (List.getElem?_eq_getElem ae)).2 e3⟩
 all_goals cases hr
theorem acM {c x:Sh}(hf:xd c x=true){v:Value}{d:D}(h:ay C S ρ σ hv c v d):ay C S ρ σ hv x v d:=by
 cases x with
 |none=>trivial
 |dat b=>
  simp only[xd] at hf;split at hf
  ·exact Rep.sub h hf
  ·cases hf
 |_=>simp only[xd] at hf;rw[Sh.beq_eq _ _ hf] at h;exact h
theorem akj (hσ:Im.leR C.cap σ σ1){du:Nat→Value}{yR:Nat→Option Nat}(dU:∀i j,bP is js i=some j→du i=hv j)(bz:∀k j i,own k=some j→bP js is j=some i→yR k=some i)(bk:js.Nodup){i j N:Nat}(cu:bP is js i=some j)(hρ:ρf.o i=ρ.o j){ob x:Ob}
 (hr:l5 S.ver is js ob=some x) (hf:sX (S.o j) x=true) (h:bJ C S ρ σ own hv w N j (S.o j)):bJ C (dY shs obs) ρf σ1 yR du w N i ob:=by
 have oW:=CD bk cu;cases ob<;>simp only[l5] at hr
 case row T e=>
  cases hr;cases ho:S.o j<;>rw[ho] at hf h<;>simp only[sX,Bool.and_eq_true] at hf<;>try (cases hf;done)
  obtain⟨cells,xs,h1,h2,h3,h4⟩:=h;rw[Nat.eq_of_beq_eq_true hf.1,Ty.beq_eq _ _ hf.2] at*;exact⟨cells,xs,by rw[hρ];exact h1,by rw[dU i j cu];exact h2,h3.monoR hσ,fun k hk=>bz k j i (h4 k (by rw[←dU i j cu];exact hk)) oW⟩
 case mp kt et=>
  cases hr;cases ho:S.o j<;>rw[ho] at hf h<;>simp only[sX,Bool.and_eq_true] at hf<;>try (cases hf;done)
  obtain⟨k,arr,clock,es,h1,h2,h3,h4,h5,h6,h7⟩:=h;rw[Ty.beq_eq _ _ hf.1,Ty.beq_eq _ _ hf.2] at*;exact⟨k,arr,clock,es,by rw[dU i j cu];exact h1,bz k j i h2 oW,h3,by rw[hρ];exact h4,h5,h6,fun n e p he hp=>⟨hσ.rep (h7 n e p he hp).1,hσ.rep (h7 n e p he hp).2⟩⟩
 case box ag cs=>
  simp only[Option.map_eq_some_iff] at hr;obtain⟨cs',dD,rfl⟩:=hr;cases ho:S.o j<;>rw[ho] at hf h<;>simp only[sX,Bool.and_eq_true] at hf<;>try (cases hf;done)
  obtain⟨k,vs,T,ds,h1,h2,h3,h4,h5,h6,h7⟩:=h;obtain⟨l1,g1⟩:=Pf hf.2;obtain⟨l2,g2⟩:=LA dD;refine⟨k,vs,T,ds,by rw[dU i j cu];exact h1,bz k j i h2 oW,h3,by omega,by rw[hρ];exact h5,by omega,fun n s hs=>?_⟩;obtain⟨y,hy,yo⟩:=g2 n s hs;obtain⟨z,hz,xL⟩:=g1 n y hy;exact⟨(Lz yo).1,VH hσ dU yo (acM xL (h7 n z hz).2)⟩
 all_goals cases hr
theorem akk (hσ:σ.le σ1){du:Nat→Value}{yR:Nat→Option Nat}(dU:∀i j,bP is js i=some j→du i=aK j)(bz:∀k i j,yR k=some i→bP is js i=some j→cQ k=some j){i j N:Nat}(cu:bP is js i=some j)(hρ:ρ1.o j=ρf.o i){ob x:Ob}
 (hr:l5 S1.ver is js ob=some x) (h:bJ C (dY shs obs) ρf σ yR du w N i ob):bJ C S1 ρ1 σ1 cQ aK w N j x:=by
 cases ob<;>simp only[l5] at hr
 case row T e=>
  cases hr;obtain⟨cells,xs,h1,h2,h3,h4⟩:=h;exact⟨cells,xs,by rw[hρ];exact h1,by rw[←dU i j cu];exact h2,h3.mono hσ,fun k hk=>bz k i j (h4 k (by rw[dU i j cu];exact hk)) cu⟩
 case mp kt et=>
  cases hr;obtain⟨k,arr,clock,es,h1,h2,h3,h4,h5,h6,h7⟩:=h;exact⟨k,arr,clock,es,by rw[←dU i j cu];exact h1,bz k i j h2 cu,h3,by rw[hρ];exact h4,h5,h6,fun n e p he hp=>⟨(h7 n e p he hp).1.mono hσ,(h7 n e p he hp).2.mono hσ⟩⟩
 case box ag cs=>
  simp only[Option.map_eq_some_iff] at hr;obtain⟨cs',dD,rfl⟩:=hr;obtain⟨k,vs,T,ds,h1,h2,h3,h4,h5,h6,h7⟩:=h;obtain⟨l2,g2⟩:=LA dD;refine⟨k,vs,T,ds,by rw[←dU i j cu];exact h1,bz k i j h2 cu,h3,by omega,by rw[hρ];exact h5,by omega,fun n s hs=>?_⟩;have ae:n<cs.length:=by have:=(List.getElem?_eq_some_iff.1 hs).1;omega
  obtain⟨y,hy,yo⟩:=g2 n _ (List.getElem?_eq_getElem ae);rw[hs] at hy;cases hy;exact⟨(Lz yo).2,amA hσ dU yo (h7 n _ (List.getElem?_eq_getElem ae)).2⟩
 all_goals cases hr
theorem amz {ver:Nat→Nat}{ob x:Ob}(hr:l5 ver is js ob=some x):x≠.tr:=by
 cases ob<;>simp only[l5] at hr
 case row=>cases hr;intro e;cases e
 case mp=>cases hr;intro e;cases e
 case box=>
  simp only[Option.map_eq_some_iff] at hr;obtain⟨_,_,rfl⟩:=hr;intro e;cases e
 all_goals cases hr
theorem CtxOK.noM (h:CtxOK C σ):CtxOK C σ.noM:=⟨fun g x hx=>(h.glob g x hx).noM⟩
def u9 (C:Ctx)(S:St)(ρ:Env)(σ:Im)(hv:Nat→Value)(x:kf)(v:Value)(d:D):Prop:=ay C S ρ σ hv x.1 v d∧∀y,x.2=some y→Rep C.cap σ y.1 v (y.2.ev ρ)
theorem Pb:∀{acts:List kf} {shs:List Sh} {es:List PE},oN S is js acts shs=some es→acts.length=shs.length∧es.length=shs.length∧∀(t:Nat) (s:Sh),shs[t]?=some s→∃x e,acts[t]?=some x∧es[t]?=some e∧xc S is js x s=some e
 |[],[],es,h=>by simp only[oN,Option.some.injEq] at h;subst h;exact⟨rfl,rfl,fun t s h=>by simp at h⟩
 |[],_::_,es,h=>by simp[oN] at h
 |_::_,[],es,h=>by simp[oN] at h
 |x::acts,s::shs,es,h=>by
  simp only[oN,Option.bind_eq_some_iff,Option.map_eq_some_iff] at h;obtain⟨e,he,r,hr,rfl⟩:=h;obtain⟨g1,g2,g3⟩:=Pb hr;refine⟨by simp[g1],by simp[g2],fun t s' hs=>?_⟩;cases t with
  |zero=>simp at hs;subst hs;exact⟨x,e,rfl,rfl,he⟩
  |succ t=>simp at hs;simpa using g3 t s' hs
theorem acK (hσ:Im.leR C.cap σ σ1){du:Nat→Value}(dU:∀i j,bP is js i=some j→du i=hv j){x:kf}{s:Sh}{e:PE}(hf:xc S is js x s=some e){v:Value}{d:D}(h:u9 C S ρ σ hv x v d):ay C (dY shs obs) ρf σ1 du s v (e.ev ρ):=by
 have gen:∀s,(match iz S.ver is js s with|some y=>bif Sh.beq x.1 y then some (PE.con .none) else none|none=>none)=some e→jZ s=false→ay C (dY shs obs) ρf σ1 du s v (e.ev ρ):=by
  intro s hm hd;split at hm
  ·rename_i y hy;cases hb:Sh.beq x.1 y<;>simp only[hb,cond_true,cond_false] at hm
   ·cases hm
   have h1:=h.1;rw[Sh.beq_eq _ _ hb] at h1;have:=VH (shs:=shs) (obs:=obs) (ρf:=ρf) hσ dU hy h1;cases s with
   |dat t=>cases hd
   |opt gs s'=>exact absurd rfl ((Lz hy).1 gs s')
   |eptr j ver size off=>simp[iz] at hy
   |_=>exact this
  ·cases hm
 unfold xc at hf;split at hf
 ·rename_i t;split at hf
  ·rename_i y hy;cases hb:Ty.sub y.1 t<;>simp only[hb,cond_true,cond_false] at hf
   ·cases hf
   cases hf;exact hσ.rep ((h.2 y hy).sub hb)
  ·cases hf
 ·trivial
 ·rename_i iP lF;refine gen _ hf ?_;cases s<;>first|rfl|exact absurd rfl (iP _)
theorem abr {du IC:Nat→Value}{σ σ':Im}{ρf ρf':Env}{args:Nat→Value}{ds ds':Nat→D}(h1:∀(t:Nat) (s:Sh),shs[t]?=some s→ay C (dY shs obs) ρf σ du s (args t) (ds t))(h2:∀(t:Nat) (s:Sh),shs[t]?=some s→jZ s=false→ay C (dY shs obs) ρf' σ' IC s (args t) (ds' t))
 (hz:∀s,s∈shs→∃x,iz S.ver is js s=some x) {i:Nat} (hi:i∈lj shs):IC i=du i:=by
 have key:∀(l:List Sh),(∀s,s∈l→∃t:Nat,shs[t]?=some s)→i∈lj l→IC i=du i:=by
  intro l
  induction l with
  |nil=>intro _ h;cases h
  |cons s l ih=>
   intro hl hi;obtain⟨t,ht⟩:=hl s (List.mem_cons_self ..);have tC:∀s,s∈l→∃t:Nat,shs[t]?=some s:=fun s hs=>hl s (List.mem_cons_of_mem _ hs);obtain⟨x,hx⟩:=hz s (List.mem_of_getElem? ht);have a1:=h1 t s ht;have a2:=h2 t s ht;cases s<;>simp only[lj] at hi
   case obj j ver=>
        simp only[iz] at hx;cases hb:Nat.beq ver 0<;>simp only[hb,cond_true,cond_false] at hx
        ·cases hx
        rcases List.mem_cons.1 hi with e|e
        ·subst e;rw[←(a1.2 (Nat.eq_of_beq_eq_true hb)),←((a2 rfl).2 (Nat.eq_of_beq_eq_true hb))]
        ·exact ih tC e
   case ptr j ver off=>
        simp only[iz] at hx;cases hb:Nat.beq ver 0<;>simp only[hb,cond_true,cond_false] at hx
        ·cases hx
        rcases List.mem_cons.1 hi with e|e
        ·subst e;obtain⟨k1,e1,e2⟩:=a1.2 (Nat.eq_of_beq_eq_true hb);obtain⟨k2,e3,e4⟩:=(a2 rfl).2 (Nat.eq_of_beq_eq_true hb);rw[e2] at e4;cases e4;rw[e1,e3]
        ·exact ih tC e
   case fclo f caps=>
        simp only[iz,Option.map_eq_some_iff] at hx;obtain⟨c,hc,_⟩:=hx;obtain⟨_,g2⟩:=Fk hc;rcases List.mem_append.1 hi with e|e
        ·obtain⟨y,hy,e1⟩:=List.mem_map.1 e;subst e1;obtain⟨m,hm⟩:=List.getElem?_of_mem hy;obtain⟨vs,b1,b2,b3⟩:=a1;obtain⟨u5,c1,c2,c3⟩:=a2 rfl;rw[b1] at c1;have ff:vs=u5:=by simpa using c1
         subst ff;obtain⟨_,_,_,tP⟩:=g2 m y.1 y.2 hm;rw[←(b3 m y.1 y.2 hm).2 tP,←(c3 m y.1 y.2 hm).2 tP]
        ·exact ih tC e
   all_goals exact ih tC hi
 exact key shs (fun s hs=>List.getElem?_of_mem hs) hi
end
section
variable {C:Ctx} {S:St} {ρ:Env} {σ:Im} {own:Nat→Option Nat} {hv:Nat→Value} {w0:World} {σ0:Base} {A:Nat→Prop} {a:Act} {w:World} {Φ:aO} {dst:Nat}
 {is js:List Nat} {shs:List Sh} {obs:List (Nat×Ob)}
theorem Below.weak {B:Nat}{w w':World}(h:Below 0 w w')(hk:∀k,k<B→w'.heap[k]?=w.heap[k]?):Below B w w':=⟨h.os,h.tape,h.output,h.size,hk⟩
def kI (js is:List Nat)(own:Nat→Option Nat):Nat→Option Nat:=fun k=>(own k).bind (bP js is)
def yQ (js is:List Nat)(own own':Nat→Option Nat):Nat→Option Nat:=fun k=>
 match own' k with
 |some i=>bP is js i
 |none=>match own k with|some j=>(match bP js is j with|some _=>none|none=>some j)|none=>none
theorem handed (h:Inv C S ρ σ own hv w0 σ0 A a w)(hC:CtxOK C σ0)(agO:yN shs obs=true)(xP:is=obs.map (·.1))(Qp:is.Nodup)(Cf:js.Nodup)(B0:mu S is js obs js=true){acts:List kf}{es:List PE}(fL:oN S is js acts shs=some es)
 (BW:S.o fl=.dead) (Co:fl∉js) {vals:List Value} (hvl:vals.length=acts.length) (afa:∀(t:Nat) (x:kf),acts[t]?=some x→∃d,u9 C S ρ σ hv x (vals.getD t undef) d) {f:Nat} {res:Ty} {d:D}
 (hfn:jb C f shs obs res (es.map (PE.ev ρ)++js.map ρ.o) d):
 Calls C.P f vals.toArray w fun e w'=>∃v dr os,e=.returned v∧d=.tup (dr::os)∧os.length=js.length∧
  ∀ρ':Env,ρ'.r=ρ.r→(∀(k j:Nat),js[k]?=some j→ρ'.o j=os.getD k .none)→(∀j,j∉js→j≠fl→ρ'.o j=ρ.o j)→
   ∃σ1 cQ aK,Inv C (S.handed shs obs is js) ρ' σ1 cQ aK w0 σ0 A a w'∧Rep C.cap σ1 res v dr:=by
 obtain⟨al1,W3,gf⟩:=Pb fL;have ei:=Pe B0;have pq:w0.heap.size≤w.heap.size:=h.below.size;obtain⟨tr,fx,cx,hf,rq⟩:=h.frame
 let du:Nat→Value:=fun i=>match bP is js i with|some j=>hv j|none=>undef
 have dU:∀i j,bP is js i=some j→du i=hv j:=fun i j e=>by simp only[du,e]
 have Qg:Im.leR C.cap σ σ.noM:=⟨Rep.noM,fun _ _ _ e=>e⟩
 have x9:∀k x,σ.noM.m k=some x→σ.m k=some x∧x≠cl:=by
  intro k x e;by_cases hd:σ.m k=some cl
  ·simp[Im.noM,hd] at e
  ·simp only[Im.noM,if_neg hd] at e;exact⟨e,fun e2=>hd (by rw[e,e2])⟩
 have qX:(es.map (PE.ev ρ)++js.map ρ.o).drop shs.length=js.map ρ.o:=by rw[List.drop_append];simp[W3]
 have afU:∀t e,es[t]?=some e→(es.map (PE.ev ρ)++js.map ρ.o).getD t .none=e.ev ρ:=fun t e he=>by
  have ae:=(List.getElem?_eq_some_iff.1 he).1;rw[List.getD_eq_getElem?_getD,List.getElem?_append_left (by simpa using ae),List.getElem?_map,he];rfl
 have ag0:∀s,s∈shs→∃x,iz S.ver is js s=some x:=by
  intro s hs;obtain⟨t,ht⟩:=List.getElem?_of_mem hs;obtain⟨x,e,_,_,he⟩:=gf t s ht;unfold xc at he;split at he
  ·exact⟨_,rfl⟩
  ·exact⟨_,rfl⟩
  ·split at he
   ·rename_i y hy;exact⟨y,hy⟩
   ·cases he
 have Qb:∀t,ay C (dY shs obs) (jx obs (es.map (PE.ev ρ)++js.map ρ.o) ((es.map (PE.ev ρ)++js.map ρ.o).drop shs.length)) σ.noM du (shs.getD t .none) (vals.toArray.getD t undef) ((es.map (PE.ev ρ)++js.map ρ.o).getD t .none):=by
  intro t;cases hs:shs[t]? with
  |none=>rw[List.getD_eq_getElem?_getD,hs];trivial
  |some s=>
   obtain⟨x,e,hx,he,BZ⟩:=gf t s hs;obtain⟨d',afb⟩:=afa t x hx;rw[List.getD_eq_getElem?_getD (l:=shs),hs,afU t e he];have e1:vals.toArray.getD t undef=vals.getD t undef:=by simp[Array.getD_eq_getD_getElem?,List.getD_eq_getElem?_getD]
   rw[e1];exact acK Qg dU BZ afb
 have af8:∀i,bJ C (dY shs obs) (jx obs (es.map (PE.ev ρ)++js.map ρ.o) ((es.map (PE.ev ρ)++js.map ρ.o).drop shs.length)) σ.noM (kI js is own) du w w0.heap.size i (de obs i):=by
  intro i;cases cu:bP is js i with
  |none=>subst xP;rw[Rp ei cu];trivial
  |some j=>
   subst xP;obtain⟨x,hx,B1⟩:=Pd B0 cu;refine akj Qg dU (fun k j' i' hk hl=>by simp only[kI,hk,Option.bind_some,hl]) Cf cu ?_ hx B1 (h.objs j);show j4 obs _ i=_;rw[qX];exact ahX obs ρ.o rfl cu
 have qV:=hfn w0.heap.size σ.noM (kI js is own) du w vals.toArray (fun k=>(∃j,own k=some j∧bP js is j=none)∨σ.m k=some cl∨(cx k)) agO ⟨h.ok.c,fun k x e=>h.ok.m k x (x9 k x e).1⟩ ((hC.mono h.le).noM)
  (fun k e=>(x9 k _ e).2 rfl) pq (by simp;omega) (fun k i hk=>by
    simp only[kI,Option.bind_eq_some_iff] at hk;obtain⟨j,hj,_⟩:=hk;obtain⟨g1,g2,g3,g4⟩:=h.owns k j hj;exact⟨g1,g2,g3,by by_cases e:σ.m k=some cl<;>simp[Im.noM,e,g4]⟩) (fun k hk=>by
    rcases hk with⟨j,hj,hn⟩|hk|hk
    ·obtain⟨g1,g2,g3,g4⟩:=h.owns k j hj;exact⟨g2,by simp[kI,hj,hn],g3,by by_cases e:σ.m k=some cl<;>simp[Im.noM,e,g4]⟩
    ·have xX:=h.ok.m k _ hk;have hn:own k=none:=by
      cases e:own k with
      |none=>rfl
      |some j=>rw[(h.owns k j e).2.2.2] at hk;cases hk
     refine⟨xX.lt,by simp[kI,hn],fun o=>?_,by simp[Im.noM,hk]⟩;cases e:σ.c k o with
     |none=>exact e
     |some x=>
      have c1:=h.ok.c k o x e;rcases xX with⟨m1,_⟩|⟨_,m2⟩
      ·exact absurd rfl m1
      ·simp[World.cell?,m2] at c1
    ·have gZ:=σ0.sub _ _ _ _ hf.F k hk;have hn:own k=none:=by
      cases e:own k with
      |none=>rfl
      |some j=>exact absurd gZ (hf.own k j e)
     refine⟨σ0.lt _ _ _ _ hf.F k gZ,by simp[kI,hn],fun o=>?_,?_⟩
     ·cases e:σ.c k o with
      |none=>exact e
      |some x=>exact absurd hk (hf.c k o x e)
     ·cases e:σ.m k with
      |none=>simp[Im.noM,e]
      |some x=>exact absurd hk (hf.m k x e)) Qb af8
 refine qV.mono fun e w' hh=>?_;obtain⟨v,σ',own',hv',dr,os,rfl,hd,H7,hle,aw,hb,fO,cY,cM,Ce,Qv,agf,H5,iS⟩:=hh;refine⟨v,dr,os,rfl,hd,by omega,fun ρ' fq mF rj=>?_⟩;have Ci:∀k,k<w.heap.size→own k=none→w'.heap[k]?=w.heap[k]?:=fun k hk hn=>fO k hk (by simp[kI,hn]);have agJ:∀k j,own k=some j→bP js is j=none→w'.heap[k]?=w.heap[k]?:=fun k j hk hn=>fO k (h.owns k j hk).2.1 (by simp[kI,hk,hn])
 have afB:∀k o x,σ.c k o=some x→own k=none:=fun k o x e=>by
  cases e1:own k with
  |none=>rfl
  |some j=>rw[(h.owns k j e1).2.2.1 o] at e;cases e
 have Qn:∀k x,σ.m k=some x→own k=none:=fun k x e=>by
  cases e1:own k with
  |none=>rfl
  |some j=>rw[(h.owns k j e1).2.2.2] at e;cases e
 have Ck:σ.ok w':=⟨fun k o x e=>by rw[World.cell?_of_block (Ci k (h.lt e) (afB k o x e))];exact h.ok.c k o x e,fun k x e=>(h.ok.m k x e).keep (Ci k (h.ltm e) (Qn k x e))⟩
 have jj:σ.le (σ'.plus σ):=Im.plus_le2 aw Ck;have jk:σ'.le (σ'.plus σ):=Im.plus_le1 σ' σ;have dD:∀k o x,(σ'.plus σ).c k o=some x→σ'.c k o=some x:=fun k o x e=>(Im.plus_c e).elim id (fun e=>hle.c k o x e)
 have tD:∀k x,(σ'.plus σ).m k=some x→σ'.m k=some x∨(σ.m k=some x∧x=cl):=fun k x e=>(Im.plus_m e).elim .inl (fun e=>by
  by_cases hd:x=cl
  ·exact .inr ⟨e,hd⟩
  ·refine .inl (hle.m k x ?_);have:σ.m k≠some cl:=fun e2=>hd (by rw[e] at e2;cases e2;rfl);simp only[Im.noM,if_neg this,e])
 let aK:Nat→Value:=fun j=>match bP js is j with|some i=>hv' i|none=>hv j
 have ahv:∀i j,bP is js i=some j→hv' i=aK j:=fun i j e=>by simp only[aK,CD Cf e]
 have afH:∀i,i∈lj shs→hv' i=du i:=fun i hi=>abr (S:=S) (is:=is) (js:=js) (args:=fun t=>vals.toArray.getD t undef) (ds:=fun t=>(es.map (PE.ev ρ)++js.map ρ.o).getD t .none) (ds':=fun t=>(es.map (PE.ev ρ)++js.map ρ.o).getD t .none) (fun t s hs=>by
  have:=Qb t;rw[List.getD_eq_getElem?_getD (l:=shs),hs] at this;exact this) (fun t s hs hd=>agf t s hs hd) ag0 hi
 have oR:Compat S hv (S.handed shs obs is js) aK:=by
  refine⟨fun j=>?_,fun j e=>?_⟩
  ·show S.ver j≤qt S.ver shs is js j;unfold qt;split
   ·cases aC (lj shs) _<;>simp
   ·exact Nat.le_refl _
  ·change qt S.ver shs is js j=S.ver j at e;show aK j=hv j;simp only[aK];unfold qt at e;split at e
   ·rename_i i hi;cases hb:aC (lj shs) i<;>rw[hb] at e
    ·simp at e
    ·try simp only[hi]
     rw[afH i (QV.1 hb),dU i j (CD Qp hi)]
   ·rename_i hi;try simp only[hi]
 have mA:∀k j,yQ js is own own' k=some j→(k<w.heap.size→own k≠none)∧w0.heap.size≤k∧k<w'.heap.size∧(∀o,σ'.c k o=none)∧σ'.m k=none∧σ.m k≠some cl:=by
  intro k j hk;simp only[yQ] at hk;split at hk
  ·rename_i i hi;obtain⟨g1,g2,g3,g4,g5⟩:=Qv k i hi;have g6:k<w.heap.size→own k≠none:=fun ae e=>g5 ae (by simp[kI,e]);refine⟨g6,g1,g2,g3,g4,fun e=>?_⟩;exact g6 (h.ltm e) (Qn k _ e)
  ·split at hk
   ·rename_i j' cL;split at hk
    ·cases hk
    ·rename_i hn;obtain⟨g1,g2,g3,g4⟩:=h.owns k j' cL;have gX:(∃j,own k=some j∧bP js is j=none)∨σ.m k=some cl∨(cx k):=.inl ⟨j',cL,hn⟩;refine⟨fun _ e=>(by rw[cL] at e;cases e),g1,Nat.lt_of_lt_of_le g2 hb.size,fun o=>?_,?_,fun e=>?_⟩
     ·cases e:σ'.c k o with
      |none=>rfl
      |some x=>exact absurd gX (cY k o x e).2
     ·cases e:σ'.m k with
      |none=>rfl
      |some x=>exact absurd gX (cM k x e).2
     ·rw[g4] at e;cases e
   ·cases hk
 refine⟨σ'.plus σ,yQ js is own own',aK,⟨h.defers.mono jj,Im.plus_ok aw Ck,h.le.trans jj,h.old,fun k o x e=>?_,fun k x e=>?_,h.below.trans (Below.weak hb fun k hk=>?_),h.bw,fun k j hk=>?_,fun t=>?_,fun j=>?_,h.opts,?_⟩,iS.mono jk⟩
 ·rcases(cY k o x (dD k o x e)).1 with e1|e1
  ·exact h.newc k o x e1
  ·exact .inr e1
 ·rcases tD k x e with e1|e1
  ·rcases(cM k x e1).1 with e2|e2
   ·exact h.newm k x (x9 k x e2).1
   ·exact .inr e2
  ·exact h.newm k x e1.1
 ·have bW:k<w0.heap.size:=Nat.lt_of_lt_of_le hk h.bw;refine Ci k (by omega) ?_;cases e:own k with
  |none=>rfl
  |some j=>have:=(h.owns k j e).1;omega
 ·obtain⟨_,g1,g2,g3,g4,g5⟩:=mA k j hk;refine⟨g1,g2,fun o=>?_,?_⟩
  ·cases e:(σ'.plus σ).c k o with
   |none=>rfl
   |some x=>have:=dD k o x e;rw[g3 o] at this;cases this
  ·cases e:(σ'.plus σ).m k with
   |none=>rfl
   |some x=>
    rcases tD k x e with e1|e1
    ·rw[g4] at e1;cases e1
    ·exact absurd (by rw[e1.1,e1.2]) g5
 ·show ay C _ ρ' _ aK (S.r t) _ (ρ'.r t);rw[fq]
  exact ay.mono jj oR (fun gs s e=>by
   unfold holds;rw[fq]) (fun gs s e=>(h.opts t gs s e).2) (h.regs t)
 ·show bJ C _ ρ' _ _ aK w' _ j (match bP js is j with|some i=>(match l5 (qt S.ver shs is js) is js (de obs i) with|some o=>o|none=>.dead)|none=>S.o j);split
  ·rename_i i hi;have cu:=CD Qp hi;split
   ·rename_i x hx;refine akk (S1:=S.handed shs obs is js) jk ahv (fun k i' j' hk hl=>by simp only[yQ,hk,hl]) cu ?_ hx (H5 i);subst xP;obtain⟨k,bV,bW⟩:=Rj (os:=os) H7 cu;show ρ'.o j=j4 obs os i;rw[bW];exact mF k j bV
   ·trivial
  ·rename_i hn
   have HY:j∉js:=fun hm=>by
        obtain⟨k,hk⟩:=List.getElem?_of_mem hm;have ae:k<is.length:=by
         have:=(List.getElem?_eq_some_iff.1 hk).1;rw[xP,List.length_map];omega
        have:=CC Cf hk (List.getElem?_eq_getElem ae);rw[hn] at this;cases this
   by_cases B7:j=fl
   ·subst B7;rw[BW];trivial
   ·refine(h.objs j).mono jj oR (by show aK j=hv j;simp only[aK,hn]) (rj j HY B7) (fun k hk=>⟨?_,agJ k j hk hn⟩);have:own' k=none:=by
     cases e:own' k with
     |none=>rfl
     |some i=>exact absurd (by simp[kI,hk,hn]) ((Qv k i e).2.2.2.2 (h.owns k j hk).2.1)
    simp only[yQ,this,hk,hn]
 ·refine⟨tr,fx,cx,⟨σ0.keep _ _ _ _ _ hf.F hb fun k hk=>?_,fun k j hk gZ=>?_,fun k o x e hc=>?_,fun k x e hc=>?_,fun k e hB hk=>?_⟩,fun j hj=>?_⟩
  ·refine Ci k (σ0.lt _ _ _ _ hf.F k hk) ?_;cases e:own k with
   |none=>rfl
   |some j=>exact absurd hk (hf.own k j e)
  ·have ae:=σ0.lt _ _ _ _ hf.F k gZ;have:=(mA k j hk).1 ae;cases e:own k with
   |none=>exact this e
   |some j'=>exact hf.own k j' e gZ
  ·exact(cY k o x (dD k o x e)).2 (.inr (.inr hc))
  ·rcases tD k x e with e1|e1
   ·exact(cM k x e1).2 (.inr (.inr hc))
   ·exact hf.m k x e1.1 hc
  ·rcases tD k _ e with e1|e1
   ·have ae:=σ0.lt _ _ _ _ hf.F k hk;refine Ce k e1 hB ae ?_;have:own k=none:=by
     cases e:own k with
     |none=>rfl
     |some j=>exact absurd hk (hf.own k j e)
    simp[kI,this]
   ·exact hf.d k e1.1 hB hk
  ·change (match bP js is j with|some i=>(match l5 (qt S.ver shs is js) is js (de obs i) with|some o=>o|none=>.dead)|none=>S.o j)=.tr at hj;split at hj
   ·rename_i i hi;split at hj
    ·rename_i x hx;exact absurd hj (amz hx)
    ·cases hj
   ·rename_i hn
    have HY:j∉js:=fun hm=>by
     obtain⟨k,hk⟩:=List.getElem?_of_mem hm;have ae:k<is.length:=by
         have:=(List.getElem?_eq_some_iff.1 hk).1;rw[xP,List.length_map];omega
     have:=CC Cf hk (List.getElem?_eq_getElem ae);rw[hn] at this;cases this
    have B7:j≠fl:=fun e=>by subst e;rw[BW] at hj;cases hj
    rw[rj j HY B7];exact rq j hj
theorem VZ:∀(js:List Nat) (k:Nat) {ρ ρ':Env} {l:List D},PI.runs Φ (zS js k) ρ=some ρ'→ρ.o fl=.tup l→fl∉js→js.Nodup→
 ρ'.r=ρ.r∧(∀(i j:Nat),js[i]?=some j→ρ'.o j=l.getD (k+i) .none)∧∀j,j∉js→ρ'.o j=ρ.o j
 |[],k,ρ,ρ',l,h,hs,hn,hd=>by
  simp only[zS,PI.runs,Option.some.injEq] at h;subst h;exact⟨rfl,fun i j e=>by simp at e,fun _ _=>rfl⟩
 |x::js,k,ρ,ρ',l,h,hs,hn,hd=>by
  simp only[zS,PI.runs,PI.run,Option.bind_some,PE.ev,hs,D.tget] at h;simp only[List.mem_cons,not_or] at hn;have eO:=List.nodup_cons.1 hd;obtain⟨g1,g2,g3⟩:=VZ js (k+1) h (by simp only[Env.setO];rw[ba _ _ hn.1];exact hs) hn.2 eO.2;refine⟨g1,fun i j e=>?_,fun j hj=>?_⟩
  ·cases i with
   |zero=>simp at e;subst e;rw[g3 _ eO.1];simp[Env.setO,aI]
   |succ i=>simp at e;rw[g2 i j e];congr 1;omega
  ·simp only[List.mem_cons,not_or] at hj;rw[g3 j hj.2];simp only[Env.setO];exact ba _ _ hj.1
theorem W0 (h:Inv C S ρ σ own hv w0 σ0 A a w)(hC:CtxOK C σ0)(x:Operand):∃d,u9 C S ρ σ hv (Ah C S x) (a.eval x) d:=by
 cases x with
 |tmp t=>
  refine⟨ρ.r t,?_,fun y hy=>bD (gs:=[]) h hC rfl hy⟩;have:=(kU (gs:=[]) h rfl t).1;simpa [Act.eval,Ah,eK] using this
 |_=>exact⟨.none,trivial,fun y hy=>bD (gs:=[]) h hC rfl hy⟩
theorem OO (h:Inv C S ρ σ own hv w0 σ0 A a w)(hC:CtxOK C σ0)(hΦ:dh C Φ){f:Nat}{args:List Operand}{caps:List (Nat×Nat)}{vs:List Value}(ff:vs.length=caps.length)
 (gU:∀(i j ver:Nat),caps[i]?=some (j,ver)→ver≤S.ver j∧(ver=S.ver j→vs.getD i undef=hv j)) (afp:∀(i j ver:Nat),caps[i]?=some (j,ver)→ver=S.ver j→∃k,hv j=.pointer (some ⟨k,0,none⟩)) {r:St×Ty×List PI} (hr:ml C S f args caps=some r)
 {ρ1:Env} (af:PI.runs Φ r.2.2 ρ=some ρ1):
 Calls C.P f (args.map a.eval++vs).toArray w fun e w'=>∃v σ1 cQ aK,e=.returned v∧Inv C r.1 ρ1 σ1 cQ aK w0 σ0 A a w'∧Rep C.cap σ1 r.2.1 v ((ρ1.o fl).tget 0):=by
 simp only[ml,Option.bind_eq_some_iff] at hr;obtain⟨s,hs,hr⟩:=hr;split at hr
 case h_2=>cases hr
 rename_i shs obs lE;obtain⟨σ2,fy,jk,h2⟩:=Inv.fzs (s9 S args shs) h;have dc:=(mw (s9 S args shs) S).1;generalize S.fzs (s9 S args shs)=S2 at hr h2 dc;unfold GO GN at hr;generalize O6 S2 shs obs (args.map (Ah C S2)++caps.map Od)=js at hr;simp only[Option.bind_eq_some_iff] at hr;obtain⟨es,fL,hr⟩:=hr;cases hb:(yN shs obs&&(gl (obs.map (·.1))&&gl js&&mu S2 (obs.map (·.1)) js obs js&&kD (S2.o fl)&& !aC js fl))<;>simp only[hb,cond_true,cond_false] at hr
 ·cases hr
 cases hr;simp only[Bool.and_eq_true,Bool.not_eq_true'] at hb;obtain⟨b0,⟨⟨⟨b1,b2⟩,b3⟩,b4⟩,b5⟩:=hb;have iP:=j6 b1;have lF:=j6 b2;have BW:S2.o fl=.dead:=by
  cases e:S2.o fl<;>rw[e] at b4<;>first|rfl|cases b4
 have Co:fl∉js:=fun hm=>by rw[QV.2 hm] at b5;cases b5
 simp only[PI.runs,PI.run,Option.bind_eq_some_iff,Option.map_eq_some_iff] at af;obtain⟨ρ2,⟨d,hd,rfl⟩,af⟩:=af;rw[PE.evs_eq,List.map_append,List.map_map] at hd;have e1:js.map (PE.ev ρ∘PE.o)=js.map ρ.o:=rfl;rw[e1] at hd;have hfn:=(hΦ f _ d hd s hs).2 shs obs lE
 have qV:=handed h2 hC b0 rfl iP lF b3 fL BW Co (vals:=args.map a.eval++vs) (by simp[ff]) (fun t x hx=>by
  rw[List.getElem?_append] at hx;split at hx
  ·rename_i ae;rw[List.length_map] at ae;rw[List.getElem?_map,List.getElem?_eq_getElem ae] at hx;cases hx;have:(args.map a.eval++vs).getD t undef=a.eval args[t]:=by
        rw[List.getD_eq_getElem?_getD,List.getElem?_append_left (by simpa using ae),List.getElem?_map,List.getElem?_eq_getElem ae];rfl
   rw[this];exact W0 h2 hC _
  ·rename_i eP;rw[List.length_map] at eP hx;rw[List.getElem?_map,Option.map_eq_some_iff] at hx;obtain⟨c,hc,rfl⟩:=hx;obtain⟨j,ver⟩:=c;have bR:(args.map a.eval++vs).getD t undef=vs.getD (t-args.length) undef:=by
        rw[List.getD_eq_getElem?_getD,List.getElem?_append_right (by simpa using eP),List.length_map,List.getD_eq_getElem?_getD]
   obtain⟨g1,g2⟩:=gU _ j ver hc;refine⟨.none,⟨by rw[dc];exact g1,fun e=>?_⟩,fun y hy=>by cases hy⟩;rw[dc] at e;obtain⟨k,hk⟩:=afp _ j ver hc e;exact⟨k,hk,by rw[bR,g2 e,hk]⟩) (hfn:=hfn)
 refine qV.mono fun e w' hh=>?_;obtain⟨v,dr,os,rfl,rfl,H7,jR⟩:=hh;obtain⟨g1,g2,g3⟩:=VZ js 1 (l:=dr::os) af (by simp[Env.setO,aI]) Co lF
 obtain⟨σ1,cQ,aK,hinv,bt⟩:=jR ρ1 g1 (fun k j hk=>by
  have:=g2 k j hk;rw[Nat.add_comm] at this;simpa using this) (fun j hj av=>by rw[g3 j hj];simp only[Env.setO];exact ba _ _ av)
 refine⟨v,σ1,cQ,aK,rfl,hinv,?_⟩;rw[g3 fl Co];simpa [Env.setO,aI,D.tget] using bt
def lP (S:St)(dst:Option Nat)(r:St×Ty×List PI):St×List PI:=
 match dst with
 |some d=>(r.1.setR d (.dat r.2.1),r.2.2++[.setR d (.tget (.o fl) 0)])
 |none=>(r.1,r.2.2)
theorem amQ {a b:List PI}{ρ:Env}:PI.runs Φ (a++b) ρ=(PI.runs Φ a ρ).bind (PI.runs Φ b):=by
 induction a generalizing ρ with
 |nil=>simp[PI.runs]
 |cons x a ih=>
  simp only[List.cons_append,PI.runs];cases x.run Φ ρ with
  |none=>rfl
  |some ρ1=>simp[ih]
theorem N9 {o:Oper}{f:Nat}{vals:List Value}(ht:∀d,o.dst=some d→¬A d∧d<a.tmps.size){r:St×Ty×List PI}(hx:(execOp a.eval o).run C.P w=.ok (.enter f vals.toArray) w)
 (hc:∀ρ1,PI.runs Φ r.2.2 ρ=some ρ1→Calls C.P f vals.toArray w fun e w'=>∃v σ1 cQ aK,e=.returned v∧Inv C r.1 ρ1 σ1 cQ aK w0 σ0 A a w'∧Rep C.cap σ1 r.2.1 v ((ρ1.o fl).tget 0)):bA C w0 σ0 Φ S ρ A a w o (lP S o.dst r):=by
 intro ρ' af K Q hK;simp only[Oper.wp,hx,Oper.upon];cases hd:o.dst with
 |none=>
  rw[hd] at af hK;refine(hc ρ' af).mono fun e w' hh=>?_;obtain⟨v,σ1,cQ,aK,rfl,hinv,bt⟩:=hh;refine hK _ _ ⟨σ1,cQ,aK,?_⟩ rfl;have:(fun u=>A u∨(none:Option Nat)=some u)=A:=by funext u;simp
  rw[this];exact hinv
 |some d=>
  rw[hd] at af hK;obtain⟨t1,t2⟩:=ht d hd;simp only[lP,amQ,Option.bind_eq_some_iff] at af;obtain⟨ρ1,h1,h2⟩:=af;simp[PI.runs,PI.run,PE.ev] at h2;subst h2;refine(hc ρ1 h1).mono fun e w' hh=>?_;obtain⟨v,σ1,cQ,aK,rfl,hinv,bt⟩:=hh;refine hK _ _ ⟨σ1,cQ,aK,?_⟩ (size_put _ _ _);have:(fun u=>A u∨some d=some u)=(fun u=>A u∨u=d):=by funext u;simp[eq_comm]
  rw[this];exact hinv.setReg t1 (s:=.dat r.2.1) bt t2 (fun _ _ e=>by cases e)
theorem OP (h:Inv C S ρ σ own hv w0 σ0 A a w)(hC:CtxOK C σ0)(bh:dg C)(hΦ:dh C Φ){f:Nat}{args:Array Operand}{ts:Array TypeId}{r:St×Ty×List PI}{o:Oper}(ht:∀d,o.dst=some d→¬A d∧d<a.tmps.size)
 (hr:ml C S f args.toList []=some r) (ho:o.op=.call {callee:=.value (.func f),args:=args,argTypes:=ts}):bA C w0 σ0 Φ S ρ A a w o (lP S o.dst r):=by
 have hs:∃s,C.sig f=some s:=by
  simp only[ml,Option.bind_eq_some_iff] at hr;obtain⟨s,hs,_⟩:=hr;exact⟨s,hs⟩
 obtain⟨s,hs⟩:=hs;have hx:=LJ (a:=a) (w:=w) bh hs ho;have jm:args.map a.eval=(args.toList.map a.eval++[]).toArray:=by apply Array.ext';simp
 rw[jm] at hx;exact N9 ht hx fun ρ1 af=>OO h hC hΦ (vs:=[]) rfl (fun i j ver e=>by simp at e) (fun i j ver e=>by simp at e) hr af
def sL (S:St):List (Nat×Nat)→Bool
 |[]=>true
 |c::l=>Nat.beq c.2 (S.ver c.1)&&(match S.o c.1 with|.box ..=>true|_=>false)&&sL S l
theorem Of (h:Inv C S ρ σ own hv w0 σ0 A a w):∀{l:List (Nat×Nat)},sL S l=true→∀(i j ver:Nat),l[i]?=some (j,ver)→ver=S.ver j∧∃k,hv j=.pointer (some ⟨k,0,none⟩)
 |[],_,i,j,ver,e=>by simp at e
 |c::l,hl,i,j,ver,e=>by
  simp only[sL,Bool.and_eq_true] at hl;cases i with
  |zero=>
   simp at e;subst e;refine⟨Nat.eq_of_beq_eq_true hl.1.1,?_⟩;have h1:=hl.1.2;have h2:=h.objs j;split at h1
   ·rename_i ag shs eo;simp only at eo;rw[eo] at h2;obtain⟨k,cs,T,ds,g1,_⟩:=h2;exact⟨k,g1⟩
   ·cases h1
  |succ i=>simp at e;exact Of h hl.2 i j ver e
def sT (C:Ctx)(S:St)(t:Nat)(args:List Operand):Option (St×Ty×List PI):=
 match iI S [] t with
 |.fclo f caps=>bif sL S caps then ml C S f args caps else none
 |_=>none
theorem ON (h:Inv C S ρ σ own hv w0 σ0 A a w)(hC:CtxOK C σ0)(bh:dg C)(hΦ:dh C Φ){t:Nat}{args:Array Operand}{ts:Array TypeId}{r:St×Ty×List PI}{o:Oper}(ht:∀d,o.dst=some d→¬A d∧d<a.tmps.size)
 (hr:sT C S t args.toList=some r) (ho:o.op=.call {callee:=.value (.tmp t),args:=args,argTypes:=ts}):bA C w0 σ0 Φ S ρ A a w o (lP S o.dst r):=by
 unfold sT at hr;split at hr
 case h_2=>cases hr
 rename_i f caps ia;cases hb:sL S caps<;>simp only[hb,cond_true,cond_false] at hr
 ·cases hr
 have gk:=(kU (gs:=[]) h rfl t).1;rw[ia] at gk;obtain⟨vs,h1,h2,h3⟩:=gk;have hs:∃s,C.sig f=some s:=by
  simp only[ml,Option.bind_eq_some_iff] at hr;obtain⟨s,hs,_⟩:=hr;exact⟨s,hs⟩
 obtain⟨s,hs⟩:=hs;have hx:=VS (a:=a) (w:=w) (vs:=vs) (x:=.tmp t) bh hs (by simpa [Act.eval] using h1) ho;have jm:args.map a.eval++vs.toArray=(args.toList.map a.eval++vs).toArray:=by apply Array.ext';simp
 rw[jm] at hx;exact N9 ht hx fun ρ1 af=>OO h hC hΦ h2 h3 (fun i j ver e _=>(Of h hb i j ver e).2) hr af
def vy (S:St):List Operand→Option (List (Nat×Nat))
 |[]=>some []
 |x::xs=>
  match x with
  |.tmp t=>
   match iI S [] t with
   |.ptr j ver off=>bif Nat.beq ver (S.ver j)&&Nat.beq off 0 then(vy S xs).map fun r=>(j,ver)::r else none
   |_=>none
  |_=>none
def wU (C:Ctx)(S:St)(dst:Nat)(fn:Fn)(first caps:Array Operand):Option (St×List PI):=
 match fn,first.toList with
 |.func f,[]=>
  match C.sig f with
  |some s=>bif mK s.mode then(vy S caps.toList).map fun c=>(S.setR dst (.fclo f c),[.setR dst (.con .none)]) else none
  |none=>none
 |_,_=>none
theorem Og (h:Inv C S ρ σ own hv w0 σ0 A a w):∀{l:List Operand} {c:List (Nat×Nat)},vy S l=some c→c.length=l.length∧∀(i j ver:Nat),c[i]?=some (j,ver)→ver≤S.ver j∧(ver=S.ver j→(l.map a.eval).getD i undef=hv j)
 |[],c,e=>by simp only[vy,Option.some.injEq] at e;subst e;exact⟨rfl,fun i j ver e=>by simp at e⟩
 |x::xs,c,e=>by
  simp only[vy] at e;split at e
  case h_2=>cases e
  rename_i t;split at e
  case h_2=>cases e
  rename_i j ver off ia;cases hb:(Nat.beq ver (S.ver j)&&Nat.beq off 0)<;>simp only[hb,cond_true,cond_false] at e
  ·cases e
  simp only[Bool.and_eq_true] at hb;simp only[Option.map_eq_some_iff] at e;obtain⟨r,hr,rfl⟩:=e;obtain⟨g1,g2⟩:=Og h hr;have gk:=(kU (gs:=[]) h rfl t).1;rw[ia] at gk;refine⟨by simp[g1],fun i j' kZ e=>?_⟩;cases i with
  |zero=>
   simp at e;obtain⟨rfl,rfl⟩:=e;refine⟨gk.1,fun e=>?_⟩;obtain⟨k,k1,k2⟩:=gk.2 e;have e0:off=0:=Nat.eq_of_beq_eq_true hb.2;subst e0;rw[k1,←k2];simp[Act.eval]
  |succ i=>simp at e;simpa using g2 i j' kZ e
theorem abU (h:Inv C S ρ σ own hv w0 σ0 A a w)(ht:¬A dst)(ae:dst<a.tmps.size){fn:Fn}{first caps:Array Operand}{r:St×List PI}{o:Oper}(hr:wU C S dst fn first caps=some r)(hd:o.dst=some dst)(ho:o.op=.makeFunc fn first caps):bA C w0 σ0 Φ S ρ A a w o r:=by
 unfold wU at hr;split at hr
 case h_2=>cases hr
 rename_i f xK;split at hr
 case h_2=>cases hr
 rename_i s hs;cases hb:mK s.mode<;>simp only[hb,cond_true,cond_false] at hr
 ·cases hr
 simp only[Option.map_eq_some_iff] at hr;obtain⟨c,hc,rfl⟩:=hr;obtain⟨g1,g2⟩:=Og h hc;have xH:first=#[]:=by rw[←Array.toList_inj];simpa using xK
 refine bA.value hd fun ρ' af=>⟨.func (.func f) #[] (caps.toList.map a.eval).toArray,w,?_,?_⟩
 ·subst xH;have e9:caps.map a.eval=(caps.toList.map a.eval).toArray:=by apply Array.ext';rw[Array.toList_map]
  simp[execOp,ho,Instr.makeFunc,e9]
 ·have hρ:ρ'=ρ.setR dst .none:=by simp[PI.runs,PI.run,PE.ev] at af;exact af.symm
  subst hρ;exact⟨_,_,_,h.setReg ht (s:=.fclo f c) ⟨_,rfl,by simp[g1],g2⟩ ae (fun _ _ e=>by cases e)⟩
end
end Cx
namespace Cx
open Go Go.RowKit
inductive Gh where
 |fz (j:Nat)|fbox (b:Nat)|rereg (t j:Nat)|recell (b i j:Nat)|home (b i j:Nat) (T:TypeId)
def Gh.run (C:Ctx)(S:St):Gh→Option (St×List PI)
 |.fz j=>some (S.fz j,[])
 |.fbox b=>xl S b
 |.rereg t j=>sm S t j
 |.recell b i j=>zK S b i j
 |.home b i j T=>yd C S b i j T
def gd (C:Ctx):List Gh→St→Option (St×List PI)
 |[],S=>some (S,[])
 |g::gs,S=>(g.run C S).bind fun r=>(gd C gs r.1).map fun q=>(q.1,r.2++q.2)
theorem kT {Φ:aO}:∀{a b:List PI} {ρ:Env},PI.runs Φ (a++b) ρ=(PI.runs Φ a ρ).bind (PI.runs Φ b)
 |[],b,ρ=>by simp[PI.runs]
 |x::a,b,ρ=>by
  simp only[List.cons_append,PI.runs];cases x.run Φ ρ with
  |none=>rfl
  |some ρ1=>simp[kT (a:=a) (b:=b)]
def lx (S:St)(ops:Array Oper)(o:Oper):Option (List (Nat×Bool)):=
 match o.guard with
 |none=>some []
 |some (j,want)=>
  match(ops[j]?).bind (·.dst) with
  |some t=>
   match S.r t with
   |.dat .bool=>some [(t,want)]
   |.opt gs (.dat .bool)=>some ((t,want)::gs)
   |_=>none
  |none=>none
def pM (S:St)(gs:List (Nat×Bool)):Op→List Nat
 |.build _ ps=>bE S gs (ps.toList.map (·.2))
 |.buildSlice _ _ ps=>bE S gs (ps.toList.map (·.2))
 |.box _ x=>bE S gs [x]
 |.pick _ x y=>bE S gs [x,y]
 |.slice _ x _ _ _=>bE S gs [x]
 |.mapUpdate _ _ k v=>bE S gs [k,v]
 |.insert _ _ k v=>bE S gs [k,v]
 |.store _ x v=>match eK S gs x with|.eptr ..=>bE S gs [v]|_=>[]
 |_=>[]
def vz:List Sh→List Nat
 |[]=>[]
 |.obj j _::r=>j::vz r
 |_::r=>vz r
def Ar (S:St)(gs:List (Nat×Bool)):List Operand→List Nat
 |[]=>[]
 |x::xs=>
  match eK S gs x with
  |.ptr j ver off=>bif Nat.beq ver (S.ver j)&&(match S.o j with|.box ..=>true|_=>false) then j::Ar S gs xs else Ar S gs xs
  |_=>Ar S gs xs
def Tu (C:Ctx):Fn→Bool
 |.func f=>(match C.sig f with|some s=>mK s.mode|none=>false)
 |_=>false
def pre (C:Ctx)(S:St)(gs:List (Nat×Bool))(op:Op):List Gh:=
 match op with
 |.makeFunc fn _ caps=>
  bif Tu C fn then[] else(Ar S gs caps.toList).flatMap fun b=>(match S.o b with|.box _ shs=>(vz shs).map .fz|_=>[])++[.fbox b]
 |.load T x=>
  match eK S gs x,lK C.P T,C.P.info? T with
  |.ptr j _ off,some true,some inf=>(match S.o j with|.box _ shs=>(vz ((shs.drop off).take inf.size)).map .fz|_=>[])
  |_,_,_=>[]
 |op=>(pM S gs op).map .fz
def lS (C:Ctx)(S:St)(gs:List (Nat×Bool))(o:Oper):List Gh:=
 match o.op,o.dst with
 |.assign x,some t=>bif C.fr.any (Nat.beq t) then(bE S gs [x]).map .fz else[]
 |_,_=>[]
def GB (P:Program):Nat→TypeId→List (Option TypeId)
 |0,_=>[]
 |n+1,t=>
  match P.underlying t with
  |some (.struct fs)=>fs.toList.flatMap fun f=>GB P n f.type
  |some (.array len e)=>(List.replicate len (GB P n e)).flatten
  |some (.slice e)=>[some e]
  |_=>[none]
def homes (P:Program)(b off:Nat)(T:TypeId):List Gh:=
 ((GB P 12 T).zipIdx).filterMap fun x=>x.1.map fun e=>.home b (off+x.2) (Qu b (off+x.2)) e
def Cz (nh:List Nat)(l:List Gh):List Gh:=l.filter fun g=>match g with|.home _ _ j _=> !(nh.any (Nat.beq j))|_=>true
def VG (b off n:Nat):List Gh:=(List.range n).map fun i=>.recell b (off+i) (Qu b (off+i))
def post (C:Ctx)(S:St)(o:Oper):List Gh:=
 match o.op,o.dst with
 |.assign _,some t=>[.rereg t t]
 |.alloc T,some t=>Cz C.nh (homes C.P t 0 T)
 |.store T x _,_=>
  match eK S [] x with
  |.ptr j _ off=>Cz C.nh (homes C.P j off T)++VG j off (match C.P.info? T with|some i=>i.size|none=>0)
  |_=>[]
 |_,_=>[]
def mN:Sh→Bool
 |.opt ..=>false
 |_=>true
def oK (C:Ctx)(S:St)(dst:Nat)(T:TypeId)(x:Operand):iZ:=
 match x with
 |.const v=>(kY C.P T).bind fun t=>(la t).bind fun z=>bif fY t v then some (S.setR dst (.dat z.1),[.setR dst (.con z.2)]) else none
 |_=>none
def core (C:Ctx)(S:St)(gs:List (Nat×Bool))(o:Oper):Option (St×List PI):=
 match o.dst with
 |some dst=>
  match kG C S gs dst o.op with
  |some r=>bif mN r.1 then some (S.setR dst (fG gs r.1),r.2) else none
  |none=>
   match o.op,gs with
   |.assign x,[]=>
    bif C.fr.any (Nat.beq dst) then
          match lQ C S [] dst x with
          |some r=>some (S.setR dst r.1,r.2)
          |none=>oK C S dst o.type x
    else
    match wV C S dst o.type x with
    |some r=>some r
    |none=>
     match lQ C S [] dst x with
     |some r=>some (S.setR dst r.1,r.2)
     |none=>oK C S dst o.type x
   |.alloc T,[]=>wN C S dst T
   |.box T x,[]=>wP C S dst T x
   |.buildSlice T n ps,gs=>
    match gs with
    |[]=>qJ C S [] dst T n ps.toList
    |_=>sU C S gs dst T n ps.toList
   |.makeSlice T l c,[]=>wT C S dst T l c
   |.makeMap T r,[]=>wS C S dst T r
   |.range T x,[]=>wW C S dst T x
   |.convert T U x,[]=>wQ C S dst T U x
   |.call c,gs=>
    match c.callee,gs with
    |.builtin .append,[]=>
     match c.args.toList,c.argTypes.toList with
     |[s,x],[T,T']=>bif Nat.beq T T' then wO C S dst T s x else none
     |_,_=>none
    |.value (.func f),gs=>
     match ll C S gs dst f c.args.toList with
     |some r=>some (r.1.setR dst (fG gs r.2.1),r.2.2)
     |none=>
      match gs with
      |[]=>
       match wR C S dst f c.args.toList with
       |some r=>some r
       |none=>(ml C S f c.args.toList []).map (lP S (some dst))
      |_=>none
    |.value x,gs=>
     match ki C S gs dst x c.args.toList with
     |some r=>some (r.1.setR dst (fG gs r.2.1),r.2.2)
     |none=>
      match x,gs with
      |.tmp t,[]=>(sT C S t c.args.toList).map (lP S (some dst))
      |_,_=>none
    |_,_=>none
   |.makeFunc fn first caps,[]=>wU C S dst fn first caps
   |_,_=>none
 |none=>
  match o.op,gs with
  |.store T x v,[]=>oJ C S T x v
  |.mapUpdate T m k v,[]=>np C S T m k v
  |.insert T m k v,[]=>np C S T m k v
  |.panic _,[]=>some (S,[.chk (.nt (.con (.bool true)))])
  |.call c,[]=>
   match c.callee with
   |.value (.func f)=>(ml C S f c.args.toList []).map (lP S none)
   |.value (.tmp t)=>(sT C S t c.args.toList).map (lP S none)
   |_=>none
  |_,_=>none
def Ur (dst:Nat)(l:List PI):Bool:=l.all fun p=>p.modR.all (Nat.beq dst)&&p.modO.isEmpty
def fH (gs:List (Nat×Bool))(dst:Option Nat)(l:List PI):Bool:=
 match gs,dst with
 |[],_=>true
 |_,some d=>Ur d l
 |_,none=>false
def wJ (C:Ctx)(S:St)(ops:Array Oper)(o:Oper):Option (St×List PI):=
 (lx S ops o).bind fun gs=>
 (gd C (pre C S gs o.op++lS C S gs o) S).bind fun r1=>
 (core C r1.1 gs o).bind fun r2=>
 (gd C (post C r2.1 o) r2.1).bind fun r3=>
 bif fH gs o.dst r2.2 then some (r3.1,r1.2++r2.2++r3.2) else none
def zW:PI:=.chk (.con (.v (.bool false)))
def sQ (C:Ctx)(S:St)(ops:Array Oper)(o:Oper):Option (St×List PI):=
 match wJ C S ops o with
 |some r=>some r
 |none=>some (match o.dst with|some d=>S.setR d .none|none=>S,[zW])
section
variable {C:Ctx} {S:St} {ρ:Env} {σ:Im} {own:Nat→Option Nat} {hv:Nat→Value} {w0:World} {σ0:Base} {A:Nat→Prop} {a:Act} {w:World} {gs:List (Nat×Bool)} {Φ:aO} {dst:Nat}
theorem Gh.sound {g:Gh}{r:St×List PI}(h:Good C w0 σ0 S ρ A a w)(hr:g.run C S=some r):vb C w0 σ0 Φ S ρ A a w r:=by
 obtain⟨σ,own,hv,h⟩:=h;cases g with
 |fz j=>
  simp only[Gh.run,Option.some.injEq] at hr;subst hr;intro ρ' af;rw[j8 af];obtain⟨σ',own',_,h'⟩:=h.fz j;exact⟨σ',own',hv,h'⟩
 |fbox b=>exact aez h hr
 |rereg t j=>exact amy h hr
 |recell b i j=>exact amx h hr
 |home b i j T=>exact agG h hr
theorem He:∀(l:List Gh) {S:St} {ρ ρ':Env} {r:St×List PI},Good C w0 σ0 S ρ A a w→gd C l S=some r→PI.runs Φ r.2 ρ=some ρ'→Good C w0 σ0 r.1 ρ' A a w
 |[],S,ρ,ρ',r,h,hr,af=>by
  simp only[gd,Option.some.injEq] at hr;subst hr;rw[j8 af];exact h
 |g::l,S,ρ,ρ',r,h,hr,af=>by
  simp only[gd,Option.bind_eq_some_iff,Option.map_eq_some_iff] at hr;obtain⟨q,hq,q2,fN,rfl⟩:=hr;simp only[kT,Option.bind_eq_some_iff] at af;obtain⟨ρ1,h1,h2⟩:=af;exact He (r:=q2) l (Gh.sound (Φ:=Φ) h hq ρ1 h1) fN h2
theorem Ps (h:Good C w0 σ0 S ρ A a w){ops:Array Oper}{o:Oper}(hg:lx S ops o=some gs):Region.wanted o (yielded ops a.tmps)=holds gs ρ:=by
 obtain⟨σ,own,hv,h⟩:=h;unfold lx at hg;unfold Region.wanted;split at hg
 ·rename_i e;cases hg;simp[e,holds]
 ·rename_i j want e;simp only[e];split at hg
  case h_2=>cases hg
  rename_i t ht;have gk:=h.regs t;have hy:∀v,a.tmps.getD t undef=v→(∀b,v=.bool b→yielded ops a.tmps j=some b)∧(v=undef→yielded ops a.tmps j=none):=by
   intro v hv';unfold yielded;rw[ht];simp only[Option.bind_some];rw[Array.getD_eq_getD_getElem?] at hv';cases oU:a.tmps[t]? with
   |none=>rw[oU] at hv';simp at hv';subst hv';exact⟨fun b e=>absurd e (by simp[undef]),fun _=>rfl⟩
   |some u=>rw[oU] at hv';simp at hv';subst hv';exact⟨fun b e=>by subst e;rfl,fun e=>by subst e;rfl⟩
  split at hg
  ·rename_i es;cases hg;rw[es] at gk;obtain⟨b,gy,dq⟩:=Rep.bool_inv gk;rw[(hy _ gy).1 b rfl];simp[holds,dq,D.b_bool]
  ·rename_i bn es;cases hg;rw[es] at gk;simp only[holds,List.all_cons];cases hh:holds bn ρ with
   |true=>
    obtain⟨b,gy,dq⟩:=Rep.bool_inv (gk.1 hh);rw[(hy _ gy).1 b rfl];unfold holds at hh;rw[hh,dq];simp[D.b_bool]
   |false=>
    rw[(hy _ (gk.2 hh)).2 rfl];unfold holds at hh;rw[hh];simp
  ·cases hg
theorem Pr (h:Good C w0 σ0 S ρ A a w){ops:Array Oper}{o:Oper}(hg:lx S ops o=some gs)(hj:∀j want t,o.guard=some (j,want)→(ops[j]?).bind (·.dst)=some t→A t):∀g,g∈gs→A g.1:=by
 obtain⟨σ,own,hv,h⟩:=h;unfold lx at hg;split at hg
 ·cases hg;simp
 ·rename_i j want e;split at hg
  case h_2=>cases hg
  rename_i t ht;have hA:=hj j want t e ht;split at hg
  ·cases hg;intro g hm;simp at hm;subst hm;exact hA
  ·rename_i bn es;cases hg;intro g hm;rcases List.mem_cons.1 hm with e'|dE
   ·subst e';exact hA
   ·exact(h.opts t bn _ es).1 g dE
  ·cases hg
theorem ak3 (h:Inv C S ρ σ own hv w0 σ0 A a w)(hC:CtxOK C σ0)(hg:holds gs ρ=true){o:Oper}{r:Sh×List PI}(hr:kG C S gs dst o.op=some r):di C S ρ σ hv Φ dst a w o r:=by
 unfold kG at hr;split at hr
 ·rename_i x e;exact Uv h hC hg hr (.inl e)
 ·rename_i c x y e;exact ak2 h hC hg hr e
 ·rename_i op T x y T' e;exact akD h hC hg hr e
 ·rename_i op T x e;exact ak7 h hC hg hr e
 ·rename_i s d x e;exact akH h hC hg hr e
 ·rename_i T x e;exact C1 h hC hg hr e
 ·rename_i T x i e;exact akL h hC hg hr e
 ·rename_i T x i e;exact akN h hC hg hr e
 ·rename_i T x i e;exact akQ h hC hg hr e
 ·rename_i T x i e;exact akS h hC hg hr e
 ·rename_i x i e;exact akJ h hC hg hr e
 ·rename_i T m k ok e;exact akY h hC hg hr e
 ·rename_i T x lo hi mx e;exact ak5 h hC hg hr e
 ·rename_i f a b e;exact akO h hC hg hr e
 ·rename_i T ps e;exact akF h hC hg hr e
 ·rename_i x e;exact ak0 h hC hg hr e
 ·cases hr;intro ρ' af;have:=(LL hg af).1;cases this
 ·rename_i c e;split at hr
  ·rename_i x T hc ha ht;refine akU h hC hg hr ?_;rw[e];cases c with|mk callee args argTypes=>
   simp only at hc ha ht;have h1:args=#[x]:=by rw[←Array.toList_inj];exact ha
   have h2:argTypes=#[T]:=by rw[←Array.toList_inj];exact ht
   rw[hc,h1,h2]
  ·rename_i x y hc ha;refine Ut (ts:=c.argTypes) h hC hg hr ?_;rw[e];cases c with|mk callee args argTypes=>
   simp only at hc ha;have h1:args=#[x,y]:=by rw[←Array.toList_inj];exact ha
   rw[hc,h1];rfl
  ·rename_i x y hc ha;refine Ut (ts:=c.argTypes) h hC hg hr ?_;rw[e];cases c with|mk callee args argTypes=>
   simp only at hc ha;have h1:args=#[x,y]:=by rw[←Array.toList_inj];exact ha
   rw[hc,h1];rfl
  ·cases hr
 ·cases hr
theorem ab2 (h:Inv C S ρ σ own hv w0 σ0 A a w)(ht:¬A dst)(ae:dst<a.tmps.size){T:TypeId}{x:Operand}{r:St×List PI}(hr:oK C S dst T x=some r){o:Oper}(hd:o.dst=some dst)(ho:o.op=.assign x):bA C w0 σ0 Φ S ρ A a w o r:=by
 unfold oK at hr;split at hr
 case h_2=>cases hr
 rename_i v;simp only[Option.bind_eq_some_iff] at hr;obtain⟨t,_,z,hz,hr⟩:=hr;cases hc:fY t v<;>simp only[hc,cond_true,cond_false] at hr
 ·cases hr
 cases hr;have bt:=(sD (cap:=C.cap) (σ:=σ) hz hc).1;refine bA.value hd fun ρ' af=>⟨v,w,by simp[execOp,ho,Act.eval],?_⟩
 have hρ:ρ'=ρ.setR dst z.2:=by simp[PI.runs,PI.run,PE.ev] at af;exact af.symm
 subst hρ;exact⟨_,_,_,h.setReg ht (s:=.dat z.1) bt ae (fun _ _ e=>by cases e)⟩
theorem abn (h:Inv C S ρ σ own hv w0 σ0 A a w)(hC:CtxOK C σ0)(bh:dg C)(hΦ:dh C Φ){o:Oper}(ht:∀d,o.dst=some d→¬A d∧d<a.tmps.size)(cT:∀g,g∈gs→A g.1)(hg:holds gs ρ=true){r:St×List PI}
 (hr:core C S gs o=some r):bA C w0 σ0 Φ S ρ A a w o r:=by
 unfold core at hr;split at hr
 ·rename_i dst hd;obtain⟨eQ,eR⟩:=ht dst hd;split at hr
  ·rename_i q hq;cases eG:mN q.1<;>simp only[eG,cond_true,cond_false] at hr
   ·cases hr
   cases hr;have Qz:=ak3 (Φ:=Φ) h hC hg hq;cases gs with
   |nil=>exact Qz.eff h eQ eR hd
   |cons g bn=>exact Qz.effG h eQ eR cT hg hd
  ·rename_i HZ;clear HZ;split at hr
   ·rename_i x e
    have mv:∀r,(match lQ C S [] dst x with|some r=>some (S.setR dst r.1,r.2)|none=>oK C S dst o.type x)=some r→bA C w0 σ0 Φ S ρ A a w o r:=by
     intro r hr;split at hr
     ·rename_i q hq;cases hr;exact(Uv (Φ:=Φ) h hC hg hq (.inr e)).eff h eQ eR hd
     ·exact ab2 h eQ eR hr hd e
    cases cC:C.fr.any (Nat.beq dst)<;>simp only[cC,cond_true,cond_false] at hr
    ·split at hr
     ·rename_i q hq;cases hr;exact abW h hC eQ eR hq hd e
     ·exact mv r hr
    ·exact mv r hr
   ·rename_i T e;exact abw h eQ eR hr hd e
   ·rename_i T x e;exact abA h hC eQ eR hr hd e
   ·rename_i T n ps e;split at hr
    ·exact abC h hC eQ eR hr hd e
    ·exact abO h hC eQ eR cT hg hr hd e
   ·rename_i T l c e;exact abS h hC eQ eR hr hd e
   ·rename_i T m e;exact abQ h eQ eR hr hd e
   ·rename_i T x e;exact abY h eQ eR hr hd e
   ·rename_i T U x e;exact abE h hC eQ eR hr hd e
   ·rename_i c e;cases c with|mk callee args argTypes=>
    split at hr
    ·rename_i hc;simp only at hc;split at hr
     ·rename_i s x T T' ha Iz;simp only at ha Iz;cases hT:Nat.beq T T'<;>simp only[hT,cond_true,cond_false] at hr
      ·cases hr
      have tg:=Nat.eq_of_beq_eq_true hT;subst tg;refine aby h hC eQ eR hr hd ?_;have h1:args=#[s,x]:=by rw[←Array.toList_inj];exact ha
      have h2:argTypes=#[T,T]:=by rw[←Array.toList_inj];exact Iz
      rw[e,hc,h1,h2]
     ·cases hr
    ·rename_i f hc;simp only at hc;split at hr
     ·rename_i q hq;cases hr;exact abM h hC bh hΦ eQ eR cT hg hq hd (by rw[e,hc])
     ·split at hr
      ·split at hr
       ·rename_i q hq;cases hr;exact abJ h hC bh hΦ eQ eR hq hd (by rw[e,hc])
       ·simp only[Option.map_eq_some_iff] at hr;obtain⟨q,hq,rfl⟩:=hr;rw[←hd];exact OP h hC bh hΦ ht hq (by rw[e,hc])
      ·cases hr
    ·rename_i x HX hc;simp only at hc;split at hr
     ·rename_i q hq;cases hr;exact abH h hC bh hΦ eQ eR cT hg hq hd (by rw[e,hc])
     ·split at hr
      ·simp only[Option.map_eq_some_iff] at hr;obtain⟨q,hq,rfl⟩:=hr;rw[←hd];exact ON h hC bh hΦ ht hq (by rw[e,hc])
      ·cases hr
    ·cases hr
   ·rename_i fn first caps e;exact abU h eQ eR hr hd e
   ·cases hr
 ·rename_i hd;split at hr
  ·rename_i T x v e;exact ab0 h hC hr hd e
  ·rename_i T m k v e;exact OR h hC hr hd (.inl e)
  ·rename_i T m k v e;exact OR h hC hr hd (.inr e)
  ·cases hr;intro ρ' af;simp[PI.runs,PI.run,PE.ev,D.bool,D.b] at af
  ·rename_i c e;cases c with|mk callee args argTypes=>
   split at hr
   ·rename_i f hc;simp only at hc;simp only[Option.map_eq_some_iff] at hr;obtain⟨q,hq,rfl⟩:=hr;rw[←hd];exact OP h hC bh hΦ ht hq (by rw[e,hc])
   ·rename_i t hc;simp only at hc;simp only[Option.map_eq_some_iff] at hr;obtain⟨q,hq,rfl⟩:=hr;rw[←hd];exact ON h hC bh hΦ ht hq (by rw[e,hc])
   ·cases hr
  ·cases hr
theorem abl {g:Nat×Bool}{bn:List (Nat×Bool)}{o:Oper}{r:St×List PI}(hr:core C S (g::bn) o=some r):
 ∃dst S2 s,o.dst=some dst∧r.1=S2.setR dst (.opt (g::bn) s)∧((∃js,S2=S.fzs js)∨∃j,S2=S.newO j .dead)∧(∀gs s',s≠.opt gs s')∧(∀x,o.op≠.assign x)∧(∀T,o.op≠.alloc T)∧∀T x v,o.op≠.store T x v:=by
 unfold core at hr;split at hr
 ·rename_i dst hd;split at hr
  ·rename_i q hq;cases eG:mN q.1<;>simp only[eG,cond_true,cond_false] at hr
   ·cases hr
   cases hr;refine⟨dst,S,q.1,hd,rfl,.inl ⟨[],rfl⟩,(fun gs s' e=>by rw[e] at eG;cases eG),fun x e=>?_,fun T e=>?_,fun T x v e=>?_⟩<;>(rw[e] at hq;simp[kG] at hq)
  ·rename_i HZ;clear HZ;split at hr
   case h_4=>
        rename_i T n ps e;split at hr
        ·rename_i hx;cases hx
        ·unfold sU at hr;split at hr
         case h_2=>cases hr
         simp only[Option.bind_eq_some_iff] at hr;obtain⟨e0,he0,hr⟩:=hr;split at hr
         ·cases hr;exact⟨dst,_,.dat (.slice e0.rol),hd,rfl,.inr ⟨dst,rfl⟩,(fun _ _ e=>by cases e),(fun x e'=>by rw[e] at e';cases e'),(fun x e'=>by rw[e] at e';cases e'),(fun _ _ _ e'=>by rw[e] at e';cases e')⟩
         ·cases hr
   case h_9=>
        rename_i c e;split at hr
        ·rename_i hx;cases hx
        ·rename_i f hc;split at hr
         ·rename_i q hq;cases hr;simp only[ll,Option.bind_eq_some_iff] at hq;obtain⟨s,hs,hq⟩:=hq;split at hq
          case h_2=>cases hq
          simp only[Option.bind_eq_some_iff] at hq;obtain⟨u,hu,hq⟩:=hq;cases bQ:Ty.subs u.1 s.args<;>simp only[bQ,cond_true,cond_false] at hq
          ·cases hq
          cases hq;refine⟨dst,_,.dat s.res,hd,rfl,?_,(fun _ _ e=>by cases e),(fun x e'=>by rw[e] at e';cases e'),(fun x e'=>by rw[e] at e';cases e'),(fun _ _ _ e'=>by rw[e] at e';cases e')⟩;left;cases s.res.pure
          ·exact⟨_,rfl⟩
          ·exact⟨[],rfl⟩
         ·cases hr
        ·rename_i x HX hc;have hr:∃q,ki C S (g::bn) dst x c.args.toList=some q∧(q.1.setR dst (fG (g::bn) q.2.1),q.2.2)=r:=by
          split at hr
          ·rename_i q hq;cases hr;exact⟨q,hq,rfl⟩
          ·split at hr
           all_goals (first|(cases hr;done)|(rename_i hx;cases hx;done)|(rename_i hx _;cases hx;done)|(rename_i hx _ _;cases hx;done)|(rename_i hx;exact absurd hx (by simp)))
         obtain⟨q,hq,rfl⟩:=hr;unfold ki at hq;split at hq
         case h_2=>cases hq
         rename_i as r0 ee IA;split at hq
         case h_1=>cases hq
         simp only[Option.bind_eq_some_iff] at hq;obtain⟨u,hu,hq⟩:=hq;cases bQ:Ty.subs u.1 as<;>simp only[bQ,cond_true,cond_false] at hq
         ·cases hq
         cases hq;refine⟨dst,_,.dat r0,hd,rfl,?_,(fun _ _ e=>by cases e),(fun x e'=>by rw[e] at e';cases e'),(fun x e'=>by rw[e] at e';cases e'),(fun _ _ _ e'=>by rw[e] at e';cases e')⟩;left;cases r0.pure
         ·exact⟨_,rfl⟩
         ·exact⟨[],rfl⟩
        ·cases hr
   all_goals (first|(cases hr;done)|(rename_i hx;cases hx;done)|(rename_i hx _;cases hx;done))
 ·split at hr
  all_goals (first|(cases hr;done)|(rename_i hx;cases hx;done)|(rename_i hx _;cases hx;done))
theorem Qt {ρ ρ1:Env}:∀{l:List (Nat×Bool)},(∀g,g∈l→ρ1.r g.1=ρ.r g.1)→holds l ρ1=holds l ρ
 |[],_=>rfl
 |x::l,h=>by
  have ih:=Qt (l:=l) fun y hy=>h y (List.mem_cons_of_mem _ hy);unfold holds at ih ⊢;simp only[List.all_cons];rw[ih,h x (List.mem_cons_self ..)]
theorem Po:∀(l:List Gh) {S:St} {r:St×List PI},gd C l S=some r→∀t,t∉r.2.flatMap PI.modR
 |[],S,r,hr=>by simp only[gd,Option.some.injEq] at hr;subst hr;simp
 |g::l,S,r,hr=>by
  simp only[gd,Option.bind_eq_some_iff,Option.map_eq_some_iff] at hr;obtain⟨q,hq,q2,fN,rfl⟩:=hr;have ih:=Po l fN;have hg:∀t,t∉q.2.flatMap PI.modR:=by
   cases g with
   |fz j=>simp only[Gh.run,Option.some.injEq] at hq;subst hq;simp
   |fbox b=>
    simp only[Gh.run,xl] at hq;split at hq
    case h_2=>cases hq
    simp only[Option.bind_eq_some_iff] at hq;obtain⟨x,hx,hq⟩:=hq;rename_i ag shs eo;cases ag<;>simp only[cond_true,cond_false] at hq
    ·split at hq
     ·cases hq;simp[PI.modR]
     ·cases hq
    ·cases hq;simp[PI.modR]
   |rereg t j=>
    simp only[Gh.run,sm] at hq;split at hq
    ·rename_i j' ver es;cases hb:(Nat.beq ver (S.ver j')&&j0 (S.o j')&& !Nat.beq j' j)<;>simp only[hb,cond_true,cond_false] at hq<;>cases hq<;>simp[PI.modR]
    ·cases hq;simp
   |recell b i j=>
    simp only[Gh.run,zK] at hq;split at hq
    ·split at hq
     ·rename_i ag shs eo j' ver es;cases hb:(Nat.beq ver (S.ver j')&&j0 (S.o j')&& !Nat.beq j' j&& !Nat.beq b j&& !Nat.beq b j')<;>simp only[hb,cond_true,cond_false] at hq<;>cases hq<;>simp[PI.modR]
     ·cases hq;simp
    ·cases hq;simp
   |home b i j T=>
    simp only[Gh.run,yd] at hq;split at hq
    ·split at hq
     ·cases hb:(!Nat.beq b j)<;>simp only[hb,cond_true,cond_false] at hq<;>cases hq<;>simp[PI.modR]
     ·cases hq;simp
    ·cases hq;simp
  intro t hm;rw[List.flatMap_append,List.mem_append] at hm;exact hm.elim (hg t) (ih t)
theorem abe (h:Good C w0 σ0 S ρ A a w)(hC:CtxOK C σ0)(bh:dg C)(hΦ:dh C Φ){ops:Array Oper}{o:Oper}(ht:∀d,o.dst=some d→¬A d∧d<a.tmps.size)
 (hj:∀j want t,o.guard=some (j,want)→(ops[j]?).bind (·.dst)=some t→A t) {r:St×List PI} (hr:wJ C S ops o=some r) {ρ':Env} (af:PI.runs Φ r.2 ρ=some ρ')
 {K:Act→World→Prop} {Q:Exit→Act→World→Prop} (hK:∀a' w',Good C w0 σ0 r.1 ρ' (fun u=>A u∨o.dst=some u) a' w'→a'.tmps.size=a.tmps.size→K a' w'):
 if Region.wanted o (yielded ops a.tmps) then o.wp C.P a w K Q else K (a.put o.dst undef) w:=by
 simp only[wJ,Option.bind_eq_some_iff] at hr;obtain⟨gs,cT,r1,fq,r2,mF,r3,rj,hr⟩:=hr;have tw:=Pr h cT hj;rw[Ps h cT];cases hc:fH gs o.dst r2.2<;>simp only[hc,cond_true,cond_false] at hr
 ·cases hr
 cases hr;simp only[kT,Option.bind_eq_some_iff] at af;obtain⟨ρ2,⟨ρ1,hρ1,hρ2⟩,hρ3⟩:=af;have h1:=He _ h fq hρ1;have cE:=h1;obtain⟨σ1,cQ,aK,i1⟩:=cE;have B2:holds gs ρ1=holds gs ρ:=by
  cases gs with
  |nil=>rfl
  |cons g bn=>
   have hb:=(PI.runs_but hρ1).r
   have:∀x,x∈(g::bn)→ρ1.r x.1=ρ.r x.1:=fun x hm=>hb x.1 (by
        intro cA;exact Po _ fq x.1 cA)
   exact Qt this
 cases hh:holds gs ρ with
 |true=>
  simp only[if_true];rw[hh] at B2;refine abn i1 hC bh hΦ ht tw B2 mF ρ2 hρ2 K Q (fun a' w' dR aD=>?_);exact hK a' w' (He (r:=r3) _ dR rj hρ3) aD
 |false=>
  simp only[Bool.false_eq_true,if_false];rw[hh] at B2;cases gs with
  |nil=>simp[holds] at hh
  |cons g bn=>
   obtain⟨dst,S2,s,hd,hS,td,hns,n1,n2,n3⟩:=abl mF;obtain⟨t1,t2⟩:=ht dst hd;have gB:post C r2.1 o=[]:=by
        unfold post;split
        ·rename_i x t e _;exact absurd e (n1 x)
        ·rename_i T t e _;exact absurd e (n2 T)
        ·rename_i T x v e;exact absurd e (n3 T x v)
        ·rfl
   rw[gB] at rj;simp only[gd,Option.some.injEq] at rj;subst rj;have:=j8 hρ3;subst this;obtain⟨σ2,fy,i2⟩:∃σ2 fy,Inv C S2 ρ1 σ2 fy aK w0 σ0 A a w:=by
        rcases td with⟨js,rfl⟩|⟨j,rfl⟩
        ·obtain⟨σ2,fy,_,i2⟩:=Inv.fzs js i1;exact⟨σ2,fy,i2⟩
        ·exact⟨σ1,cQ,i1.kill j⟩
   have yg:=i2.passed t1 t2 tw B2 (s:=s) hns (ρ'.r dst);have hρe:ρ1.setR dst (ρ'.r dst)=ρ':=by
        have hb:=PI.runs_but hρ2;simp only[fH,hd] at hc;unfold Ur at hc;rw[List.all_eq_true] at hc
        have e1:∀t,t≠dst→ρ'.r t=ρ1.r t:=fun t av=>hb.r t (fun hm=>by
         obtain⟨p,hp,pg⟩:=List.mem_flatMap.1 hm;have:=hc p hp;simp only[Bool.and_eq_true] at this;have:=List.all_eq_true.1 this.1 t pg;exact av (Nat.eq_of_beq_eq_true this).symm)
        have e2:∀t,ρ'.o t=ρ1.o t:=fun t=>hb.o t (fun hm=>by
         obtain⟨p,hp,pg⟩:=List.mem_flatMap.1 hm;have:=hc p hp;simp only[Bool.and_eq_true] at this;have h9:=List.isEmpty_iff.1 this.2;rw[h9] at pg;cases pg)
        have r1:bC ρ1.r dst (ρ'.r dst)=ρ'.r:=by
         funext t;rw[eC];split
         ·rename_i e;subst e;rfl
         ·rename_i av;exact(e1 t av).symm
        have r2:ρ1.o=ρ'.o:=funext fun t=>(e2 t).symm;cases ρ' with|mk a b=>simp only[Env.setR] at r1 r2 ⊢;rw[r1,r2]
   rw[hρe] at yg;have gg:(fun u=>A u∨o.dst=some u)=(fun u=>A u∨u=dst):=by funext u;rw[hd];simp[eq_comm]
   rw[gg] at hK;rw[hd];refine hK _ _ ?_ (size_put _ _ _);simp only;rw[hS];exact⟨_,_,_,yg⟩
theorem abg (h:Good C w0 σ0 S ρ A a w)(hC:CtxOK C σ0)(bh:dg C)(hΦ:dh C Φ){ops:Array Oper}{o:Oper}(ht:∀d,o.dst=some d→¬A d∧d<a.tmps.size)
 (hj:∀j want t,o.guard=some (j,want)→(ops[j]?).bind (·.dst)=some t→A t) {r:St×List PI} (hr:sQ C S ops o=some r) {ρ':Env} (af:PI.runs Φ r.2 ρ=some ρ')
 {K:Act→World→Prop} {Q:Exit→Act→World→Prop} (hK:∀a' w',Good C w0 σ0 r.1 ρ' (fun u=>A u∨o.dst=some u) a' w'→a'.tmps.size=a.tmps.size→K a' w'):
 if Region.wanted o (yielded ops a.tmps) then o.wp C.P a w K Q else K (a.put o.dst undef) w:=by
 unfold sQ at hr;split at hr
 ·rename_i q hq;cases hr;exact abe h hC bh hΦ ht hj hq af hK
 ·cases hr;simp[PI.runs,PI.run,zW,PE.ev,D.b_bool] at af
end
end Cx
