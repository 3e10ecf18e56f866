/-
  Shared texts of this claim.
-/
import Derived.Test.YtehiffddpebpkaaGreatDoorKAC
set_option linter.unusedSimpArgs false
set_option linter.unusedVariables false
namespace Cx
open Go Go.RowKit
open Classical in
noncomputable def Im.noM (σ:Im):Im:=⟨σ.c,fun k=>if σ.m k=some fi then none else σ.m k⟩
theorem Rep.noM {cap:Nat→Option CSig}{σ:Im}{t:Ty}{v:Value}{d:D}(h:Rep cap σ t v d):Rep cap σ.noM t v d:=by
 induction h with
 |int k n h1 h2=>exact .int k n h1 h2
 |bool b=>exact .bool b
 |str s h=>exact .str s h
 |agg ts vs ds h1 h2 _ ho ih=>exact .agg ts vs ds h1 h2 ih ho
 |tup ts vs ds h1 h2 _ ih=>exact .tup ts vs ds h1 h2 ih
 |nil e=>exact .nil e
 |emp e a=>exact .emp e a
 |nils e=>exact .nils e
 |nsl0 e=>exact .nsl0 e
 |nsl e k o n c xs _ hx ih=>exact .nsl e k o n c xs ih hx
 |slice e k o n c xs vs hn hc hm _ hv ih=>exact .slice e k o n c xs vs hn hc hm ih hv
 |mapnil kt et=>exact .mapnil kt et
 |map kt et r ves es hm hl hx hk _ ihk ihe=>
  refine .map kt et r ves es ?_ hl hx ihk ihe
  have hne:σ.m r≠some fi:=fun e=>by rw[hm] at e;cases e;exact GQ hl hk rfl
  simp only[Im.noM,if_neg hne,hm]
 |ref t k o v d _ hv ih=>exact .ref t k o v d ih hv
 |fn f cs vs ds hc h1 h2 _ ih=>exact .fn f cs vs ds hc h1 h2 ih
 |fnnil as r=>exact .fnnil as r
def Im.plus (σ τ:Im):Im:=⟨fun k o=>(σ.c k o).or (τ.c k o),fun k=>(σ.m k).or (τ.m k)⟩
theorem Im.plus_le1 (σ τ:Im):σ.le (σ.plus τ):=⟨fun k o v h=>by simp[Im.plus,h],fun k v h=>by simp[Im.plus,h]⟩
theorem isMp.det {w:World}{k:Nat}{x y:List (Value×Value)}(h:isMp w k x)(g:isMp w k y):x=y:=by
 rcases h with⟨_,a,c,h1,h2⟩|⟨h1,h2⟩<;>rcases g with⟨_,a',c',g1,g2⟩|⟨g1,g2⟩
 ·rw[h1] at g1;cases g1;rw[←h2,←g2]
 ·rw[h1] at g2;cases g2
 ·rw[h2] at g1;cases g1
 ·rw[h1,g1]
theorem Im.plus_le2 {σ τ:Im}{w:World}(h:σ.ok w)(g:τ.ok w):τ.le (σ.plus τ):=by
 refine⟨fun k o v e=>?_,fun k v e=>?_⟩
 ·show(σ.c k o).or (τ.c k o)=some v
  cases hc:σ.c k o with
  |none=>simpa using e
  |some u=>have:=(h.c k o u hc).symm.trans (g.c k o v e);simpa using this
 ·show(σ.m k).or (τ.m k)=some v
  cases hc:σ.m k with
  |none=>simpa using e
  |some u=>simpa using(h.m k u hc).det (g.m k v e)
theorem Im.plus_ok {σ τ:Im}{w:World}(h:σ.ok w)(g:τ.ok w):(σ.plus τ).ok w:=by
 refine⟨fun k o v e=>?_,fun k v e=>?_⟩
 ·change (σ.c k o).or (τ.c k o)=some v at e
  cases hc:σ.c k o with
  |none=>rw[hc] at e;exact g.c k o v (by simpa using e)
  |some u=>rw[hc] at e;simp at e;subst e;exact h.c k o u hc
 ·change (σ.m k).or (τ.m k)=some v at e
  cases hc:σ.m k with
  |none=>rw[hc] at e;exact g.m k v (by simpa using e)
  |some u=>rw[hc] at e;simp at e;subst e;exact h.m k u hc
theorem Im.plus_c {σ τ:Im}{k o:Nat}{v:Value}(h:(σ.plus τ).c k o=some v):σ.c k o=some v∨τ.c k o=some v:=by
 change (σ.c k o).or (τ.c k o)=some v at h
 cases hc:σ.c k o with
 |none=>rw[hc] at h;exact .inr (by simpa using h)
 |some u=>rw[hc] at h;exact .inl (by simpa using h)
theorem Im.plus_m {σ τ:Im}{k:Nat}{v:List (Value×Value)}(h:(σ.plus τ).m k=some v):σ.m k=some v∨τ.m k=some v:=by
 change (σ.m k).or (τ.m k)=some v at h
 cases hc:σ.m k with
 |none=>rw[hc] at h;exact .inr (by simpa using h)
 |some u=>rw[hc] at h;exact .inl (by simpa using h)
def Ty.pureT:Ty→Bool
 |.int _|.bool|.str|.nils _=>true
 |_=>false
def Ty.pure:Ty→Bool
 |.tup ts=>ts.all Ty.pureT
 |.agg ts=>ts.all Ty.pureT
 |t=>Ty.pureT t
theorem Rep.pureT {cap:Nat→Option CSig}{σ τ:Im}{t:Ty}{v:Value}{d:D}(h:Rep cap σ t v d)(hp:t.pureT=true):Rep cap τ t v d:=by
 cases h<;>simp[Ty.pureT] at hp<;>constructor<;>assumption
theorem Rep.pure {cap:Nat→Option CSig}{σ τ:Im}{t:Ty}{v:Value}{d:D}(h:Rep cap σ t v d)(hp:t.pure=true):Rep cap τ t v d:=by
 cases h with
 |agg ts vs ds h1 h2 h ho=>exact .agg ts vs ds h1 h2 (fun i t hi=>(h i t hi).pureT (List.all_eq_true.1 hp t (List.mem_of_getElem? hi))) ho
 |tup ts vs ds h1 h2 h=>exact .tup ts vs ds h1 h2 (fun i t hi=>(h i t hi).pureT (List.all_eq_true.1 hp t (List.mem_of_getElem? hi)))
 |int k n h1 h2=>exact .int k n h1 h2
 |bool b=>exact .bool b
 |str s h=>exact .str s h
 |nils e=>exact .nils e
 |_=>simp[Ty.pure,Ty.pureT] at hp
def Ce (C:Ctx)(s:Sig)(σ':Im)(w w':World)(v:Value)(d:D):Prop:=
 match s.mode with
 |.dat=>Rep C.cap σ' s.res v d
 |.it _=>True
 |.ob ..=>True
 |.row T e=>∃cells xs,d=.list xs∧w'.ownsRow w.heap.size T e.size v xs.length cells∧ElemsOK C.cap σ' e cells xs∧∀k,v.ownBlock=some k→(∀o,σ'.c k o=none)∧σ'.m k=none
def uK (C:Ctx)(σ:Im)(ts:List Ty)(args:List Value)(ds:List D):Prop:=
 args.length=ts.length∧ds.length=ts.length∧∀(i:Nat) (t:Ty),ts[i]?=some t→Rep C.cap σ t (args.getD i undef) (ds.getD i .none)
def FnOK (C:Ctx)(f:Nat)(s:Sig)(ds:List D)(d:D):Prop:=
 ∀(σ:Im) (w:World) (args:Array Value),σ.ok w→CtxOK C σ→uK C σ s.args args.toList ds→
  Calls C.P f args w fun e w'=>∃v σ',e=.returned v∧σ.le σ'∧σ'.ok w'∧Below w.heap.size w w'∧
   (∀k o x,σ'.c k o=some x→σ.c k o=some x∨w.heap.size≤k)∧(∀k x,σ'.m k=some x→σ.m k=some x∨w.heap.size≤k)∧Ce C s σ' w w' v d
def bz:List (Nat×Ob)→Nat→Ob
 |[],_=>.dead
 |x::l,j=>bif Nat.beq x.1 j then x.2 else bz l j
def nf:List (Nat×Ob)→List D→Nat→D
 |x::l,d::ds,j=>bif Nat.beq x.1 j then d else nf l ds j
 |_,_,_=>.none
def po (shs:List Sh)(obs:List (Nat×Ob)):St:=⟨fun t=>shs.getD t .none,fun j=>bz obs j,fun _=>0⟩
def tJ (obs:List (Nat×Ob))(ds os:List D):Env:=⟨fun t=>ds.getD t .none,fun j=>nf obs os j⟩
def ir:Sh→Bool
 |.dat _=>true
 |_=>false
def Rn:Mode→Bool
 |.ob ..=>true
 |_=>false
def qQ:Sh→Bool
 |.none|.dat _|.obj ..|.ptr ..|.fclo ..=>true
 |_=>false
def M1:Ob→Bool
 |.row ..|.mp ..=>true
 |.box _ shs=>shs.all qQ
 |_=>false
def Gb (shs:List Sh)(obs:List (Nat×Ob)):Bool:=shs.all qQ&&obs.all fun x=>M1 x.2
def FnObOK (C:Ctx)(f:Nat)(shs:List Sh)(obs:List (Nat×Ob))(res:Ty)(ds:List D)(d:D):Prop:=
 ∀(N:Nat) (σ:Im) (own:Nat→Option Nat) (hv:Nat→Value) (w:World) (args:Array Value) (cx:Nat→Prop),Gb shs obs=true→σ.ok w→CtxOK C σ→(∀k,σ.m k≠some fi)→N≤w.heap.size→args.size=shs.length→
  (∀k j,own k=some j→N≤k∧k<w.heap.size∧(∀o,σ.c k o=none)∧σ.m k=none)→
  (∀k,cx k→k<w.heap.size∧own k=none∧(∀o,σ.c k o=none)∧σ.m k=none)→
  (∀t,CellOK C (po shs obs) (tJ obs ds (ds.drop shs.length)) σ hv (shs.getD t .none) (args.getD t undef) (ds.getD t .none))→
  (∀j,ObjOK C (po shs obs) (tJ obs ds (ds.drop shs.length)) σ own hv w N j (bz obs j))→
  Calls C.P f args w fun e w'=>∃v σ' own' hv' dr os,e=.returned v∧d=.tup (dr::os)∧os.length=obs.length∧σ.le σ'∧σ'.ok w'∧Below 0 w w'∧
   (∀k,k<w.heap.size→own k=none→w'.heap[k]?=w.heap[k]?)∧
   (∀k o x,σ'.c k o=some x→(σ.c k o=some x∨N≤k)∧¬cx k)∧(∀k x,σ'.m k=some x→(σ.m k=some x∨N≤k)∧¬cx k)∧(∀k,σ'.m k=some fi→N≤k→k<w.heap.size→own k≠none)∧
   (∀k j,own' k=some j→N≤k∧k<w'.heap.size∧(∀o,σ'.c k o=none)∧σ'.m k=none∧(k<w.heap.size→own k≠none))∧
   (∀(t:Nat) (sh:Sh),shs[t]?=some sh→ir sh=false→CellOK C (po shs obs) (tJ obs ds os) σ' hv' sh (args.getD t undef) (ds.getD t .none))∧
   (∀j,ObjOK C (po shs obs) (tJ obs ds os) σ' own' hv' w' N j (bz obs j))∧Rep C.cap σ' res v dr
theorem CellOK.ctx {C C':Ctx}(hcap:C'.cap=C.cap){S:St}{ρ:Env}{σ:Im}{hv:Nat→Value}{s:Sh}(hp:qQ s=true){v:Value}{d:D}(h:CellOK C S ρ σ hv s v d):CellOK C' S ρ σ hv s v d:=by
 cases s with
 |dat t=>show Rep C'.cap σ t v d;rw[hcap];exact h
 |opt gs s=>cases hp
 |eptr j ver a b=>cases hp
 |yv=>cases hp
 |_=>exact h
theorem ObjOK.ctx {C C':Ctx}(hcap:C'.cap=C.cap){S:St}{ρ:Env}{σ:Im}{own:Nat→Option Nat}{hv:Nat→Value}{w:World}{N j:Nat}{ob:Ob}(hp:M1 ob=true∨ob=.dead)(h:ObjOK C S ρ σ own hv w N j ob):ObjOK C' S ρ σ own hv w N j ob:=by
 rcases hp with hp|rfl
 ·cases ob with
  |row T e=>obtain⟨cells,xs,h1,h2,h3,h4⟩:=h;exact⟨cells,xs,h1,h2,by rw[hcap];exact h3,h4⟩
  |mp kt et=>obtain⟨k,arr,clock,es,h1,h2,h3,h4,h5,h6,h7⟩:=h;exact⟨k,arr,clock,es,h1,h2,h3,h4,h5,h6,by rw[hcap];exact h7⟩
  |box ag shs=>
   obtain⟨k,cs,T,ds,h1,h2,h3,h4,h5,h6,h7⟩:=h
   exact⟨k,cs,T,ds,h1,h2,h3,h4,h5,h6,fun i s hs=>⟨(h7 i s hs).1,(h7 i s hs).2.ctx hcap (List.all_eq_true.1 hp s (List.mem_of_getElem? hs))⟩⟩
  |_=>cases hp
 ·trivial
theorem FH {obs:List (Nat×Ob)}(h:(obs.all fun x=>M1 x.2)=true)(j:Nat):M1 (bz obs j)=true∨bz obs j=.dead:=by
 induction obs with
 |nil=>exact .inr rfl
 |cons x l ih=>
  simp only[List.all_cons,Bool.and_eq_true] at h
  simp only[bz]
  cases hb:Nat.beq x.1 j
  ·exact ih h.2
  ·exact .inl h.1
theorem FnObOK.ctx {C C':Ctx}{f:Nat}{shs:List Sh}{obs:List (Nat×Ob)}{res:Ty}{ds:List D}{d:D}(h:FnObOK C f shs obs res ds d)(hP:C'.P=C.P)(hcap:C'.cap=C.cap)(hglob:C'.glob=C.glob):FnObOK C' f shs obs res ds d:=by
 intro N σ own hv w args cx hp hok hC hnd hN hsz hown hcx h1 h2
 have hp':=hp
 simp only[Gb,Bool.and_eq_true] at hp'
 have hps:∀t s,shs[t]?=some s→qQ s=true:=fun t s hs=>List.all_eq_true.1 hp'.1 s (List.mem_of_getElem? hs)
 have hC':CtxOK C σ:=⟨fun g x hx=>by have:=hC.glob g x (by rw[hglob];exact hx);rwa [hcap] at this⟩
 have:=h N σ own hv w args cx hp hok hC' hnd hN hsz hown hcx (fun t=>by
  cases hs:shs[t]? with
  |none=>rw[List.getD_eq_getElem?_getD,hs];trivial
  |some s=>have:=h1 t;rw[List.getD_eq_getElem?_getD,hs] at this ⊢;exact this.ctx hcap.symm (hps t s hs)) (fun j=>(h2 j).ctx hcap.symm (FH hp'.2 j))
 rw[hP]
 refine this.mono fun e w' hh=>?_
 obtain⟨v,σ',own',hv',dr,os,g1,g2,g3,g4,g5,g6,g7,g8,g9,g10,g11,g12,g13,g14⟩:=hh
 exact⟨v,σ',own',hv',dr,os,g1,g2,g3,g4,g5,g6,g7,g8,g9,g10,g11,fun t sh hs hd=>(g12 t sh hs hd).ctx hcap (hps t sh hs),fun j=>(g13 j).ctx hcap (FH hp'.2 j),by rw[hcap];exact g14⟩
def FunsOK (C:Ctx)(Φ:aK):Prop:=∀f ds d,Φ f ds=some d→∀s,C.sig f=some s→(Rn s.mode=false→FnOK C f s ds d)∧∀shs obs,s.mode=.ob shs obs→FnObOK C f shs obs s.res ds d
def G8:List Ty→Ty→Option (List Ty)
 |[.fn ys .bool],.tup []=>some ys
 |_,_=>none
def ClosOK (C:Ctx):Prop:=(∀f cs,C.cap f=some cs→G8 cs.args cs.res=none→C.sig f=some ⟨cs.args++cs.caps,cs.res,.dat⟩)∧∀f s,C.sig f=some s→∃fn,C.P.funcs[f]?=some fn∧fn.body.isSome=true∧(fn.name== "runtime.NumGoroutine")=false
def aJ (S:St)(gs:List (Nat×Bool)):List Operand→List Nat
 |[]=>[]
 |x::xs=>
  match shX S gs x with
  |.obj j ver=>bif Nat.beq ver (S.ver j)&&de (S.o j) then j::aJ S gs xs else aJ S gs xs
  |_=>aJ S gs xs
def gsh (gs:List (Nat×Bool))(s:Sh):Sh:=
 match gs with
 |[]=>s
 |_=>.opt gs s
def St.fzs (S:St)(js:List Nat):St:=js.foldl St.fz S
def y0 (C:Ctx)(S:St)(gs:List (Nat×Bool))(dst:Nat)(f:Nat)(args:List Operand):Option (St×Sh×List PI):=
 (C.sig f).bind fun s=>
    match s.mode with
    |.dat=>
     (D0 C (S.fzs (aJ S gs args)) gs args).bind fun u=>
       bif Ty.subs u.1 s.args then some (bif s.res.pure then S else S.fzs (aJ S gs args),.dat s.res,[.call gs dst f u.2]) else Option.none
    |_=>Option.none
def yO (C:Ctx)(S:St)(dst:Nat)(f:Nat)(args:List Operand):GD:=
 (C.sig f).bind fun s=>
    match s.mode with
    |.row T e=>
     (D0 C (S.fzs (aJ S [] args)) [] args).bind fun u=>
       bif Ty.subs u.1 s.args then some (mkObj (bif e.pure then S else S.fzs (aJ S [] args)) dst (.row T e),[.call [] dst f u.2,.setO dst (.r dst),.setR dst (.con .none)]) else Option.none
    |_=>Option.none
def oX (C:Ctx)(S:St)(gs:List (Nat×Bool))(dst:Nat)(x:Operand)(args:List Operand):Option (St×Sh×List PI):=
 match use C S gs x with
 |some (.fn as r,e)=>
  match G8 as r with
  |some _=>Option.none
  |Option.none=>
  (D0 C (S.fzs (aJ S gs args)) gs args).bind fun u=>
    bif Ty.subs u.1 as then some (bif r.pure then S else S.fzs (aJ S gs args),.dat r,[.callc gs dst e u.2]) else Option.none
 |_=>Option.none
theorem ot:∀(js:List Nat) (S:St),(S.fzs js).ver=S.ver∧(S.fzs js).r=S.r
 |[],S=>⟨rfl,rfl⟩
 |j::js,S=>by
  obtain⟨h1,h2⟩:=ot js (S.fz j)
  obtain⟨k1,k2⟩:=UM S j
  exact⟨h1.trans k1,h2.trans k2⟩
section
variable {C:Ctx} {S:St} {ρ:Env} {σ:Im} {own:Nat→Option Nat} {hv:Nat→Value} {w0:World} {σ0:Base} {A:Nat→Prop} {a:Act} {w:World} {gs:List (Nat×Bool)} {Φ:aK} {dst:Nat}
theorem Inv.fzs:∀(js:List Nat) {S:St} {σ:Im} {own:Nat→Option Nat},Inv C S ρ σ own hv w0 σ0 A a w→∃σ' own',σ.le σ'∧Inv C (S.fzs js) ρ σ' own' hv w0 σ0 A a w
 |[],S,σ,own,h=>⟨σ,own,.refl σ,h⟩
 |j::js,S,σ,own,h=>by
  obtain⟨σ1,own1,hle,h1⟩:=h.fz j
  obtain⟨σ2,own2,hle2,h2⟩:=Inv.fzs js h1
  exact⟨σ2,own2,hle.trans hle2,h2⟩
theorem Inv.world (h:Inv C S ρ σ own hv w0 σ0 A a w){σ':Im}{w':World}(hle:σ.le σ')(hok:σ'.ok w')(hb:Below w.heap.size w w')(hnc:∀k o x,σ'.c k o=some x→σ.c k o=some x∨w.heap.size≤k)
 (hnm:∀k x,σ'.m k=some x→σ.m k=some x∨w.heap.size≤k):Inv C S ρ σ' own hv w0 σ0 A a w':=by
 have hsz:=h.below.size
 refine h.step (fun _=>False) rfl hle hok (fun k o x hx=>(hnc k o x hx).imp id (fun e=>⟨by omega,.inr e⟩)) (fun k x hx=>(hnm k x hx).imp id (fun e=>⟨by omega,.inr e⟩)) (hb.mono hsz) (.refl S hv) (fun j _=>⟨rfl,rfl,rfl,fun k hk=>⟨hk,hb.block k (h.owns k j hk).2.1⟩⟩) (fun _ hf=>hf.elim) (fun k j hk=>?_) (fun _=>id) (fun t=>.inl ⟨rfl,rfl,rfl⟩) (fun _ _=>rfl) (fun k hk _=>hb.block k hk) (fun k i hk=>.inl ⟨i,hk⟩) (fun _ hf=>hf.elim)
 obtain⟨g1,g2,g3,g4⟩:=h.owns k j hk
 refine⟨g1,by have:=hb.size;omega,fun o=>?_,?_⟩
 ·cases hc:σ'.c k o with
  |none=>rfl
  |some x=>rcases hnc k o x hc with e|e
           ·rw[g3 o] at e;cases e
           ·omega
 ·cases hc:σ'.m k with
  |none=>rfl
  |some x=>rcases hnm k x hc with e|e
           ·rw[g4] at e;cases e
           ·omega
theorem CtxOK.mono {C:Ctx}{σ σ':Im}(h:CtxOK C σ)(hle:σ.le σ'):CtxOK C σ':=⟨fun g x hx=>(h.glob g x hx).mono hle⟩
theorem AQ (h:Inv C S ρ σ own hv w0 σ0 A a w)(hC:CtxOK C σ0)(hg:holds gs ρ=true){xs:List Operand}{u:List Ty×List PE}{ts:List Ty}(hu:D0 C S gs xs=some u)(hs:Ty.subs u.1 ts=true):uK C σ ts (xs.map a.eval) (PE.evs ρ u.2):=by
 obtain⟨l1,l2,hall⟩:=Nn h hC hg _ _ hu
 have hl:=Ty.subs_len _ _ hs
 refine⟨by rw[List.length_map];omega,by rw[PE.evs_eq,List.length_map];omega,fun i t hi=>?_⟩
 obtain⟨s,hs',hst⟩:=Ty.subs_get _ _ hs i t hi
 exact(hall i s hs').sub hst
theorem Jp {o:Oper}{f:Nat}{args:Array Operand}{ts:Array TypeId}(hcl:ClosOK C){s:Sig}(hs:C.sig f=some s)(ho:o.op=.call {callee:=.value (.func f),args:=args,argTypes:=ts}):
 (execOp a.eval o).run C.P w=.ok (.enter f (args.map a.eval)) w:=by
 obtain⟨fn,h1,h2,h3⟩:=hcl.2 f s hs
 obtain⟨bd,h2'⟩:=Option.isSome_iff_exists.1 h2
 have h4:¬fn.name= "runtime.NumGoroutine" :=by simpa using h3
 simp[execOp,ho,resolve,Act.eval,Deferred.ofValue,invoke,callFunc,h1,h2',h4]
theorem Sg {o:Oper}{x:Operand}{f:Nat}{vs:List Value}{args:Array Operand}{ts:Array TypeId}(hcl:ClosOK C){s:Sig}(hs:C.sig f=some s)(hx:a.eval x=.func (.func f) #[] vs.toArray)(ho:o.op=.call {callee:=.value x,args:=args,argTypes:=ts}):
 (execOp a.eval o).run C.P w=.ok (.enter f (args.map a.eval++vs.toArray)) w:=by
 obtain⟨fn,h1,h2,h3⟩:=hcl.2 f s hs
 obtain⟨bd,h2'⟩:=Option.isSome_iff_exists.1 h2
 have h4:¬fn.name= "runtime.NumGoroutine" :=by simpa using h3
 simp[execOp,ho,resolve,hx,Deferred.ofValue,invoke,callFunc,h1,h2',h4]
theorem Se (h:Inv C S ρ σ own hv w0 σ0 A a w)(hC:CtxOK C σ0)(ht:¬A dst)(hlt:dst<a.tmps.size)(hgs:∀g,g∈gs→A g.1)(hg:holds gs ρ=true){f:Nat}{s:Sig}{js:List Nat}{vals:List Value}{ds:List D}{d:D}(hmode:s.mode=.dat)(hfn:FnOK C f s ds d)
 (hargs:∀σ1 own1,σ.le σ1→Inv C (S.fzs js) ρ σ1 own1 hv w0 σ0 A a w→uK C σ1 s.args vals ds) {K:Act→World→Prop} {Q:Exit→Act→World→Prop}
 (hK:∀a' w',Good C w0 σ0 ((bif s.res.pure then S else S.fzs js).setR dst (gsh gs (.dat s.res))) (ρ.setR dst d) (fun u=>A u∨u=dst) a' w'→a'.tmps.size=a.tmps.size→K a' w'):
 Calls C.P f vals.toArray w (fun e w''=>match e with|.returned v=>K (a.put (some dst) v) w''|.panicked chain=>Q (.panic chain) a w''|.outgrown=>LetsOut Q):=by
 obtain⟨σ1,own1,hle1,h1⟩:=Inv.fzs js h
 have hcall:=hfn σ1 w vals.toArray h1.ok (hC.mono h1.le) (by simpa using hargs σ1 own1 hle1 h1)
 refine hcall.mono fun e w' hh=>?_
 obtain⟨v,σ',rfl,hle,hok,hb,hnc,hnm,hres⟩:=hh
 simp only[Ce,hmode] at hres
 refine hK _ _ ?_ (size_put _ _ _)
 have hh:holds gs (ρ.setR dst d)=true:=by rw[rL (t:=dst) (d:=d) fun g hm e=>ht (by rw[←e];exact hgs g hm)];exact hg
 have put:∀{S2:St} {σ2:Im} {own2:Nat→Option Nat},Inv C S2 ρ σ2 own2 hv w0 σ0 A a w'→Rep C.cap σ2 s.res v d→Good C w0 σ0 (S2.setR dst (gsh gs (.dat s.res))) (ρ.setR dst d) (fun u=>A u∨u=dst) (a.put (some dst) v) w':=by
  intro S2 σ2 own2 h2 hr
  cases gs with
  |nil=>exact⟨_,_,_,h2.setReg ht (s:=.dat s.res) hr hlt (fun _ _ e=>by cases e)⟩
  |cons g gs'=>
   refine⟨_,_,_,h2.setReg ht (s:=.opt (g::gs') (.dat s.res)) ⟨fun _=>hr,fun e=>absurd (hh.symm.trans e) (by decide)⟩ hlt (fun gs s e=>?_)⟩
   cases e
   exact⟨hgs,fun _ _ e=>by cases e⟩
 cases hp:s.res.pure with
 |true=>
  simp only[cond_true]
  exact put (h.world (.refl σ) (h.ok.below hb) hb (fun _ _ _ hx=>.inl hx) (fun _ _ hx=>.inl hx)) (hres.pure hp)
 |false=>
  simp only[cond_false]
  exact put (h1.world hle hok hb hnc hnm) hres
theorem Ey {o:Oper}{f:Nat}{args:Array Value}{K:Act→World→Prop}{Q:Exit→Act→World→Prop}(hd:o.dst=some dst)(hx:(execOp a.eval o).run C.P w=.ok (.enter f args) w)
 (h:Calls C.P f args w (fun e w''=>match e with|.returned v=>K (a.put (some dst) v) w''|.panicked chain=>Q (.panic chain) a w''|.outgrown=>LetsOut Q)):o.wp C.P a w K Q:=by
 simp only[Oper.wp,hx,Oper.upon,hd]
 refine h.mono fun e w'' hh=>?_
 cases e<;>exact hh
theorem Vv (h:Inv C S ρ σ own hv w0 σ0 A a w)(hC:CtxOK C σ0)(hcl:ClosOK C)(hΦ:FunsOK C Φ)(ht:¬A dst)(hlt:dst<a.tmps.size)(hgs:∀g,g∈gs→A g.1)(hg:holds gs ρ=true){f:Nat}{args:Array Operand}{ts:Array TypeId}{r:St×Sh×List PI}
 (hr:y0 C S gs dst f args.toList=some r) {o:Oper} (hd:o.dst=some dst) (ho:o.op=.call {callee:=.value (.func f),args:=args,argTypes:=ts}):EOK C w0 σ0 Φ S ρ A a w o (r.1.setR dst (gsh gs r.2.1),r.2.2):=by
 simp only[y0,Option.bind_eq_some_iff] at hr
 obtain⟨s,hs,hr⟩:=hr
 split at hr
 case h_2=>cases hr
 rename_i hmode
 simp only[Option.bind_eq_some_iff] at hr
 obtain⟨u,hu,hr⟩:=hr
 cases hsub:Ty.subs u.1 s.args<;>simp only[hsub,cond_true,cond_false] at hr
 ·cases hr
 cases hr
 intro ρ' hrun K Q hK
 simp only[PI.runs,PI.run,hg,cond_true,Option.bind_eq_some_iff,Option.map_eq_some_iff] at hrun
 obtain⟨ρ1,⟨d,hd1,rfl⟩,hrun⟩:=hrun
 cases hrun
 have hfn:=(hΦ f _ d hd1 s hs).1 (by rw[hmode];rfl)
 refine Ey hd (Jp hcl hs ho) ?_
 have hvals:args.map a.eval=(args.toList.map a.eval).toArray:=by apply Array.ext';rw[Array.toList_map]
 rw[hvals]
 have hee:(fun u=>A u∨o.dst=some u)=(fun u=>A u∨u=dst):=by funext u;rw[hd];simp[eq_comm]
 rw[hee] at hK
 exact Se h hC ht hlt hgs hg (js:=aJ S gs args.toList) hmode hfn (fun σ1 own1 _ h1=>AQ h1 hC hg hu hsub) hK
theorem UI (h:Inv C S ρ σ own hv w0 σ0 A a w)(hC:CtxOK C σ0)(hcl:ClosOK C)(hΦ:FunsOK C Φ)(ht:¬A dst)(hlt:dst<a.tmps.size)(hgs:∀g,g∈gs→A g.1)(hg:holds gs ρ=true){x:Operand}{args:Array Operand}{ts:Array TypeId}{r:St×Sh×List PI}
 (hr:oX C S gs dst x args.toList=some r) {o:Oper} (hd:o.dst=some dst) (ho:o.op=.call {callee:=.value x,args:=args,argTypes:=ts}):EOK C w0 σ0 Φ S ρ A a w o (r.1.setR dst (gsh gs r.2.1),r.2.2):=by
 unfold oX at hr
 split at hr
 case h_2=>cases hr
 rename_i as r0 e hu0
 split at hr
 case h_1=>cases hr
 rename_i hit
 simp only[Option.bind_eq_some_iff] at hr
 obtain⟨u,hu,hr⟩:=hr
 cases hsub:Ty.subs u.1 as<;>simp only[hsub,cond_true,cond_false] at hr
 ·cases hr
 cases hr
 have hx:=ax h hC hg hu0
 intro ρ' hrun K Q hK
 simp only[PI.runs,PI.run,hg,cond_true,Option.bind_eq_some_iff] at hrun
 obtain⟨ρ1,hrun1,hrun⟩:=hrun
 cases hrun
 split at hrun1
 case h_2=>cases hrun1
 rename_i f caps hev
 simp only[Option.map_eq_some_iff] at hrun1
 obtain⟨d,hd1,rfl⟩:=hrun1
 rw[hev] at hx
 generalize hav:a.eval x=xv at hx
 generalize hty:Ty.fn as r0=ty at hx
 cases hx with
 |fn f cs vs ds hc h1 h2 hall=>
  cases hty
  have hs:=hcl.1 f cs hc hit
  have hfn:=(hΦ f _ d hd1 _ hs).1 rfl
  refine Ey hd (Sg hcl hs hav ho) ?_
  have hvals:args.map a.eval++vs.toArray=(args.toList.map a.eval++vs).toArray:=by apply Array.ext';simp
  rw[hvals]
  have hee:(fun u=>A u∨o.dst=some u)=(fun u=>A u∨u=dst):=by funext u;rw[hd];simp[eq_comm]
  rw[hee] at hK
  refine Se h hC ht hlt hgs hg (js:=aJ S gs args.toList) (s:=⟨cs.args++cs.caps,cs.res,.dat⟩) rfl hfn (fun σ1 own1 hle1 i1=>?_) hK
  obtain⟨g1,g2,g3⟩:=AQ i1 hC hg hu hsub
  refine⟨by simp only[List.length_append,g1,h1],by simp only[List.length_append,g2,h2],fun i t hi=>?_⟩
  rw[List.getElem?_append] at hi
  split at hi
  ·rename_i hlt
   have:=g3 i t hi
   rw[List.getD_eq_getElem?_getD,List.getD_eq_getElem?_getD,List.getElem?_append_left (by omega),List.getElem?_append_left (by omega)]
   simpa [List.getD_eq_getElem?_getD] using this
  ·rename_i hge
   have:=(hall _ t hi).mono hle1
   rw[List.getD_eq_getElem?_getD,List.getD_eq_getElem?_getD,List.getElem?_append_right (by omega),List.getElem?_append_right (by omega),g1,g2]
   simpa [List.getD_eq_getElem?_getD] using this
theorem Pw (h:Inv C S ρ σ own hv w0 σ0 A a w)(hC:CtxOK C σ0)(hcl:ClosOK C)(hΦ:FunsOK C Φ)(ht:¬A dst)(hlt:dst<a.tmps.size){f:Nat}{args:Array Operand}{ts:Array TypeId}{r:St×List PI}
 (hr:yO C S dst f args.toList=some r) {o:Oper} (hd:o.dst=some dst) (ho:o.op=.call {callee:=.value (.func f),args:=args,argTypes:=ts}):EOK C w0 σ0 Φ S ρ A a w o r:=by
 simp only[yO,Option.bind_eq_some_iff] at hr
 obtain⟨s,hs,hr⟩:=hr
 split at hr
 case h_2=>cases hr
 rename_i T e hmode
 simp only[Option.bind_eq_some_iff] at hr
 obtain⟨u,hu,hr⟩:=hr
 cases hsub:Ty.subs u.1 s.args<;>simp only[hsub,cond_true,cond_false] at hr
 ·cases hr
 cases hr
 intro ρ' hrun K Q hK
 have hgt:holds ([]:List (Nat×Bool)) ρ=true:=rfl
 simp only[PI.runs,PI.run,hgt,cond_true,Option.bind_eq_some_iff,Option.map_eq_some_iff] at hrun
 obtain⟨ρ1,⟨d,hd1,rfl⟩,ρ2,g2,ρ3,g3,g4⟩:=hrun
 cases g2;cases g3;cases g4
 have hfn:=(hΦ f _ d hd1 s hs).1 (by rw[hmode];rfl)
 obtain⟨σ1,own1,hle1,h1⟩:=Inv.fzs (aJ S [] args.toList) h
 have hvals:args.map a.eval=(args.toList.map a.eval).toArray:=by apply Array.ext';rw[Array.toList_map]
 refine Ey hd (Jp hcl hs ho) ?_
 rw[hvals]
 have hcall:=hfn σ1 w (args.toList.map a.eval).toArray h1.ok (hC.mono h1.le) (by simpa using AQ h1 hC rfl hu hsub)
 refine hcall.mono fun e' w' hh=>?_
 obtain⟨v,σ',rfl,hle,hok,hb,hnc,hnm,hres⟩:=hh
 simp only[Ce,hmode] at hres
 obtain⟨cells,xs,rfl,hown,hel,hfree⟩:=hres
 refine hK _ _ ?_ (size_put _ _ _)
 have hee:(fun u=>A u∨o.dst=some u)=(fun u=>A u∨u=dst):=by funext u;rw[hd];simp[eq_comm]
 rw[hee]
 have main:∀{S2:St} {σ1 σ2:Im} {own2:Nat→Option Nat},Inv C S2 ρ σ1 own2 hv w0 σ0 A a w→σ1.le σ2→σ2.ok w'→(∀k o x,σ2.c k o=some x→σ1.c k o=some x∨w.heap.size≤k)→(∀k x,σ2.m k=some x→σ1.m k=some x∨w.heap.size≤k)→ElemsOK C.cap σ2 e cells xs→(∀k,v.ownBlock=some k→(∀o,σ2.c k o=none)∧σ2.m k=none)→
  Good C w0 σ0 (mkObj S2 dst (.row T e)) ((ρ.setO dst (.list xs)).setR dst .none) (fun u=>A u∨u=dst) (a.put (some dst) v) w':=by
  intro S2 σ1 σ2 own2 h2 hle2 hok2 hnc2 hnm2 hel2 hfree2
  have hsz:=h1.below.size
  have hnew:=h2.newOσ dst (.row T e) (.list xs) v (fun k=>decide (v.ownBlock=some k)) hle2 hok2 hnc2 hnm2 hb (fun k hk=>hown.lt k (by simpa using hk)) (fun k hk=>hfree2 k (by simpa using hk)) ⟨cells,xs,by simp[Env.setO,ao],by
        rw[ao]
        refine⟨hown.1,?_⟩
        rcases hown.2 with e1|⟨g,cap,cur,e1,e2,e3⟩
        ·exact .inl e1
        ·exact .inr ⟨g,cap,cur,e1,by omega,e3⟩,hel2,fun k hk=>by rw[ao] at hk;simp[cQ,hk]⟩
  have hput:=hnew.setObj ht (j:=dst) (v:=v) (ao _ _ _) hlt
  have e:(S2.newO dst (.row T e)).ver dst=S2.ver dst+1:=ao _ _ _
  rw[e] at hput
  exact⟨_,_,_,hput⟩
 have eρ:((ρ.setR dst (.list xs)).setO dst ((PE.r dst).ev (ρ.setR dst (.list xs)))).setR dst ((PE.con D.none).ev ((ρ.setR dst (.list xs)).setO dst ((PE.r dst).ev (ρ.setR dst (.list xs)))))=(ρ.setO dst (.list xs)).setR dst .none:=by
  have:∀d1 d2:D,upd (upd ρ.r dst d1) dst d2=upd ρ.r dst d2:=by
   intro d1 d2;funext i;simp only[aN];split<;>rfl
  simp[Env.setR,Env.setO,PE.ev,ao,this]
 show Good C w0 σ0 _ _ _ _ _
 rw[eρ]
 cases hp:e.pure with
 |true=>
  simp only[cond_true]
  refine main h (.refl σ) (h.ok.below hb) (fun _ _ _ hx=>.inl hx) (fun _ _ hx=>.inl hx) ?_ (fun k hk=>?_)
  ·obtain⟨vs,k1,k2⟩:=hel
   exact⟨vs,fun i x hx=>(k1 i x hx).pure hp,k2⟩
  ·obtain⟨f1,f2⟩:=hfree k hk
   refine⟨fun o=>?_,?_⟩
   ·cases hc:σ.c k o with
    |none=>rfl
    |some x=>have:=hle.c _ _ _ (hle1.c _ _ _ hc);rw[f1 o] at this;cases this
   ·cases hc:σ.m k with
    |none=>rfl
    |some x=>have:=hle.m _ _ (hle1.m _ _ hc);rw[f2] at this;cases this
 |false=>
  simp only[cond_false]
  exact main h1 hle hok hnc hnm hel hfree
end
def scr:Nat:=1000000013
abbrev pv:=Sh×Option (Ty×PE)
def Hd (C:Ctx)(S:St)(x:Operand):pv:=(shX S [] x,use C S [] x)
def SK (c:Nat×Nat):pv:=(.ptr c.1 c.2 0,none)
def bk:List Nat→List Nat→Nat→Option Nat
 |i::is,j::js,k=>bif Nat.beq i k then some j else bk is js k
 |_,_,_=>none
def afc:Sh→Sh→List (Nat×Nat)
 |.obj i _,.obj j _=>[(i,j)]
 |.ptr i _ _,.ptr j _ _=>[(i,j)]
 |.fclo _ a,.fclo _ b=>(a.zip b).map fun x=>(x.1.1,x.2.1)
 |_,_=>[]
def XO:List Sh→List Sh→List (Nat×Nat)
 |a::as,b::bs=>afc a b++XO as bs
 |_,_=>[]
def afI:Ob→Ob→List (Nat×Nat)
 |.box _ a,.box _ b=>XO a b
 |_,_=>[]
def ad7:List (Nat×Nat)→Nat→Nat
 |[],_=>scr
 |x::l,i=>bif Nat.beq x.1 i then x.2 else ad7 l i
def ahA (S:St)(obs:List (Nat×Ob))(p:List (Nat×Nat)):List (Nat×Nat):=p++p.flatMap fun x=>afI (bz obs x.1) (S.o x.2)
def abM (S:St)(shs:List Sh)(obs:List (Nat×Ob))(acts:List pv):List Nat:=obs.map fun o=>ad7 (ahA S obs (XO shs (acts.map (·.1)))) o.1
section
variable (ver:Nat→Nat) (is js:List Nat)
def EV:List (Nat×Nat)→Option (List (Nat×Nat))
 |[]=>some []
 |x::l=>bif Nat.beq x.2 0 then(bk is js x.1).bind fun j=>(EV l).map fun r=>(j,ver j)::r else none
def qs:Sh→Option Sh
 |.dat t=>some (.dat t)
 |.none=>some .none
 |.obj i v=>bif Nat.beq v 0 then(bk is js i).map fun j=>.obj j (ver j) else none
 |.ptr i v off=>bif Nat.beq v 0 then(bk is js i).map fun j=>.ptr j (ver j) off else none
 |.fclo f caps=>(EV ver is js caps).map (.fclo f)
 |_=>none
def Ql:List Sh→Option (List Sh)
 |[]=>some []
 |s::l=>(qs ver is js s).bind fun a=>(Ql l).map (a::·)
def yR:Ob→Option Ob
 |.row T e=>some (.row T e)
 |.mp a b=>some (.mp a b)
 |.box ag shs=>(Ql ver is js shs).map (.box ag)
 |_=>none
end
def VC (c:Sh):Sh→Bool
 |.none=>true
 |.dat b=>match c with|.dat a=>Ty.sub a b|_=>false
 |x=>Sh.beq c x
def Hr:List Sh→List Sh→Bool
 |[],[]=>true
 |a::as,b::bs=>VC a b&&Hr as bs
 |_,_=>false
def Ti:Ob→Ob→Bool
 |.box x a,.box y b=>(x==y)&&Hr a b
 |.row T a,.row U b=>Nat.beq T U&&Ty.beq a b
 |.mp a b,.mp c d=>Ty.beq a c&&Ty.beq b d
 |_,_=>false
def vi (S:St)(is js:List Nat):List (Nat×Ob)→List Nat→Bool
 |[],[]=>true
 |o::obs,j::jl=>(match yR S.ver is js o.2 with|some x=>Ti (S.o j) x|none=>false)&&vi S is js obs jl
 |_,_=>false
def Oj (S:St)(is js:List Nat)(a:pv)(s:Sh):Option PE:=
 match s with
 |.dat t=>(match a.2 with|some x=>bif Ty.sub x.1 t then some x.2 else none|none=>none)
 |.none=>some (.con .none)
 |s=>(match qs S.ver is js s with|some x=>bif Sh.beq a.1 x then some (.con .none) else none|none=>none)
def ud (S:St)(is js:List Nat):List pv→List Sh→Option (List PE)
 |[],[]=>some []
 |a::as,s::ss=>(Oj S is js a s).bind fun e=>(ud S is js as ss).map (e::·)
 |_,_=>none
def mC:List Sh→List Nat
 |[]=>[]
 |.obj i _::l=>i::mC l
 |.ptr i _ _::l=>i::mC l
 |.fclo _ c::l=>c.map (·.1)++mC l
 |_::l=>mC l
def inB (l:List Nat)(x:Nat):Bool:=l.any (Nat.beq x)
def WJ (ver:Nat→Nat)(shs:List Sh)(is js:List Nat):Nat→Nat:=fun j=>match bk js is j with|some i=>bif inB (mC shs) i then ver j else ver j+1|none=>ver j
def St.handed (S:St)(shs:List Sh)(obs:List (Nat×Ob))(is js:List Nat):St:=
 ⟨S.r,fun j=>match bk js is j with|some i=>(match yR (WJ S.ver shs is js) is js (bz obs i) with|some o=>o|none=>.dead)|none=>S.o j,WJ S.ver shs is js⟩
def Sn (S:St):List Operand→List Sh→List Nat
 |x::xs,s::ss=>(bif ir s then aJ S [] [x] else[])++Sn S xs ss
 |_,_=>[]
def Wo:List Nat→Nat→List PI
 |[],_=>[]
 |j::js,k=>.setO j (.tget (.o scr) k)::Wo js (k+1)
def Np (S:St)(res:Ty)(f:Nat)(shs:List Sh)(obs:List (Nat×Ob))(acts:List pv)(is js:List Nat):Option (St×Ty×List PI):=
 (ud S is js acts shs).bind fun es=>
    bif Gb shs obs&&(gi is&&gi js&&vi S is js obs js&&pM (S.o scr)&& !inB js scr) then some (S.handed shs obs is js,res,.mcall scr f (es++js.map .o)::Wo js 1) else none
def Nj (C:Ctx)(S:St)(res:Ty)(f:Nat)(shs:List Sh)(obs:List (Nat×Ob))(acts:List pv):Option (St×Ty×List PI):=
 Np S res f shs obs acts (obs.map (·.1)) (abM S shs obs acts)
def nX (C:Ctx)(S:St)(f:Nat)(args:List Operand)(caps:List (Nat×Nat)):Option (St×Ty×List PI):=
 (C.sig f).bind fun s=>
    match s.mode with
    |.ob shs obs=>Nj C (S.fzs (Sn S args shs)) s.res f shs obs (args.map (Hd C (S.fzs (Sn S args shs)))++caps.map SK)
    |_=>none
theorem inB_eq {l:List Nat}{x:Nat}:inB l x=true↔x∈l:=by
 unfold inB
 rw[List.any_eq_true]
 exact⟨fun⟨y,hy,h⟩=>by rw[Nat.eq_of_beq_eq_true h];exact hy,fun h=>⟨x,h,Nat.beq_refl x⟩⟩
theorem W2:∀{is js:List Nat} {i j:Nat},bk is js i=some j→∃k:Nat,is[k]?=some i∧js[k]?=some j
 |[],_,i,j,h=>by cases h
 |_::_,[],i,j,h=>by cases h
 |x::is,y::js,i,j,h=>by
  simp only[bk] at h
  cases hb:Nat.beq x i<;>simp only[hb,cond_true,cond_false] at h
  ·obtain⟨k,h1,h2⟩:=W2 h;exact⟨k+1,h1,h2⟩
  ·cases h;exact⟨0,by rw[Nat.eq_of_beq_eq_true hb];rfl,rfl⟩
theorem F6:∀{is js:List Nat} {i j k:Nat},is.Nodup→is[k]?=some i→js[k]?=some j→bk is js i=some j
 |[],_,i,j,k,_,h,_=>by simp at h
 |_::_,[],i,j,k,_,_,h=>by simp at h
 |x::is,y::js,i,j,k,hn,h1,h2=>by
  simp only[bk]
  cases k with
  |zero=>simp at h1 h2;subst h1 h2;rw[Nat.beq_refl];rfl
  |succ k=>
   simp at h1 h2
   have hne:x≠i:=fun e=>by subst e;exact(List.nodup_cons.1 hn).1 (List.mem_of_getElem? h1)
   rw[bU hne]
   exact F6 (List.nodup_cons.1 hn).2 h1 h2
theorem xm {is js:List Nat}(h2:js.Nodup){i j:Nat}(h:bk is js i=some j):bk js is j=some i:=by
 obtain⟨k,g1,g2⟩:=W2 h
 exact F6 h2 g2 g1
theorem Zb (obs:List (Nat×Ob))(f:Nat→D):∀{is js:List Nat} {i j:Nat},is=obs.map (·.1)→bk is js i=some j→nf obs (js.map f) i=f j:=by
 induction obs with
 |nil=>intro is js i j h1 h2;subst h1;cases h2
 |cons x l ih=>
  intro is js i j h1 h2
  subst h1
  cases js with
  |nil=>cases h2
  |cons y js=>
   simp only[List.map_cons,bk] at h2
   simp only[List.map_cons,nf]
   cases hb:Nat.beq x.1 i<;>simp only[hb,cond_true,cond_false] at h2 ⊢
   ·exact ih rfl h2
   ·cases h2;rfl
theorem Td:∀{obs:List (Nat×Ob)} {js:List Nat} {os:List D} {i j:Nat},os.length=obs.length→bk (obs.map (·.1)) js i=some j→∃k:Nat,js[k]?=some j∧nf obs os i=os.getD k .none
 |[],_,_,i,j,_,h=>by cases h
 |_::_,[],_,i,j,_,h=>by cases h
 |_::_,_::_,[],i,j,hl,h=>by simp at hl
 |x::obs,y::js,o::os,i,j,hl,h=>by
  simp only[List.map_cons,bk] at h
  simp only[nf]
  cases hb:Nat.beq x.1 i<;>simp only[hb,cond_true,cond_false] at h ⊢
  ·obtain⟨k,h1,h2⟩:=Td (obs:=obs) (js:=js) (os:=os) (by simpa using hl) h
   exact⟨k+1,h1,by simpa using h2⟩
  ·cases h;exact⟨0,rfl,rfl⟩
theorem JQ:∀{obs:List (Nat×Ob)} {js:List Nat} {i:Nat},js.length=obs.length→bk (obs.map (·.1)) js i=none→bz obs i=.dead
 |[],_,i,_,_=>rfl
 |x::obs,[],i,hl,h=>by simp at hl
 |x::obs,y::js,i,hl,h=>by
  simp only[List.map_cons,bk] at h
  simp only[bz]
  cases hb:Nat.beq x.1 i<;>simp only[hb,cond_true,cond_false] at h ⊢
  ·exact JQ (by simpa using hl) h
  ·cases h
theorem Oa {S:St}{is js:List Nat}:∀{obs:List (Nat×Ob)} {jl:List Nat},vi S is js obs jl=true→jl.length=obs.length
 |[],[],_=>rfl
 |[],_::_,h=>by simp[vi] at h
 |_::_,[],h=>by simp[vi] at h
 |o::obs,j::jl,h=>by simp only[vi,Bool.and_eq_true] at h;simp[Oa h.2]
theorem OE {S:St}{is js:List Nat}:∀{obs:List (Nat×Ob)} {jl:List Nat},vi S is js obs jl=true→∀{i j:Nat},bk (obs.map (·.1)) jl i=some j→∃x,yR S.ver is js (bz obs i)=some x∧Ti (S.o j) x=true
 |[],_,_,i,j,h=>by cases h
 |_::_,[],_,i,j,h=>by cases h
 |o::obs,y::jl,hf,i,j,h=>by
  simp only[vi,Bool.and_eq_true] at hf
  simp only[List.map_cons,bk] at h
  simp only[bz]
  cases hb:Nat.beq o.1 i<;>simp only[hb,cond_true,cond_false] at h ⊢
  ·exact OE hf.2 h
  ·cases h
   have h1:=hf.1
   split at h1
   ·rename_i x hx;exact⟨x,hx,h1⟩
   ·cases h1
theorem Pk:∀{a b:List Sh},Hr a b=true→a.length=b.length∧∀(i:Nat) (y:Sh),b[i]?=some y→∃x,a[i]?=some x∧VC x y=true
 |[],[],_=>⟨rfl,fun i y h=>by simp at h⟩
 |[],_::_,h=>by simp[Hr] at h
 |_::_,[],h=>by simp[Hr] at h
 |a::as,b::bs,h=>by
  simp only[Hr,Bool.and_eq_true] at h
  obtain⟨g1,g2⟩:=Pk h.2
  refine⟨by simp[g1],fun i y hy=>?_⟩
  cases i with
  |zero=>simp at hy;subst hy;exact⟨a,rfl,h.1⟩
  |succ i=>simp at hy;simpa using g2 i y hy
theorem DQ {ver:Nat→Nat}{is js:List Nat}:∀{a b:List Sh},Ql ver is js a=some b→b.length=a.length∧∀(i:Nat) (x:Sh),a[i]?=some x→∃y,b[i]?=some y∧qs ver is js x=some y
 |[],b,h=>by simp only[Ql,Option.some.injEq] at h;subst h;exact⟨rfl,fun i x h=>by simp at h⟩
 |s::l,b,h=>by
  simp only[Ql,Option.bind_eq_some_iff,Option.map_eq_some_iff] at h
  obtain⟨y,hy,r,hr,rfl⟩:=h
  obtain⟨g1,g2⟩:=DQ hr
  refine⟨by simp[g1],fun i x hx=>?_⟩
  cases i with
  |zero=>simp at hx;subst hx;exact⟨y,rfl,hy⟩
  |succ i=>simp at hx;simpa using g2 i x hx
theorem tS {ver:Nat→Nat}{is js:List Nat}:∀{a b:List (Nat×Nat)},EV ver is js a=some b→b.length=a.length∧∀(i x v:Nat),a[i]?=some (x,v)→∃j,b[i]?=some (j,ver j)∧bk is js x=some j∧v=0
 |[],b,h=>by simp only[EV,Option.some.injEq] at h;subst h;exact⟨rfl,fun i x v h=>by simp at h⟩
 |s::l,b,h=>by
  simp only[EV] at h
  cases hb:Nat.beq s.2 0<;>simp only[hb,cond_true,cond_false] at h
  ·cases h
  simp only[Option.bind_eq_some_iff,Option.map_eq_some_iff] at h
  obtain⟨y,hy,r,hr,rfl⟩:=h
  obtain⟨g1,g2⟩:=tS hr
  refine⟨by simp[g1],fun i x v hx=>?_⟩
  cases i with
  |zero=>simp at hx;subst hx;exact⟨y,rfl,hy,Nat.eq_of_beq_eq_true hb⟩
  |succ i=>simp at hx;simpa using g2 i x v hx
theorem y4 {ver:Nat→Nat}{is js:List Nat}{s x:Sh}(h:qs ver is js s=some x):(∀gs s',s≠.opt gs s')∧∀gs s',x≠.opt gs s':=by
 cases s<;>simp only[qs] at h
 case none=>cases h;exact⟨(fun _ _ e=>by cases e),(fun _ _ e=>by cases e)⟩
 case dat=>cases h;exact⟨(fun _ _ e=>by cases e),(fun _ _ e=>by cases e)⟩
 case obj i v=>
  cases hb:Nat.beq v 0<;>simp only[hb,cond_true,cond_false] at h
  ·cases h
  simp only[Option.map_eq_some_iff] at h
  obtain⟨j,_,rfl⟩:=h
  exact⟨(fun _ _ e=>by cases e),(fun _ _ e=>by cases e)⟩
 case ptr i v off=>
  cases hb:Nat.beq v 0<;>simp only[hb,cond_true,cond_false] at h
  ·cases h
  simp only[Option.map_eq_some_iff] at h
  obtain⟨j,_,rfl⟩:=h
  exact⟨(fun _ _ e=>by cases e),(fun _ _ e=>by cases e)⟩
 case fclo f caps=>
  simp only[Option.map_eq_some_iff] at h
  obtain⟨j,_,rfl⟩:=h
  exact⟨(fun _ _ e=>by cases e),(fun _ _ e=>by cases e)⟩
 all_goals cases h
section
variable {C:Ctx} {S S1:St} {ρ ρ1:Env} {σ σ1:Im} {own own1:Nat→Option Nat} {hv hv1:Nat→Value} {w0:World} {σ0:Base} {A:Nat→Prop} {a:Act} {w w1:World} {Φ:aK} {dst:Nat}
 {is js:List Nat} {shs:List Sh} {obs:List (Nat×Ob)} {ρf:Env}
theorem WQ (hσ:Im.leR C.cap σ σ1){hvf:Nat→Value}(hvf_eq:∀i j,bk is js i=some j→hvf i=hv j){s x:Sh}(hr:qs S.ver is js s=some x){v:Value}{d:D}(h:CellOK C S ρ σ hv x v d):CellOK C (po shs obs) ρf σ1 hvf s v d:=by
 cases s<;>simp only[qs] at hr
 case none=>trivial
 case dat=>cases hr;exact hσ.rep h
 case obj i ver=>
  cases hb:Nat.beq ver 0<;>simp only[hb,cond_true,cond_false] at hr
  ·cases hr
  simp only[Option.map_eq_some_iff] at hr
  obtain⟨j,hj,rfl⟩:=hr
  exact⟨by rw[Nat.eq_of_beq_eq_true hb];exact Nat.zero_le _,fun _=>by rw[hvf_eq i j hj];exact h.2 rfl⟩
 case ptr i ver off=>
  cases hb:Nat.beq ver 0<;>simp only[hb,cond_true,cond_false] at hr
  ·cases hr
  simp only[Option.map_eq_some_iff] at hr
  obtain⟨j,hj,rfl⟩:=hr
  exact⟨by rw[Nat.eq_of_beq_eq_true hb];exact Nat.zero_le _,fun _=>by rw[hvf_eq i j hj];exact h.2 rfl⟩
 case fclo f caps=>
  simp only[Option.map_eq_some_iff] at hr
  obtain⟨c,hc,rfl⟩:=hr
  obtain⟨g1,g2⟩:=tS hc
  obtain⟨vs,h1,h2,h3⟩:=h
  refine⟨vs,h1,by omega,fun i x ver hi=>?_⟩
  obtain⟨j,e1,e2,e3⟩:=g2 i x ver hi
  exact⟨by rw[e3];exact Nat.zero_le _,fun _=>by rw[hvf_eq x j e2];exact(h3 i j _ e1).2 rfl⟩
 all_goals cases hr
theorem aan (hσ:σ.le σ1){hvf:Nat→Value}(hvf_eq:∀i j,bk is js i=some j→hvf i=hv1 j){s x:Sh}(hr:qs S1.ver is js s=some x){v:Value}{d:D}(h:CellOK C (po shs obs) ρf σ hvf s v d):CellOK C S1 ρ1 σ1 hv1 x v d:=by
 cases s<;>simp only[qs] at hr
 case none=>cases hr;trivial
 case dat=>cases hr;exact Rep.mono hσ h
 case obj i ver=>
  cases hb:Nat.beq ver 0<;>simp only[hb,cond_true,cond_false] at hr
  ·cases hr
  simp only[Option.map_eq_some_iff] at hr
  obtain⟨j,hj,rfl⟩:=hr
  exact⟨Nat.le_refl _,fun _=>by rw[←hvf_eq i j hj];exact h.2 (Nat.eq_of_beq_eq_true hb)⟩
 case ptr i ver off=>
  cases hb:Nat.beq ver 0<;>simp only[hb,cond_true,cond_false] at hr
  ·cases hr
  simp only[Option.map_eq_some_iff] at hr
  obtain⟨j,hj,rfl⟩:=hr
  exact⟨Nat.le_refl _,fun _=>by rw[←hvf_eq i j hj];exact h.2 (Nat.eq_of_beq_eq_true hb)⟩
 case fclo f caps=>
  simp only[Option.map_eq_some_iff] at hr
  obtain⟨c,hc,rfl⟩:=hr
  obtain⟨g1,g2⟩:=tS hc
  obtain⟨vs,h1,h2,h3⟩:=h
  refine⟨vs,h1,by omega,fun i j ver hi=>?_⟩
  have hlt:i<caps.length:=by have:=(List.getElem?_eq_some_iff.1 hi).1;omega
  obtain⟨j',e1,e2,e3⟩:=g2 i _ _ (List.getElem?_eq_getElem hlt)
  rw[hi] at e1;cases e1
  exact⟨Nat.le_refl _,fun _=>by rw[←hvf_eq _ j e2];exact(h3 i _ _ (List.getElem?_eq_getElem hlt)).2 e3⟩
 all_goals cases hr
theorem ac1 {c x:Sh}(hf:VC c x=true){v:Value}{d:D}(h:CellOK C S ρ σ hv c v d):CellOK C S ρ σ hv x v d:=by
 cases x with
 |none=>trivial
 |dat b=>
  simp only[VC] at hf
  split at hf
  ·exact Rep.sub h hf
  ·cases hf
 |_=>simp only[VC] at hf;rw[Sh.beq_eq _ _ hf] at h;exact h
theorem aeV (hσ:Im.leR C.cap σ σ1){hvf:Nat→Value}{ownf:Nat→Option Nat}(hvf_eq:∀i j,bk is js i=some j→hvf i=hv j)(hown:∀k j i,own k=some j→bk js is j=some i→ownf k=some i)(hnd:js.Nodup){i j N:Nat}(hij:bk is js i=some j)(hρ:ρf.o i=ρ.o j){ob x:Ob}
 (hr:yR S.ver is js ob=some x) (hf:Ti (S.o j) x=true) (h:ObjOK C S ρ σ own hv w N j (S.o j)):ObjOK C (po shs obs) ρf σ1 ownf hvf w N i ob:=by
 have hji:=xm hnd hij
 cases ob<;>simp only[yR] at hr
 case row T e=>
  cases hr
  cases ho:S.o j<;>rw[ho] at hf h<;>simp only[Ti,Bool.and_eq_true] at hf<;>try (cases hf;done)
  obtain⟨cells,xs,h1,h2,h3,h4⟩:=h
  rw[Nat.eq_of_beq_eq_true hf.1,Ty.beq_eq _ _ hf.2] at*
  exact⟨cells,xs,by rw[hρ];exact h1,by rw[hvf_eq i j hij];exact h2,h3.monoR hσ,fun k hk=>hown k j i (h4 k (by rw[←hvf_eq i j hij];exact hk)) hji⟩
 case mp kt et=>
  cases hr
  cases ho:S.o j<;>rw[ho] at hf h<;>simp only[Ti,Bool.and_eq_true] at hf<;>try (cases hf;done)
  obtain⟨k,arr,clock,es,h1,h2,h3,h4,h5,h6,h7⟩:=h
  rw[Ty.beq_eq _ _ hf.1,Ty.beq_eq _ _ hf.2] at*
  exact⟨k,arr,clock,es,by rw[hvf_eq i j hij];exact h1,hown k j i h2 hji,h3,by rw[hρ];exact h4,h5,h6,fun n e p he hp=>⟨hσ.rep (h7 n e p he hp).1,hσ.rep (h7 n e p he hp).2⟩⟩
 case box ag cs=>
  simp only[Option.map_eq_some_iff] at hr
  obtain⟨cs',hcs,rfl⟩:=hr
  cases ho:S.o j<;>rw[ho] at hf h<;>simp only[Ti,Bool.and_eq_true] at hf<;>try (cases hf;done)
  obtain⟨k,vs,T,ds,h1,h2,h3,h4,h5,h6,h7⟩:=h
  obtain⟨l1,g1⟩:=Pk hf.2
  obtain⟨l2,g2⟩:=DQ hcs
  refine⟨k,vs,T,ds,by rw[hvf_eq i j hij];exact h1,hown k j i h2 hji,h3,by omega,by rw[hρ];exact h5,by omega,fun n s hs=>?_⟩
  obtain⟨y,hy,hry⟩:=g2 n s hs
  obtain⟨z,hz,hfz⟩:=g1 n y hy
  exact⟨(y4 hry).1,WQ hσ hvf_eq hry (ac1 hfz (h7 n z hz).2)⟩
 all_goals cases hr
theorem adZ (hσ:σ.le σ1){hvf:Nat→Value}{ownf:Nat→Option Nat}(hvf_eq:∀i j,bk is js i=some j→hvf i=hv1 j)(hown:∀k i j,ownf k=some i→bk is js i=some j→own1 k=some j){i j N:Nat}(hij:bk is js i=some j)(hρ:ρ1.o j=ρf.o i){ob x:Ob}
 (hr:yR S1.ver is js ob=some x) (h:ObjOK C (po shs obs) ρf σ ownf hvf w N i ob):ObjOK C S1 ρ1 σ1 own1 hv1 w N j x:=by
 cases ob<;>simp only[yR] at hr
 case row T e=>
  cases hr
  obtain⟨cells,xs,h1,h2,h3,h4⟩:=h
  exact⟨cells,xs,by rw[hρ];exact h1,by rw[←hvf_eq i j hij];exact h2,h3.mono hσ,fun k hk=>hown k i j (h4 k (by rw[hvf_eq i j hij];exact hk)) hij⟩
 case mp kt et=>
  cases hr
  obtain⟨k,arr,clock,es,h1,h2,h3,h4,h5,h6,h7⟩:=h
  exact⟨k,arr,clock,es,by rw[←hvf_eq i j hij];exact h1,hown k i j h2 hij,h3,by rw[hρ];exact h4,h5,h6,fun n e p he hp=>⟨(h7 n e p he hp).1.mono hσ,(h7 n e p he hp).2.mono hσ⟩⟩
 case box ag cs=>
  simp only[Option.map_eq_some_iff] at hr
  obtain⟨cs',hcs,rfl⟩:=hr
  obtain⟨k,vs,T,ds,h1,h2,h3,h4,h5,h6,h7⟩:=h
  obtain⟨l2,g2⟩:=DQ hcs
  refine⟨k,vs,T,ds,by rw[←hvf_eq i j hij];exact h1,hown k i j h2 hij,h3,by omega,by rw[hρ];exact h5,by omega,fun n s hs=>?_⟩
  have hlt:n<cs.length:=by have:=(List.getElem?_eq_some_iff.1 hs).1;omega
  obtain⟨y,hy,hry⟩:=g2 n _ (List.getElem?_eq_getElem hlt)
  rw[hs] at hy;cases hy
  exact⟨(y4 hry).2,aan hσ hvf_eq hry (h7 n _ (List.getElem?_eq_getElem hlt)).2⟩
 all_goals cases hr
theorem acM {ver:Nat→Nat}{ob x:Ob}(hr:yR ver is js ob=some x):x≠.tr:=by
 cases ob<;>simp only[yR] at hr
 case row=>cases hr;intro e;cases e
 case mp=>cases hr;intro e;cases e
 case box=>
  simp only[Option.map_eq_some_iff] at hr
  obtain⟨_,_,rfl⟩:=hr
  intro e;cases e
 all_goals cases hr
theorem CtxOK.noM (h:CtxOK C σ):CtxOK C σ.noM:=⟨fun g x hx=>(h.glob g x hx).noM⟩
def abn (C:Ctx)(S:St)(ρ:Env)(σ:Im)(hv:Nat→Value)(x:pv)(v:Value)(d:D):Prop:=CellOK C S ρ σ hv x.1 v d∧∀y,x.2=some y→Rep C.cap σ y.1 v (y.2.ev ρ)
theorem KV:∀{acts:List pv} {shs:List Sh} {es:List PE},ud S is js acts shs=some es→acts.length=shs.length∧es.length=shs.length∧∀(t:Nat) (s:Sh),shs[t]?=some s→∃x e,acts[t]?=some x∧es[t]?=some e∧Oj S is js x s=some e
 |[],[],es,h=>by simp only[ud,Option.some.injEq] at h;subst h;exact⟨rfl,rfl,fun t s h=>by simp at h⟩
 |[],_::_,es,h=>by simp[ud] at h
 |_::_,[],es,h=>by simp[ud] at h
 |x::acts,s::shs,es,h=>by
  simp only[ud,Option.bind_eq_some_iff,Option.map_eq_some_iff] at h
  obtain⟨e,he,r,hr,rfl⟩:=h
  obtain⟨g1,g2,g3⟩:=KV hr
  refine⟨by simp[g1],by simp[g2],fun t s' hs=>?_⟩
  cases t with
  |zero=>simp at hs;subst hs;exact⟨x,e,rfl,rfl,he⟩
  |succ t=>simp at hs;simpa using g3 t s' hs
theorem aaV (hσ:Im.leR C.cap σ σ1){hvf:Nat→Value}(hvf_eq:∀i j,bk is js i=some j→hvf i=hv j){x:pv}{s:Sh}{e:PE}(hf:Oj S is js x s=some e){v:Value}{d:D}(h:abn C S ρ σ hv x v d):CellOK C (po shs obs) ρf σ1 hvf s v (e.ev ρ):=by
 have gen:∀s,(match qs S.ver is js s with|some y=>bif Sh.beq x.1 y then some (PE.con .none) else none|none=>none)=some e→ir s=false→CellOK C (po shs obs) ρf σ1 hvf s v (e.ev ρ):=by
  intro s hm hd
  split at hm
  ·rename_i y hy
   cases hb:Sh.beq x.1 y<;>simp only[hb,cond_true,cond_false] at hm
   ·cases hm
   have h1:=h.1
   rw[Sh.beq_eq _ _ hb] at h1
   have:=WQ (shs:=shs) (obs:=obs) (ρf:=ρf) hσ hvf_eq hy h1
   cases s with
   |dat t=>cases hd
   |opt gs s'=>exact absurd rfl ((y4 hy).1 gs s')
   |eptr j ver size off=>simp[qs] at hy
   |_=>exact this
  ·cases hm
 unfold Oj at hf
 split at hf
 ·rename_i t
  split at hf
  ·rename_i y hy
   cases hb:Ty.sub y.1 t<;>simp only[hb,cond_true,cond_false] at hf
   ·cases hf
   cases hf
   exact hσ.rep ((h.2 y hy).sub hb)
  ·cases hf
 ·trivial
 ·rename_i hn1 hn2
  refine gen _ hf ?_
  cases s<;>first|rfl|exact absurd rfl (hn1 _)
theorem aaE {hvf hvf':Nat→Value}{σ σ':Im}{ρf ρf':Env}{args:Nat→Value}{ds ds':Nat→D}(h1:∀(t:Nat) (s:Sh),shs[t]?=some s→CellOK C (po shs obs) ρf σ hvf s (args t) (ds t))(h2:∀(t:Nat) (s:Sh),shs[t]?=some s→ir s=false→CellOK C (po shs obs) ρf' σ' hvf' s (args t) (ds' t))
 (hz:∀s,s∈shs→∃x,qs S.ver is js s=some x) {i:Nat} (hi:i∈mC shs):hvf' i=hvf i:=by
 have key:∀(l:List Sh),(∀s,s∈l→∃t:Nat,shs[t]?=some s)→i∈mC l→hvf' i=hvf i:=by
  intro l
  induction l with
  |nil=>intro _ h;cases h
  |cons s l ih=>
   intro hl hi
   obtain⟨t,ht⟩:=hl s (List.mem_cons_self ..)
   have hl':∀s,s∈l→∃t:Nat,shs[t]?=some s:=fun s hs=>hl s (List.mem_cons_of_mem _ hs)
   obtain⟨x,hx⟩:=hz s (List.mem_of_getElem? ht)
   have a1:=h1 t s ht
   have a2:=h2 t s ht
   cases s<;>simp only[mC] at hi
   case obj j ver=>
        simp only[qs] at hx
        cases hb:Nat.beq ver 0<;>simp only[hb,cond_true,cond_false] at hx
        ·cases hx
        rcases List.mem_cons.1 hi with e|e
        ·subst e
         rw[←(a1.2 (Nat.eq_of_beq_eq_true hb)),←((a2 rfl).2 (Nat.eq_of_beq_eq_true hb))]
        ·exact ih hl' e
   case ptr j ver off=>
        simp only[qs] at hx
        cases hb:Nat.beq ver 0<;>simp only[hb,cond_true,cond_false] at hx
        ·cases hx
        rcases List.mem_cons.1 hi with e|e
        ·subst e
         obtain⟨k1,e1,e2⟩:=a1.2 (Nat.eq_of_beq_eq_true hb)
         obtain⟨k2,e3,e4⟩:=(a2 rfl).2 (Nat.eq_of_beq_eq_true hb)
         rw[e2] at e4;cases e4
         rw[e1,e3]
        ·exact ih hl' e
   case fclo f caps=>
        simp only[qs,Option.map_eq_some_iff] at hx
        obtain⟨c,hc,_⟩:=hx
        obtain⟨_,g2⟩:=tS hc
        rcases List.mem_append.1 hi with e|e
        ·obtain⟨y,hy,e1⟩:=List.mem_map.1 e
         subst e1
         obtain⟨m,hm⟩:=List.getElem?_of_mem hy
         obtain⟨vs,b1,b2,b3⟩:=a1
         obtain⟨vs',c1,c2,c3⟩:=a2 rfl
         rw[b1] at c1
         have hvs:vs=vs':=by simpa using c1
         subst hvs
         obtain⟨_,_,_,hz0⟩:=g2 m y.1 y.2 hm
         rw[←(b3 m y.1 y.2 hm).2 hz0,←(c3 m y.1 y.2 hm).2 hz0]
        ·exact ih hl' e
   all_goals exact ih hl' hi
 exact key shs (fun s hs=>List.getElem?_of_mem hs) hi
end
section
variable {C:Ctx} {S:St} {ρ:Env} {σ:Im} {own:Nat→Option Nat} {hv:Nat→Value} {w0:World} {σ0:Base} {A:Nat→Prop} {a:Act} {w:World} {Φ:aK} {dst:Nat}
 {is js:List Nat} {shs:List Sh} {obs:List (Nat×Ob)}
theorem Below.weak {B:Nat}{w w':World}(h:Below 0 w w')(hk:∀k,k<B→w'.heap[k]?=w.heap[k]?):Below B w w':=⟨h.os,h.tape,h.output,h.size,hk⟩
def xU (js is:List Nat)(own:Nat→Option Nat):Nat→Option Nat:=fun k=>(own k).bind (bk js is)
def Ow (js is:List Nat)(own own':Nat→Option Nat):Nat→Option Nat:=fun k=>
 match own' k with
 |some i=>bk is js i
 |none=>match own k with|some j=>(match bk js is j with|some _=>none|none=>some j)|none=>none
theorem handed (h:Inv C S ρ σ own hv w0 σ0 A a w)(hC:CtxOK C σ0)(hplain:Gb shs obs=true)(his:is=obs.map (·.1))(hnd1:is.Nodup)(hnd2:js.Nodup)(hfit:vi S is js obs js=true){acts:List pv}{es:List PE}(hes:ud S is js acts shs=some es)
 (hdead:S.o scr=.dead) (hscr:scr∉js) {vals:List Value} (hvl:vals.length=acts.length) (hact:∀(t:Nat) (x:pv),acts[t]?=some x→∃d,abn C S ρ σ hv x (vals.getD t undef) d) {f:Nat} {res:Ty} {d:D}
 (hfn:FnObOK C f shs obs res (es.map (PE.ev ρ)++js.map ρ.o) d):
 Calls C.P f vals.toArray w fun e w'=>∃v dr os,e=.returned v∧d=.tup (dr::os)∧os.length=js.length∧
  ∀ρ':Env,ρ'.r=ρ.r→(∀(k j:Nat),js[k]?=some j→ρ'.o j=os.getD k .none)→(∀j,j∉js→j≠scr→ρ'.o j=ρ.o j)→
   ∃σ1 own1 hv1,Inv C (S.handed shs obs is js) ρ' σ1 own1 hv1 w0 σ0 A a w'∧Rep C.cap σ1 res v dr:=by
 obtain⟨al1,al2,hargs⟩:=KV hes
 have hjl:=Oa hfit
 have hsize:w0.heap.size≤w.heap.size:=h.below.size
 obtain⟨tr,fx,cx,hf,htr⟩:=h.frame
 let hvf:Nat→Value:=fun i=>match bk is js i with|some j=>hv j|none=>undef
 have hvf_eq:∀i j,bk is js i=some j→hvf i=hv j:=fun i j e=>by simp only[hvf,e]
 have hleR:Im.leR C.cap σ σ.noM:=⟨Rep.noM,fun _ _ _ e=>e⟩
 have hnoM:∀k x,σ.noM.m k=some x→σ.m k=some x∧x≠fi:=by
  intro k x e
  by_cases hd:σ.m k=some fi
  ·simp[Im.noM,hd] at e
  ·simp only[Im.noM,if_neg hd] at e
   exact⟨e,fun e2=>hd (by rw[e,e2])⟩
 have hds:(es.map (PE.ev ρ)++js.map ρ.o).drop shs.length=js.map ρ.o:=by rw[List.drop_append];simp[al2]
 have hgetd:∀t e,es[t]?=some e→(es.map (PE.ev ρ)++js.map ρ.o).getD t .none=e.ev ρ:=fun t e he=>by
  have hlt:=(List.getElem?_eq_some_iff.1 he).1
  rw[List.getD_eq_getElem?_getD,List.getElem?_append_left (by simpa using hlt),List.getElem?_map,he];rfl
 have hren:∀s,s∈shs→∃x,qs S.ver is js s=some x:=by
  intro s hs
  obtain⟨t,ht⟩:=List.getElem?_of_mem hs
  obtain⟨x,e,_,_,he⟩:=hargs t s ht
  unfold Oj at he
  split at he
  ·exact⟨_,rfl⟩
  ·exact⟨_,rfl⟩
  ·split at he
   ·rename_i y hy;exact⟨y,hy⟩
   ·cases he
 have hin1:∀t,CellOK C (po shs obs) (tJ obs (es.map (PE.ev ρ)++js.map ρ.o) ((es.map (PE.ev ρ)++js.map ρ.o).drop shs.length)) σ.noM hvf (shs.getD t .none) (vals.toArray.getD t undef) ((es.map (PE.ev ρ)++js.map ρ.o).getD t .none):=by
  intro t
  cases hs:shs[t]? with
  |none=>rw[List.getD_eq_getElem?_getD,hs];trivial
  |some s=>
   obtain⟨x,e,hx,he,hfa⟩:=hargs t s hs
   obtain⟨d',hact'⟩:=hact t x hx
   rw[List.getD_eq_getElem?_getD (l:=shs),hs,hgetd t e he]
   have e1:vals.toArray.getD t undef=vals.getD t undef:=by simp[Array.getD_eq_getD_getElem?,List.getD_eq_getElem?_getD]
   rw[e1]
   exact aaV hleR hvf_eq hfa hact'
 have hin2:∀i,ObjOK C (po shs obs) (tJ obs (es.map (PE.ev ρ)++js.map ρ.o) ((es.map (PE.ev ρ)++js.map ρ.o).drop shs.length)) σ.noM (xU js is own) hvf w w0.heap.size i (bz obs i):=by
  intro i
  cases hij:bk is js i with
  |none=>subst his;rw[JQ hjl hij];trivial
  |some j=>
   subst his
   obtain⟨x,hx,hfx⟩:=OE hfit hij
   refine aeV hleR hvf_eq (fun k j' i' hk hl=>by simp only[xU,hk,Option.bind_some,hl]) hnd2 hij ?_ hx hfx (h.objs j)
   show nf obs _ i=_
   rw[hds]
   exact Zb obs ρ.o rfl hij
 have hcall:=hfn w0.heap.size σ.noM (xU js is own) hvf w vals.toArray (fun k=>(∃j,own k=some j∧bk js is j=none)∨σ.m k=some fi∨(cx k)) hplain ⟨h.ok.c,fun k x e=>h.ok.m k x (hnoM k x e).1⟩ ((hC.mono h.le).noM)
  (fun k e=>(hnoM k _ e).2 rfl) hsize (by simp;omega) (fun k i hk=>by
    simp only[xU,Option.bind_eq_some_iff] at hk
    obtain⟨j,hj,_⟩:=hk
    obtain⟨g1,g2,g3,g4⟩:=h.owns k j hj
    exact⟨g1,g2,g3,by by_cases e:σ.m k=some fi<;>simp[Im.noM,e,g4]⟩) (fun k hk=>by
    rcases hk with⟨j,hj,hn⟩|hk|hk
    ·obtain⟨g1,g2,g3,g4⟩:=h.owns k j hj
     exact⟨g2,by simp[xU,hj,hn],g3,by by_cases e:σ.m k=some fi<;>simp[Im.noM,e,g4]⟩
    ·have hmp:=h.ok.m k _ hk
     have hn:own k=none:=by
      cases e:own k with
      |none=>rfl
      |some j=>rw[(h.owns k j e).2.2.2] at hk;cases hk
     refine⟨hmp.lt,by simp[xU,hn],fun o=>?_,by simp[Im.noM,hk]⟩
     cases e:σ.c k o with
     |none=>exact e
     |some x=>
      have c1:=h.ok.c k o x e
      rcases hmp with⟨m1,_⟩|⟨_,m2⟩
      ·exact absurd rfl m1
      ·simp[World.cell?,m2] at c1
    ·have hfk:=σ0.sub _ _ _ _ hf.F k hk
     have hn:own k=none:=by
      cases e:own k with
      |none=>rfl
      |some j=>exact absurd hfk (hf.own k j e)
     refine⟨σ0.lt _ _ _ _ hf.F k hfk,by simp[xU,hn],fun o=>?_,?_⟩
     ·cases e:σ.c k o with
      |none=>exact e
      |some x=>exact absurd hk (hf.c k o x e)
     ·cases e:σ.m k with
      |none=>simp[Im.noM,e]
      |some x=>exact absurd hk (hf.m k x e)) hin1 hin2
 refine hcall.mono fun e w' hh=>?_
 obtain⟨v,σ',own',hv',dr,os,rfl,hd,hol,hle,hok,hb,hsame,hnc,hnm,hmk,howns,hkeep,hobjs,hres⟩:=hh
 refine⟨v,dr,os,rfl,hd,by omega,fun ρ' hr1 hr2 hr3=>?_⟩
 have hnown:∀k,k<w.heap.size→own k=none→w'.heap[k]?=w.heap[k]?:=fun k hk hn=>hsame k hk (by simp[xU,hn])
 have hoth:∀k j,own k=some j→bk js is j=none→w'.heap[k]?=w.heap[k]?:=fun k j hk hn=>hsame k (h.owns k j hk).2.1 (by simp[xU,hk,hn])
 have hcown:∀k o x,σ.c k o=some x→own k=none:=fun k o x e=>by
  cases e1:own k with
  |none=>rfl
  |some j=>rw[(h.owns k j e1).2.2.1 o] at e;cases e
 have hmown:∀k x,σ.m k=some x→own k=none:=fun k x e=>by
  cases e1:own k with
  |none=>rfl
  |some j=>rw[(h.owns k j e1).2.2.2] at e;cases e
 have hok0:σ.ok w':=⟨fun k o x e=>by rw[World.cell?_of_block (hnown k (h.lt e) (hcown k o x e))];exact h.ok.c k o x e,fun k x e=>(h.ok.m k x e).keep (hnown k (h.ltm e) (hmown k x e))⟩
 have hle1:σ.le (σ'.plus σ):=Im.plus_le2 hok hok0
 have hle2:σ'.le (σ'.plus σ):=Im.plus_le1 σ' σ
 have hcs:∀k o x,(σ'.plus σ).c k o=some x→σ'.c k o=some x:=fun k o x e=>(Im.plus_c e).elim id (fun e=>hle.c k o x e)
 have hms:∀k x,(σ'.plus σ).m k=some x→σ'.m k=some x∨(σ.m k=some x∧x=fi):=fun k x e=>(Im.plus_m e).elim .inl (fun e=>by
  by_cases hd:x=fi
  ·exact .inr ⟨e,hd⟩
  ·refine .inl (hle.m k x ?_)
   have:σ.m k≠some fi:=fun e2=>hd (by rw[e] at e2;cases e2;rfl)
   simp only[Im.noM,if_neg this,e])
 let hv1:Nat→Value:=fun j=>match bk js is j with|some i=>hv' i|none=>hv j
 have hv1_eq:∀i j,bk is js i=some j→hv' i=hv1 j:=fun i j e=>by simp only[hv1,xm hnd2 e]
 have hdir:∀i,i∈mC shs→hv' i=hvf i:=fun i hi=>aaE (S:=S) (is:=is) (js:=js) (args:=fun t=>vals.toArray.getD t undef) (ds:=fun t=>(es.map (PE.ev ρ)++js.map ρ.o).getD t .none) (ds':=fun t=>(es.map (PE.ev ρ)++js.map ρ.o).getD t .none) (fun t s hs=>by
  have:=hin1 t
  rw[List.getD_eq_getElem?_getD (l:=shs),hs] at this
  exact this) (fun t s hs hd=>hkeep t s hs hd) hren hi
 have hcompat:Compat S hv (S.handed shs obs is js) hv1:=by
  refine⟨fun j=>?_,fun j e=>?_⟩
  ·show S.ver j≤WJ S.ver shs is js j
   unfold WJ
   split
   ·cases inB (mC shs) _<;>simp
   ·exact Nat.le_refl _
  ·change WJ S.ver shs is js j=S.ver j at e
   show hv1 j=hv j
   simp only[hv1]
   unfold WJ at e
   split at e
   ·rename_i i hi
    cases hb:inB (mC shs) i<;>rw[hb] at e
    ·simp at e
    ·try simp only[hi]
     rw[hdir i (inB_eq.1 hb),hvf_eq i j (xm hnd1 hi)]
   ·rename_i hi;try simp only[hi]
 have hfree:∀k j,Ow js is own own' k=some j→(k<w.heap.size→own k≠none)∧w0.heap.size≤k∧k<w'.heap.size∧(∀o,σ'.c k o=none)∧σ'.m k=none∧σ.m k≠some fi:=by
  intro k j hk
  simp only[Ow] at hk
  split at hk
  ·rename_i i hi
   obtain⟨g1,g2,g3,g4,g5⟩:=howns k i hi
   have g6:k<w.heap.size→own k≠none:=fun hlt e=>g5 hlt (by simp[xU,e])
   refine⟨g6,g1,g2,g3,g4,fun e=>?_⟩
   exact g6 (h.ltm e) (hmown k _ e)
  ·split at hk
   ·rename_i j' hj'
    split at hk
    ·cases hk
    ·rename_i hn
     obtain⟨g1,g2,g3,g4⟩:=h.owns k j' hj'
     have hcx:(∃j,own k=some j∧bk js is j=none)∨σ.m k=some fi∨(cx k):=.inl ⟨j',hj',hn⟩
     refine⟨fun _ e=>(by rw[hj'] at e;cases e),g1,Nat.lt_of_lt_of_le g2 hb.size,fun o=>?_,?_,fun e=>?_⟩
     ·cases e:σ'.c k o with
      |none=>rfl
      |some x=>exact absurd hcx (hnc k o x e).2
     ·cases e:σ'.m k with
      |none=>rfl
      |some x=>exact absurd hcx (hnm k x e).2
     ·rw[g4] at e;cases e
   ·cases hk
 refine⟨σ'.plus σ,Ow js is own own',hv1,⟨h.defers.mono hle1,Im.plus_ok hok hok0,h.le.trans hle1,h.old,fun k o x e=>?_,fun k x e=>?_,h.below.trans (Below.weak hb fun k hk=>?_),h.bw,fun k j hk=>?_,fun t=>?_,fun j=>?_,h.opts,?_⟩,hres.mono hle2⟩
 ·rcases(hnc k o x (hcs k o x e)).1 with e1|e1
  ·exact h.newc k o x e1
  ·exact .inr e1
 ·rcases hms k x e with e1|e1
  ·rcases(hnm k x e1).1 with e2|e2
   ·exact h.newm k x (hnoM k x e2).1
   ·exact .inr e2
  ·exact h.newm k x e1.1
 ·have hk2:k<w0.heap.size:=Nat.lt_of_lt_of_le hk h.bw
  refine hnown k (by omega) ?_
  cases e:own k with
  |none=>rfl
  |some j=>have:=(h.owns k j e).1;omega
 ·obtain⟨_,g1,g2,g3,g4,g5⟩:=hfree k j hk
  refine⟨g1,g2,fun o=>?_,?_⟩
  ·cases e:(σ'.plus σ).c k o with
   |none=>rfl
   |some x=>have:=hcs k o x e;rw[g3 o] at this;cases this
  ·cases e:(σ'.plus σ).m k with
   |none=>rfl
   |some x=>
    rcases hms k x e with e1|e1
    ·rw[g4] at e1;cases e1
    ·exact absurd (by rw[e1.1,e1.2]) g5
 ·show CellOK C _ ρ' _ hv1 (S.r t) _ (ρ'.r t)
  rw[hr1]
  exact CellOK.mono hle1 hcompat (fun gs s e=>by
   unfold holds;rw[hr1]) (fun gs s e=>(h.opts t gs s e).2) (h.regs t)
 ·show ObjOK C _ ρ' _ _ hv1 w' _ j (match bk js is j with|some i=>(match yR (WJ S.ver shs is js) is js (bz obs i) with|some o=>o|none=>.dead)|none=>S.o j)
  split
  ·rename_i i hi
   have hij:=xm hnd1 hi
   split
   ·rename_i x hx
    refine adZ (S1:=S.handed shs obs is js) hle2 hv1_eq (fun k i' j' hk hl=>by simp only[Ow,hk,hl]) hij ?_ hx (hobjs i)
    subst his
    obtain⟨k,hk1,hk2⟩:=Td (os:=os) hol hij
    show ρ'.o j=nf obs os i
    rw[hk2]
    exact hr2 k j hk1
   ·trivial
  ·rename_i hn
   have hnj:j∉js:=fun hm=>by
        obtain⟨k,hk⟩:=List.getElem?_of_mem hm
        have hlt:k<is.length:=by
         have:=(List.getElem?_eq_some_iff.1 hk).1
         rw[his,List.length_map];omega
        have:=F6 hnd2 hk (List.getElem?_eq_getElem hlt)
        rw[hn] at this;cases this
   by_cases hjs:j=scr
   ·subst hjs;rw[hdead];trivial
   ·refine(h.objs j).mono hle1 hcompat (by show hv1 j=hv j;simp only[hv1,hn]) (hr3 j hnj hjs) (fun k hk=>⟨?_,hoth k j hk hn⟩)
    have:own' k=none:=by
     cases e:own' k with
     |none=>rfl
     |some i=>exact absurd (by simp[xU,hk,hn]) ((howns k i e).2.2.2.2 (h.owns k j hk).2.1)
    simp only[Ow,this,hk,hn]
 ·refine⟨tr,fx,cx,⟨σ0.keep _ _ _ _ _ hf.F hb fun k hk=>?_,fun k j hk hfk=>?_,fun k o x e hc=>?_,fun k x e hc=>?_,fun k e hB hk=>?_⟩,fun j hj=>?_⟩
  ·refine hnown k (σ0.lt _ _ _ _ hf.F k hk) ?_
   cases e:own k with
   |none=>rfl
   |some j=>exact absurd hk (hf.own k j e)
  ·have hlt:=σ0.lt _ _ _ _ hf.F k hfk
   have:=(hfree k j hk).1 hlt
   cases e:own k with
   |none=>exact this e
   |some j'=>exact hf.own k j' e hfk
  ·exact(hnc k o x (hcs k o x e)).2 (.inr (.inr hc))
  ·rcases hms k x e with e1|e1
   ·exact(hnm k x e1).2 (.inr (.inr hc))
   ·exact hf.m k x e1.1 hc
  ·rcases hms k _ e with e1|e1
   ·have hlt:=σ0.lt _ _ _ _ hf.F k hk
    refine hmk k e1 hB hlt ?_
    have:own k=none:=by
     cases e:own k with
     |none=>rfl
     |some j=>exact absurd hk (hf.own k j e)
    simp[xU,this]
   ·exact hf.d k e1.1 hB hk
  ·change (match bk js is j with|some i=>(match yR (WJ S.ver shs is js) is js (bz obs i) with|some o=>o|none=>.dead)|none=>S.o j)=.tr at hj
   split at hj
   ·rename_i i hi
    split at hj
    ·rename_i x hx;exact absurd hj (acM hx)
    ·cases hj
   ·rename_i hn
    have hnj:j∉js:=fun hm=>by
     obtain⟨k,hk⟩:=List.getElem?_of_mem hm
     have hlt:k<is.length:=by
         have:=(List.getElem?_eq_some_iff.1 hk).1
         rw[his,List.length_map];omega
     have:=F6 hnd2 hk (List.getElem?_eq_getElem hlt)
     rw[hn] at this;cases this
    have hjs:j≠scr:=fun e=>by subst e;rw[hdead] at hj;cases hj
    rw[hr3 j hnj hjs];exact htr j hj
theorem Sk:∀(js:List Nat) (k:Nat) {ρ ρ':Env} {l:List D},PI.runs Φ (Wo js k) ρ=some ρ'→ρ.o scr=.tup l→scr∉js→js.Nodup→
 ρ'.r=ρ.r∧(∀(i j:Nat),js[i]?=some j→ρ'.o j=l.getD (k+i) .none)∧∀j,j∉js→ρ'.o j=ρ.o j
 |[],k,ρ,ρ',l,h,hs,hn,hd=>by
  simp only[Wo,PI.runs,Option.some.injEq] at h;subst h
  exact⟨rfl,fun i j e=>by simp at e,fun _ _=>rfl⟩
 |x::js,k,ρ,ρ',l,h,hs,hn,hd=>by
  simp only[Wo,PI.runs,PI.run,Option.bind_some,PE.ev,hs,D.tget] at h
  simp only[List.mem_cons,not_or] at hn
  have hd':=List.nodup_cons.1 hd
  obtain⟨g1,g2,g3⟩:=Sk js (k+1) h (by simp only[Env.setO];rw[aC _ _ hn.1];exact hs) hn.2 hd'.2
  refine⟨g1,fun i j e=>?_,fun j hj=>?_⟩
  ·cases i with
   |zero=>simp at e;subst e;rw[g3 _ hd'.1];simp[Env.setO,ao]
   |succ i=>simp at e;rw[g2 i j e];congr 1;omega
  ·simp only[List.mem_cons,not_or] at hj
   rw[g3 j hj.2];simp only[Env.setO];exact aC _ _ hj.1
theorem U6 (h:Inv C S ρ σ own hv w0 σ0 A a w)(hC:CtxOK C σ0)(x:Operand):∃d,abn C S ρ σ hv (Hd C S x) (a.eval x) d:=by
 cases x with
 |tmp t=>
  refine⟨ρ.r t,?_,fun y hy=>ax (gs:=[]) h hC rfl hy⟩
  have:=(dH (gs:=[]) h rfl t).1
  simpa [Act.eval,Hd,shX] using this
 |_=>exact⟨.none,trivial,fun y hy=>ax (gs:=[]) h hC rfl hy⟩
theorem FT (h:Inv C S ρ σ own hv w0 σ0 A a w)(hC:CtxOK C σ0)(hΦ:FunsOK C Φ){f:Nat}{args:List Operand}{caps:List (Nat×Nat)}{vs:List Value}(hvs:vs.length=caps.length)
 (hcap:∀(i j ver:Nat),caps[i]?=some (j,ver)→ver≤S.ver j∧(ver=S.ver j→vs.getD i undef=hv j)) (hbox:∀(i j ver:Nat),caps[i]?=some (j,ver)→ver=S.ver j→∃k,hv j=.pointer (some ⟨k,0,none⟩)) {r:St×Ty×List PI} (hr:nX C S f args caps=some r)
 {ρ1:Env} (hrun:PI.runs Φ r.2.2 ρ=some ρ1):
 Calls C.P f (args.map a.eval++vs).toArray w fun e w'=>∃v σ1 own1 hv1,e=.returned v∧Inv C r.1 ρ1 σ1 own1 hv1 w0 σ0 A a w'∧Rep C.cap σ1 r.2.1 v ((ρ1.o scr).tget 0):=by
 simp only[nX,Option.bind_eq_some_iff] at hr
 obtain⟨s,hs,hr⟩:=hr
 split at hr
 case h_2=>cases hr
 rename_i shs obs hmode
 obtain⟨σ2,own2,hle2,h2⟩:=Inv.fzs (Sn S args shs) h
 have hver:=(ot (Sn S args shs) S).1
 generalize S.fzs (Sn S args shs)=S2 at hr h2 hver
 unfold Nj Np at hr
 generalize abM S2 shs obs (args.map (Hd C S2)++caps.map SK)=js at hr
 simp only[Option.bind_eq_some_iff] at hr
 obtain⟨es,hes,hr⟩:=hr
 cases hb:(Gb shs obs&&(gi (obs.map (·.1))&&gi js&&vi S2 (obs.map (·.1)) js obs js&&pM (S2.o scr)&& !inB js scr))<;>simp only[hb,cond_true,cond_false] at hr
 ·cases hr
 cases hr
 simp only[Bool.and_eq_true,Bool.not_eq_true'] at hb
 obtain⟨b0,⟨⟨⟨b1,b2⟩,b3⟩,b4⟩,b5⟩:=hb
 have hn1:=aZ b1
 have hn2:=aZ b2
 have hdead:S2.o scr=.dead:=by
  cases e:S2.o scr<;>rw[e] at b4<;>first|rfl|cases b4
 have hscr:scr∉js:=fun hm=>by rw[inB_eq.2 hm] at b5;cases b5
 simp only[PI.runs,PI.run,Option.bind_eq_some_iff,Option.map_eq_some_iff] at hrun
 obtain⟨ρ2,⟨d,hd,rfl⟩,hrun⟩:=hrun
 rw[PE.evs_eq,List.map_append,List.map_map] at hd
 have e1:js.map (PE.ev ρ∘PE.o)=js.map ρ.o:=rfl
 rw[e1] at hd
 have hfn:=(hΦ f _ d hd s hs).2 shs obs hmode
 have hcall:=handed h2 hC b0 rfl hn1 hn2 b3 hes hdead hscr (vals:=args.map a.eval++vs) (by simp[hvs]) (fun t x hx=>by
  rw[List.getElem?_append] at hx
  split at hx
  ·rename_i hlt
   rw[List.length_map] at hlt
   rw[List.getElem?_map,List.getElem?_eq_getElem hlt] at hx
   cases hx
   have:(args.map a.eval++vs).getD t undef=a.eval args[t]:=by
        rw[List.getD_eq_getElem?_getD,List.getElem?_append_left (by simpa using hlt),List.getElem?_map,List.getElem?_eq_getElem hlt];rfl
   rw[this]
   exact U6 h2 hC _
  ·rename_i hge
   rw[List.length_map] at hge hx
   rw[List.getElem?_map,Option.map_eq_some_iff] at hx
   obtain⟨c,hc,rfl⟩:=hx
   obtain⟨j,ver⟩:=c
   have hval:(args.map a.eval++vs).getD t undef=vs.getD (t-args.length) undef:=by
        rw[List.getD_eq_getElem?_getD,List.getElem?_append_right (by simpa using hge),List.length_map,List.getD_eq_getElem?_getD]
   obtain⟨g1,g2⟩:=hcap _ j ver hc
   refine⟨.none,⟨by rw[hver];exact g1,fun e=>?_⟩,fun y hy=>by cases hy⟩
   rw[hver] at e
   obtain⟨k,hk⟩:=hbox _ j ver hc e
   exact⟨k,hk,by rw[hval,g2 e,hk]⟩) (hfn:=hfn)
 refine hcall.mono fun e w' hh=>?_
 obtain⟨v,dr,os,rfl,rfl,hol,hfin⟩:=hh
 obtain⟨g1,g2,g3⟩:=Sk js 1 (l:=dr::os) hrun (by simp[Env.setO,ao]) hscr hn2
 obtain⟨σ1,own1,hv1,hinv,hrep⟩:=hfin ρ1 g1 (fun k j hk=>by
  have:=g2 k j hk
  rw[Nat.add_comm] at this
  simpa using this) (fun j hj hne=>by rw[g3 j hj];simp only[Env.setO];exact aC _ _ hne)
 refine⟨v,σ1,own1,hv1,rfl,hinv,?_⟩
 rw[g3 scr hscr]
 simpa [Env.setO,ao,D.tget] using hrep
def y7 (S:St)(dst:Option Nat)(r:St×Ty×List PI):St×List PI:=
 match dst with
 |some d=>(r.1.setR d (.dat r.2.1),r.2.2++[.setR d (.tget (.o scr) 0)])
 |none=>(r.1,r.2.2)
theorem abX {a b:List PI}{ρ:Env}:PI.runs Φ (a++b) ρ=(PI.runs Φ a ρ).bind (PI.runs Φ b):=by
 induction a generalizing ρ with
 |nil=>simp[PI.runs]
 |cons x a ih=>
  simp only[List.cons_append,PI.runs]
  cases x.run Φ ρ with
  |none=>rfl
  |some ρ1=>simp[ih]
theorem Qn {o:Oper}{f:Nat}{vals:List Value}(ht:∀d,o.dst=some d→¬A d∧d<a.tmps.size){r:St×Ty×List PI}(hx:(execOp a.eval o).run C.P w=.ok (.enter f vals.toArray) w)
 (hc:∀ρ1,PI.runs Φ r.2.2 ρ=some ρ1→Calls C.P f vals.toArray w fun e w'=>∃v σ1 own1 hv1,e=.returned v∧Inv C r.1 ρ1 σ1 own1 hv1 w0 σ0 A a w'∧Rep C.cap σ1 r.2.1 v ((ρ1.o scr).tget 0)):EOK C w0 σ0 Φ S ρ A a w o (y7 S o.dst r):=by
 intro ρ' hrun K Q hK
 simp only[Oper.wp,hx,Oper.upon]
 cases hd:o.dst with
 |none=>
  rw[hd] at hrun hK
  refine(hc ρ' hrun).mono fun e w' hh=>?_
  obtain⟨v,σ1,own1,hv1,rfl,hinv,hrep⟩:=hh
  refine hK _ _ ⟨σ1,own1,hv1,?_⟩ rfl
  have:(fun u=>A u∨(none:Option Nat)=some u)=A:=by funext u;simp
  rw[this];exact hinv
 |some d=>
  rw[hd] at hrun hK
  obtain⟨t1,t2⟩:=ht d hd
  simp only[y7,abX,Option.bind_eq_some_iff] at hrun
  obtain⟨ρ1,h1,h2⟩:=hrun
  simp[PI.runs,PI.run,PE.ev] at h2
  subst h2
  refine(hc ρ1 h1).mono fun e w' hh=>?_
  obtain⟨v,σ1,own1,hv1,rfl,hinv,hrep⟩:=hh
  refine hK _ _ ⟨σ1,own1,hv1,?_⟩ (size_put _ _ _)
  have:(fun u=>A u∨some d=some u)=(fun u=>A u∨u=d):=by funext u;simp[eq_comm]
  rw[this]
  exact hinv.setReg t1 (s:=.dat r.2.1) hrep t2 (fun _ _ e=>by cases e)
theorem CG (h:Inv C S ρ σ own hv w0 σ0 A a w)(hC:CtxOK C σ0)(hcl:ClosOK C)(hΦ:FunsOK C Φ){f:Nat}{args:Array Operand}{ts:Array TypeId}{r:St×Ty×List PI}{o:Oper}(ht:∀d,o.dst=some d→¬A d∧d<a.tmps.size)
 (hr:nX C S f args.toList []=some r) (ho:o.op=.call {callee:=.value (.func f),args:=args,argTypes:=ts}):EOK C w0 σ0 Φ S ρ A a w o (y7 S o.dst r):=by
 have hs:∃s,C.sig f=some s:=by
  simp only[nX,Option.bind_eq_some_iff] at hr
  obtain⟨s,hs,_⟩:=hr
  exact⟨s,hs⟩
 obtain⟨s,hs⟩:=hs
 have hx:=Jp (a:=a) (w:=w) hcl hs ho
 have hvals:args.map a.eval=(args.toList.map a.eval++[]).toArray:=by apply Array.ext';simp
 rw[hvals] at hx
 exact Qn ht hx fun ρ1 hrun=>FT h hC hΦ (vs:=[]) rfl (fun i j ver e=>by simp at e) (fun i j ver e=>by simp at e) hr hrun
def HD (S:St):List (Nat×Nat)→Bool
 |[]=>true
 |c::l=>Nat.beq c.2 (S.ver c.1)&&(match S.o c.1 with|.box ..=>true|_=>false)&&HD S l
theorem Om (h:Inv C S ρ σ own hv w0 σ0 A a w):∀{l:List (Nat×Nat)},HD S l=true→∀(i j ver:Nat),l[i]?=some (j,ver)→ver=S.ver j∧∃k,hv j=.pointer (some ⟨k,0,none⟩)
 |[],_,i,j,ver,e=>by simp at e
 |c::l,hl,i,j,ver,e=>by
  simp only[HD,Bool.and_eq_true] at hl
  cases i with
  |zero=>
   simp at e;subst e
   refine⟨Nat.eq_of_beq_eq_true hl.1.1,?_⟩
   have h1:=hl.1.2
   have h2:=h.objs j
   split at h1
   ·rename_i ag shs eo
    simp only at eo
    rw[eo] at h2
    obtain⟨k,cs,T,ds,g1,_⟩:=h2
    exact⟨k,g1⟩
   ·cases h1
  |succ i=>simp at e;exact Om h hl.2 i j ver e
def vC (C:Ctx)(S:St)(t:Nat)(args:List Operand):Option (St×Ty×List PI):=
 match shR S [] t with
 |.fclo f caps=>bif HD S caps then nX C S f args caps else none
 |_=>none
theorem zr (h:Inv C S ρ σ own hv w0 σ0 A a w)(hC:CtxOK C σ0)(hcl:ClosOK C)(hΦ:FunsOK C Φ){t:Nat}{args:Array Operand}{ts:Array TypeId}{r:St×Ty×List PI}{o:Oper}(ht:∀d,o.dst=some d→¬A d∧d<a.tmps.size)
 (hr:vC C S t args.toList=some r) (ho:o.op=.call {callee:=.value (.tmp t),args:=args,argTypes:=ts}):EOK C w0 σ0 Φ S ρ A a w o (y7 S o.dst r):=by
 unfold vC at hr
 split at hr
 case h_2=>cases hr
 rename_i f caps hsh
 cases hb:HD S caps<;>simp only[hb,cond_true,cond_false] at hr
 ·cases hr
 have hreg:=(dH (gs:=[]) h rfl t).1
 rw[hsh] at hreg
 obtain⟨vs,h1,h2,h3⟩:=hreg
 have hs:∃s,C.sig f=some s:=by
  simp only[nX,Option.bind_eq_some_iff] at hr
  obtain⟨s,hs,_⟩:=hr
  exact⟨s,hs⟩
 obtain⟨s,hs⟩:=hs
 have hx:=Sg (a:=a) (w:=w) (vs:=vs) (x:=.tmp t) hcl hs (by simpa [Act.eval] using h1) ho
 have hvals:args.map a.eval++vs.toArray=(args.toList.map a.eval++vs).toArray:=by apply Array.ext';simp
 rw[hvals] at hx
 exact Qn ht hx fun ρ1 hrun=>FT h hC hΦ h2 h3 (fun i j ver e _=>(Om h hb i j ver e).2) hr hrun
def Nc (S:St):List Operand→Option (List (Nat×Nat))
 |[]=>some []
 |x::xs=>
  match x with
  |.tmp t=>
   match shR S [] t with
   |.ptr j ver off=>bif Nat.beq ver (S.ver j)&&Nat.beq off 0 then(Nc S xs).map fun r=>(j,ver)::r else none
   |_=>none
  |_=>none
def P2 (C:Ctx)(S:St)(dst:Nat)(fn:Fn)(first caps:Array Operand):Option (St×List PI):=
 match fn,first.toList with
 |.func f,[]=>
  match C.sig f with
  |some s=>bif Rn s.mode then(Nc S caps.toList).map fun c=>(S.setR dst (.fclo f c),[.setR dst (.con .none)]) else none
  |none=>none
 |_,_=>none
theorem S8 (h:Inv C S ρ σ own hv w0 σ0 A a w):∀{l:List Operand} {c:List (Nat×Nat)},Nc S l=some c→c.length=l.length∧∀(i j ver:Nat),c[i]?=some (j,ver)→ver≤S.ver j∧(ver=S.ver j→(l.map a.eval).getD i undef=hv j)
 |[],c,e=>by simp only[Nc,Option.some.injEq] at e;subst e;exact⟨rfl,fun i j ver e=>by simp at e⟩
 |x::xs,c,e=>by
  simp only[Nc] at e
  split at e
  case h_2=>cases e
  rename_i t
  split at e
  case h_2=>cases e
  rename_i j ver off hsh
  cases hb:(Nat.beq ver (S.ver j)&&Nat.beq off 0)<;>simp only[hb,cond_true,cond_false] at e
  ·cases e
  simp only[Bool.and_eq_true] at hb
  simp only[Option.map_eq_some_iff] at e
  obtain⟨r,hr,rfl⟩:=e
  obtain⟨g1,g2⟩:=S8 h hr
  have hreg:=(dH (gs:=[]) h rfl t).1
  rw[hsh] at hreg
  refine⟨by simp[g1],fun i j' ver' e=>?_⟩
  cases i with
  |zero=>
   simp at e
   obtain⟨rfl,rfl⟩:=e
   refine⟨hreg.1,fun e=>?_⟩
   obtain⟨k,k1,k2⟩:=hreg.2 e
   have e0:off=0:=Nat.eq_of_beq_eq_true hb.2
   subst e0
   rw[k1,←k2]
   simp[Act.eval]
  |succ i=>simp at e;simpa using g2 i j' ver' e
theorem TL (h:Inv C S ρ σ own hv w0 σ0 A a w)(ht:¬A dst)(hlt:dst<a.tmps.size){fn:Fn}{first caps:Array Operand}{r:St×List PI}{o:Oper}(hr:P2 C S dst fn first caps=some r)(hd:o.dst=some dst)(ho:o.op=.makeFunc fn first caps):EOK C w0 σ0 Φ S ρ A a w o r:=by
 unfold P2 at hr
 split at hr
 case h_2=>cases hr
 rename_i f hfirst
 split at hr
 case h_2=>cases hr
 rename_i s hs
 cases hb:Rn s.mode<;>simp only[hb,cond_true,cond_false] at hr
 ·cases hr
 simp only[Option.map_eq_some_iff] at hr
 obtain⟨c,hc,rfl⟩:=hr
 obtain⟨g1,g2⟩:=S8 h hc
 have hf0:first=#[]:=by rw[←Array.toList_inj];simpa using hfirst
 refine EOK.value hd fun ρ' hrun=>⟨.func (.func f) #[] (caps.toList.map a.eval).toArray,w,?_,?_⟩
 ·subst hf0
  have e9:caps.map a.eval=(caps.toList.map a.eval).toArray:=by apply Array.ext';rw[Array.toList_map]
  simp[execOp,ho,Instr.makeFunc,e9]
 ·have hρ:ρ'=ρ.setR dst .none:=by simp[PI.runs,PI.run,PE.ev] at hrun;exact hrun.symm
  subst hρ
  exact⟨_,_,_,h.setReg ht (s:=.fclo f c) ⟨_,rfl,by simp[g1],g2⟩ hlt (fun _ _ e=>by cases e)⟩
end
end Cx
namespace Cx
open Go Go.RowKit
inductive Gh where
 |fz (j:Nat)|fbox (b:Nat)|rereg (t j:Nat)|recell (b i j:Nat)|home (b i j:Nat) (T:TypeId)
def Gh.run (C:Ctx)(S:St):Gh→Option (St×List PI)
 |.fz j=>some (S.fz j,[])
 |.fbox b=>vB S b
 |.rereg t j=>m5 S t j
 |.recell b i j=>sd S b i j
 |.home b i j T=>zy C S b i j T
def gf (C:Ctx):List Gh→St→Option (St×List PI)
 |[],S=>some (S,[])
 |g::gs,S=>(g.run C S).bind fun r=>(gf C gs r.1).map fun q=>(q.1,r.2++q.2)
theorem bH {Φ:aK}:∀{a b:List PI} {ρ:Env},PI.runs Φ (a++b) ρ=(PI.runs Φ a ρ).bind (PI.runs Φ b)
 |[],b,ρ=>by simp[PI.runs]
 |x::a,b,ρ=>by
  simp only[List.cons_append,PI.runs]
  cases x.run Φ ρ with
  |none=>rfl
  |some ρ1=>simp[bH (a:=a) (b:=b)]
def Qb (S:St)(ops:Array Oper)(o:Oper):Option (List (Nat×Bool)):=
 match o.guard with
 |none=>some []
 |some (j,want)=>
  match(ops[j]?).bind (·.dst) with
  |some t=>
   match S.r t with
   |.dat .bool=>some [(t,want)]
   |.opt gs (.dat .bool)=>some ((t,want)::gs)
   |_=>none
  |none=>none
def tq (S:St)(gs:List (Nat×Bool)):Op→List Nat
 |.build _ ps=>aJ S gs (ps.toList.map (·.2))
 |.buildSlice _ _ ps=>aJ S gs (ps.toList.map (·.2))
 |.box _ x=>aJ S gs [x]
 |.pick _ x y=>aJ S gs [x,y]
 |.slice _ x _ _ _=>aJ S gs [x]
 |.mapUpdate _ _ k v=>aJ S gs [k,v]
 |.insert _ _ k v=>aJ S gs [k,v]
 |.store _ x v=>match shX S gs x with|.eptr ..=>aJ S gs [v]|_=>[]
 |_=>[]
def zc:List Sh→List Nat
 |[]=>[]
 |.obj j _::r=>j::zc r
 |_::r=>zc r
def GS (S:St)(gs:List (Nat×Bool)):List Operand→List Nat
 |[]=>[]
 |x::xs=>
  match shX S gs x with
  |.ptr j ver off=>bif Nat.beq ver (S.ver j)&&(match S.o j with|.box ..=>true|_=>false) then j::GS S gs xs else GS S gs xs
  |_=>GS S gs xs
def ahv (C:Ctx):Fn→Bool
 |.func f=>(match C.sig f with|some s=>Rn s.mode|none=>false)
 |_=>false
def pre (C:Ctx)(S:St)(gs:List (Nat×Bool))(op:Op):List Gh:=
 match op with
 |.makeFunc fn _ caps=>
  bif ahv C fn then[] else(GS S gs caps.toList).flatMap fun b=>(match S.o b with|.box _ shs=>(zc shs).map .fz|_=>[])++[.fbox b]
 |.load T x=>
  match shX S gs x,rS C.P T,C.P.info? T with
  |.ptr j _ off,some true,some inf=>(match S.o j with|.box _ shs=>(zc ((shs.drop off).take inf.size)).map .fz|_=>[])
  |_,_,_=>[]
 |op=>(tq S gs op).map .fz
def Ag (C:Ctx)(S:St)(gs:List (Nat×Bool))(o:Oper):List Gh:=
 match o.op,o.dst with
 |.assign x,some t=>bif C.fr.any (Nat.beq t) then(aJ S gs [x]).map .fz else[]
 |_,_=>[]
def NJ (P:Program):Nat→TypeId→List (Option TypeId)
 |0,_=>[]
 |n+1,t=>
  match P.underlying t with
  |some (.struct fs)=>fs.toList.flatMap fun f=>NJ P n f.type
  |some (.array len e)=>(List.replicate len (NJ P n e)).flatten
  |some (.slice e)=>[some e]
  |_=>[none]
def homes (P:Program)(b off:Nat)(T:TypeId):List Gh:=
 ((NJ P 12 T).zipIdx).filterMap fun x=>x.1.map fun e=>.home b (off+x.2) (adk b (off+x.2)) e
def A7 (nh:List Nat)(l:List Gh):List Gh:=l.filter fun g=>match g with|.home _ _ j _=> !(nh.any (Nat.beq j))|_=>true
def ZE (b off n:Nat):List Gh:=(List.range n).map fun i=>.recell b (off+i) (adk b (off+i))
def post (C:Ctx)(S:St)(o:Oper):List Gh:=
 match o.op,o.dst with
 |.assign _,some t=>[.rereg t t]
 |.alloc T,some t=>A7 C.nh (homes C.P t 0 T)
 |.store T x _,_=>
  match shX S [] x with
  |.ptr j _ off=>A7 C.nh (homes C.P j off T)++ZE j off (match C.P.info? T with|some i=>i.size|none=>0)
  |_=>[]
 |_,_=>[]
def uG:Sh→Bool
 |.opt ..=>false
 |_=>true
def KM (C:Ctx)(S:St)(dst:Nat)(T:TypeId)(x:Operand):GD:=
 match x with
 |.const v=>(tyD C.P T).bind fun t=>(oW t).bind fun z=>bif fA t v then some (S.setR dst (.dat z.1),[.setR dst (.con z.2)]) else none
 |_=>none
def core (C:Ctx)(S:St)(gs:List (Nat×Bool))(o:Oper):Option (St×List PI):=
 match o.dst with
 |some dst=>
  match opQ C S gs dst o.op with
  |some r=>bif uG r.1 then some (S.setR dst (gsh gs r.1),r.2) else none
  |none=>
   match o.op,gs with
   |.assign x,[]=>
    bif C.fr.any (Nat.beq dst) then
          match rF C S [] dst x with
          |some r=>some (S.setR dst r.1,r.2)
          |none=>KM C S dst o.type x
    else
    match abS C S dst o.type x with
    |some r=>some r
    |none=>
     match rF C S [] dst x with
     |some r=>some (S.setR dst r.1,r.2)
     |none=>KM C S dst o.type x
   |.alloc T,[]=>Nr C S dst T
   |.box T x,[]=>ack C S dst T x
   |.buildSlice T n ps,gs=>
    match gs with
    |[]=>gO C S [] dst T n ps.toList
    |_=>aap C S gs dst T n ps.toList
   |.makeSlice T l c,[]=>rI C S dst T l c
   |.makeMap T r,[]=>zS C S dst T r
   |.range T x,[]=>Pu C S dst T x
   |.convert T U x,[]=>Pd C S dst T U x
   |.call c,gs=>
    match c.callee,gs with
    |.builtin .append,[]=>
     match c.args.toList,c.argTypes.toList with
     |[s,x],[T,T']=>bif Nat.beq T T' then G2 C S dst T s x else none
     |_,_=>none
    |.value (.func f),gs=>
     match y0 C S gs dst f c.args.toList with
     |some r=>some (r.1.setR dst (gsh gs r.2.1),r.2.2)
     |none=>
      match gs with
      |[]=>
       match yO C S dst f c.args.toList with
       |some r=>some r
       |none=>(nX C S f c.args.toList []).map (y7 S (some dst))
      |_=>none
    |.value x,gs=>
     match oX C S gs dst x c.args.toList with
     |some r=>some (r.1.setR dst (gsh gs r.2.1),r.2.2)
     |none=>
      match x,gs with
      |.tmp t,[]=>(vC C S t c.args.toList).map (y7 S (some dst))
      |_,_=>none
    |_,_=>none
   |.makeFunc fn first caps,[]=>P2 C S dst fn first caps
   |_,_=>none
 |none=>
  match o.op,gs with
  |.store T x v,[]=>Az C S T x v
  |.mapUpdate T m k v,[]=>fF C S T m k v
  |.insert T m k v,[]=>fF C S T m k v
  |.panic _,[]=>some (S,[.chk (.nt (.con (.bool true)))])
  |.call c,[]=>
   match c.callee with
   |.value (.func f)=>(nX C S f c.args.toList []).map (y7 S none)
   |.value (.tmp t)=>(vC C S t c.args.toList).map (y7 S none)
   |_=>none
  |_,_=>none
def ahi (dst:Nat)(l:List PI):Bool:=l.all fun p=>p.modR.all (Nat.beq dst)&&p.modO.isEmpty
def cR (gs:List (Nat×Bool))(dst:Option Nat)(l:List PI):Bool:=
 match gs,dst with
 |[],_=>true
 |_,some d=>ahi d l
 |_,none=>false
def Fa (C:Ctx)(S:St)(ops:Array Oper)(o:Oper):Option (St×List PI):=
 (Qb S ops o).bind fun gs=>
 (gf C (pre C S gs o.op++Ag C S gs o) S).bind fun r1=>
 (core C r1.1 gs o).bind fun r2=>
 (gf C (post C r2.1 o) r2.1).bind fun r3=>
 bif cR gs o.dst r2.2 then some (r3.1,r1.2++r2.2++r3.2) else none
def PU:PI:=.chk (.con (.v (.bool false)))
def A6 (C:Ctx)(S:St)(ops:Array Oper)(o:Oper):Option (St×List PI):=
 match Fa C S ops o with
 |some r=>some r
 |none=>some (match o.dst with|some d=>S.setR d .none|none=>S,[PU])
section
variable {C:Ctx} {S:St} {ρ:Env} {σ:Im} {own:Nat→Option Nat} {hv:Nat→Value} {w0:World} {σ0:Base} {A:Nat→Prop} {a:Act} {w:World} {gs:List (Nat×Bool)} {Φ:aK} {dst:Nat}
theorem Gh.sound {g:Gh}{r:St×List PI}(h:Good C w0 σ0 S ρ A a w)(hr:g.run C S=some r):GOK C w0 σ0 Φ S ρ A a w r:=by
 obtain⟨σ,own,hv,h⟩:=h
 cases g with
 |fz j=>
  simp only[Gh.run,Option.some.injEq] at hr
  subst hr
  intro ρ' hrun
  rw[vZ hrun]
  obtain⟨σ',own',_,h'⟩:=h.fz j
  exact⟨σ',own',hv,h'⟩
 |fbox b=>exact ME h hr
 |rereg t j=>exact K4 h hr
 |recell b i j=>exact Hl h hr
 |home b i j T=>exact Ni h hr
theorem xb:∀(l:List Gh) {S:St} {ρ ρ':Env} {r:St×List PI},Good C w0 σ0 S ρ A a w→gf C l S=some r→PI.runs Φ r.2 ρ=some ρ'→Good C w0 σ0 r.1 ρ' A a w
 |[],S,ρ,ρ',r,h,hr,hrun=>by
  simp only[gf,Option.some.injEq] at hr
  subst hr
  rw[vZ hrun];exact h
 |g::l,S,ρ,ρ',r,h,hr,hrun=>by
  simp only[gf,Option.bind_eq_some_iff,Option.map_eq_some_iff] at hr
  obtain⟨q,hq,q2,hq2,rfl⟩:=hr
  simp only[bH,Option.bind_eq_some_iff] at hrun
  obtain⟨ρ1,h1,h2⟩:=hrun
  exact xb (r:=q2) l (Gh.sound (Φ:=Φ) h hq ρ1 h1) hq2 h2
theorem NG (h:Good C w0 σ0 S ρ A a w){ops:Array Oper}{o:Oper}(hg:Qb S ops o=some gs):Region.wanted o (yielded ops a.tmps)=holds gs ρ:=by
 obtain⟨σ,own,hv,h⟩:=h
 unfold Qb at hg
 unfold Region.wanted
 split at hg
 ·rename_i e;cases hg;simp[e,holds]
 ·rename_i j want e
  simp only[e]
  split at hg
  case h_2=>cases hg
  rename_i t ht
  have hreg:=h.regs t
  have hy:∀v,a.tmps.getD t undef=v→(∀b,v=.bool b→yielded ops a.tmps j=some b)∧(v=undef→yielded ops a.tmps j=none):=by
   intro v hv'
   unfold yielded
   rw[ht]
   simp only[Option.bind_some]
   rw[Array.getD_eq_getD_getElem?] at hv'
   cases hget:a.tmps[t]? with
   |none=>rw[hget] at hv';simp at hv';subst hv';exact⟨fun b e=>absurd e (by simp[undef]),fun _=>rfl⟩
   |some u=>rw[hget] at hv';simp at hv';subst hv';exact⟨fun b e=>by subst e;rfl,fun e=>by subst e;rfl⟩
  split at hg
  ·rename_i es
   cases hg
   rw[es] at hreg
   obtain⟨b,hb1,hb2⟩:=Rep.bool_inv hreg
   rw[(hy _ hb1).1 b rfl]
   simp[holds,hb2,D.b_bool]
  ·rename_i gs' es
   cases hg
   rw[es] at hreg
   simp only[holds,List.all_cons]
   cases hh:holds gs' ρ with
   |true=>
    obtain⟨b,hb1,hb2⟩:=Rep.bool_inv (hreg.1 hh)
    rw[(hy _ hb1).1 b rfl]
    unfold holds at hh
    rw[hh,hb2]
    simp[D.b_bool]
   |false=>
    rw[(hy _ (hreg.2 hh)).2 rfl]
    unfold holds at hh
    rw[hh];simp
  ·cases hg
theorem ab6 (h:Good C w0 σ0 S ρ A a w){ops:Array Oper}{o:Oper}(hg:Qb S ops o=some gs)(hj:∀j want t,o.guard=some (j,want)→(ops[j]?).bind (·.dst)=some t→A t):∀g,g∈gs→A g.1:=by
 obtain⟨σ,own,hv,h⟩:=h
 unfold Qb at hg
 split at hg
 ·cases hg;simp
 ·rename_i j want e
  split at hg
  case h_2=>cases hg
  rename_i t ht
  have hA:=hj j want t e ht
  split at hg
  ·cases hg;intro g hm;simp at hm;subst hm;exact hA
  ·rename_i gs' es
   cases hg
   intro g hm
   rcases List.mem_cons.1 hm with e'|hm'
   ·subst e';exact hA
   ·exact(h.opts t gs' _ es).1 g hm'
  ·cases hg
theorem aaz (h:Inv C S ρ σ own hv w0 σ0 A a w)(hC:CtxOK C σ0)(hg:holds gs ρ=true){o:Oper}{r:Sh×List PI}(hr:opQ C S gs dst o.op=some r):QOK C S ρ σ hv Φ dst a w o r:=by
 unfold opQ at hr
 split at hr
 ·rename_i x e;exact Fq h hC hg hr (.inl e)
 ·rename_i c x y e;exact Tr h hC hg hr e
 ·rename_i op T x y T' e;exact U5 h hC hg hr e
 ·rename_i op T x e;exact YI h hC hg hr e
 ·rename_i s d x e;exact Tn h hC hg hr e
 ·rename_i T x e;exact rn h hC hg hr e
 ·rename_i T x i e;exact F0 h hC hg hr e
 ·rename_i T x i e;exact QC h hC hg hr e
 ·rename_i T x i e;exact Gy h hC hg hr e
 ·rename_i T x i e;exact QK h hC hg hr e
 ·rename_i x i e;exact Mk h hC hg hr e
 ·rename_i T m k ok e;exact M5 h hC hg hr e
 ·rename_i T x lo hi mx e;exact Ru h hC hg hr e
 ·rename_i f a b e;exact Ut h hC hg hr e
 ·rename_i T ps e;exact Rt h hC hg hr e
 ·rename_i x e;exact Vp h hC hg hr e
 ·cases hr
  intro ρ' hrun
  have:=(abP hg hrun).1
  cases this
 ·rename_i c e
  split at hr
  ·rename_i x T hc ha ht
   refine Wz h hC hg hr ?_
   rw[e]
   cases c with|mk callee args argTypes=>
   simp only at hc ha ht
   have h1:args=#[x]:=by rw[←Array.toList_inj];exact ha
   have h2:argTypes=#[T]:=by rw[←Array.toList_inj];exact ht
   rw[hc,h1,h2]
  ·rename_i x y hc ha
   refine Ky (ts:=c.argTypes) h hC hg hr ?_
   rw[e]
   cases c with|mk callee args argTypes=>
   simp only at hc ha
   have h1:args=#[x,y]:=by rw[←Array.toList_inj];exact ha
   rw[hc,h1];rfl
  ·rename_i x y hc ha
   refine Ky (ts:=c.argTypes) h hC hg hr ?_
   rw[e]
   cases c with|mk callee args argTypes=>
   simp only at hc ha
   have h1:args=#[x,y]:=by rw[←Array.toList_inj];exact ha
   rw[hc,h1];rfl
  ·cases hr
 ·cases hr
theorem Xh (h:Inv C S ρ σ own hv w0 σ0 A a w)(ht:¬A dst)(hlt:dst<a.tmps.size){T:TypeId}{x:Operand}{r:St×List PI}(hr:KM C S dst T x=some r){o:Oper}(hd:o.dst=some dst)(ho:o.op=.assign x):EOK C w0 σ0 Φ S ρ A a w o r:=by
 unfold KM at hr
 split at hr
 case h_2=>cases hr
 rename_i v
 simp only[Option.bind_eq_some_iff] at hr
 obtain⟨t,_,z,hz,hr⟩:=hr
 cases hc:fA t v<;>simp only[hc,cond_true,cond_false] at hr
 ·cases hr
 cases hr
 have hrep:=(fw (cap:=C.cap) (σ:=σ) hz hc).1
 refine EOK.value hd fun ρ' hrun=>⟨v,w,by simp[execOp,ho,Act.eval],?_⟩
 have hρ:ρ'=ρ.setR dst z.2:=by simp[PI.runs,PI.run,PE.ev] at hrun;exact hrun.symm
 subst hρ
 exact⟨_,_,_,h.setReg ht (s:=.dat z.1) hrep hlt (fun _ _ e=>by cases e)⟩
theorem XN (h:Inv C S ρ σ own hv w0 σ0 A a w)(hC:CtxOK C σ0)(hcl:ClosOK C)(hΦ:FunsOK C Φ){o:Oper}(ht:∀d,o.dst=some d→¬A d∧d<a.tmps.size)(hgs:∀g,g∈gs→A g.1)(hg:holds gs ρ=true){r:St×List PI}
 (hr:core C S gs o=some r):EOK C w0 σ0 Φ S ρ A a w o r:=by
 unfold core at hr
 split at hr
 ·rename_i dst hd
  obtain⟨ht1,ht2⟩:=ht dst hd
  split at hr
  ·rename_i q hq
   cases hno:uG q.1<;>simp only[hno,cond_true,cond_false] at hr
   ·cases hr
   cases hr
   have hqok:=aaz (Φ:=Φ) h hC hg hq
   cases gs with
   |nil=>exact hqok.eff h ht1 ht2 hd
   |cons g gs'=>exact hqok.effG h ht1 ht2 hgs hg hd
  ·rename_i hnone
   clear hnone
   split at hr
   ·rename_i x e
    have mv:∀r,(match rF C S [] dst x with|some r=>some (S.setR dst r.1,r.2)|none=>KM C S dst o.type x)=some r→EOK C w0 σ0 Φ S ρ A a w o r:=by
     intro r hr
     split at hr
     ·rename_i q hq;cases hr;exact(Fq (Φ:=Φ) h hC hg hq (.inr e)).eff h ht1 ht2 hd
     ·exact Xh h ht1 ht2 hr hd e
    cases hfr:C.fr.any (Nat.beq dst)<;>simp only[hfr,cond_true,cond_false] at hr
    ·split at hr
     ·rename_i q hq;cases hr;exact X0 h hC ht1 ht2 hq hd e
     ·exact mv r hr
    ·exact mv r hr
   ·rename_i T e;exact Ug h ht1 ht2 hr hd e
   ·rename_i T x e;exact X3 h hC ht1 ht2 hr hd e
   ·rename_i T n ps e
    split at hr
    ·exact FK h hC ht1 ht2 hr hd e
    ·exact X9 h hC ht1 ht2 hgs hg hr hd e
   ·rename_i T l c e;exact Jt h hC ht1 ht2 hr hd e
   ·rename_i T m e;exact ND h ht1 ht2 hr hd e
   ·rename_i T x e;exact Ux h ht1 ht2 hr hd e
   ·rename_i T U x e;exact TF h hC ht1 ht2 hr hd e
   ·rename_i c e
    cases c with|mk callee args argTypes=>
    split at hr
    ·rename_i hc
     simp only at hc
     split at hr
     ·rename_i s x T T' ha htt
      simp only at ha htt
      cases hT:Nat.beq T T'<;>simp only[hT,cond_true,cond_false] at hr
      ·cases hr
      have hT':=Nat.eq_of_beq_eq_true hT
      subst hT'
      refine RW h hC ht1 ht2 hr hd ?_
      have h1:args=#[s,x]:=by rw[←Array.toList_inj];exact ha
      have h2:argTypes=#[T,T]:=by rw[←Array.toList_inj];exact htt
      rw[e,hc,h1,h2]
     ·cases hr
    ·rename_i f hc
     simp only at hc
     split at hr
     ·rename_i q hq
      cases hr
      exact Vv h hC hcl hΦ ht1 ht2 hgs hg hq hd (by rw[e,hc])
     ·split at hr
      ·split at hr
       ·rename_i q hq;cases hr;exact Pw h hC hcl hΦ ht1 ht2 hq hd (by rw[e,hc])
       ·simp only[Option.map_eq_some_iff] at hr
        obtain⟨q,hq,rfl⟩:=hr
        rw[←hd]
        exact CG h hC hcl hΦ ht hq (by rw[e,hc])
      ·cases hr
    ·rename_i x hnf hc
     simp only at hc
     split at hr
     ·rename_i q hq
      cases hr
      exact UI h hC hcl hΦ ht1 ht2 hgs hg hq hd (by rw[e,hc])
     ·split at hr
      ·simp only[Option.map_eq_some_iff] at hr
       obtain⟨q,hq,rfl⟩:=hr
       rw[←hd]
       exact zr h hC hcl hΦ ht hq (by rw[e,hc])
      ·cases hr
    ·cases hr
   ·rename_i fn first caps e;exact TL h ht1 ht2 hr hd e
   ·cases hr
 ·rename_i hd
  split at hr
  ·rename_i T x v e;exact Uo h hC hr hd e
  ·rename_i T m k v e;exact v7 h hC hr hd (.inl e)
  ·rename_i T m k v e;exact v7 h hC hr hd (.inr e)
  ·cases hr
   intro ρ' hrun
   simp[PI.runs,PI.run,PE.ev,D.bool,D.b] at hrun
  ·rename_i c e
   cases c with|mk callee args argTypes=>
   split at hr
   ·rename_i f hc
    simp only at hc
    simp only[Option.map_eq_some_iff] at hr
    obtain⟨q,hq,rfl⟩:=hr
    rw[←hd]
    exact CG h hC hcl hΦ ht hq (by rw[e,hc])
   ·rename_i t hc
    simp only at hc
    simp only[Option.map_eq_some_iff] at hr
    obtain⟨q,hq,rfl⟩:=hr
    rw[←hd]
    exact zr h hC hcl hΦ ht hq (by rw[e,hc])
   ·cases hr
  ·cases hr
theorem YY {g:Nat×Bool}{gs':List (Nat×Bool)}{o:Oper}{r:St×List PI}(hr:core C S (g::gs') o=some r):
 ∃dst S2 s,o.dst=some dst∧r.1=S2.setR dst (.opt (g::gs') s)∧((∃js,S2=S.fzs js)∨∃j,S2=S.newO j .dead)∧(∀gs s',s≠.opt gs s')∧(∀x,o.op≠.assign x)∧(∀T,o.op≠.alloc T)∧∀T x v,o.op≠.store T x v:=by
 unfold core at hr
 split at hr
 ·rename_i dst hd
  split at hr
  ·rename_i q hq
   cases hno:uG q.1<;>simp only[hno,cond_true,cond_false] at hr
   ·cases hr
   cases hr
   refine⟨dst,S,q.1,hd,rfl,.inl ⟨[],rfl⟩,(fun gs s' e=>by rw[e] at hno;cases hno),fun x e=>?_,fun T e=>?_,fun T x v e=>?_⟩<;>(rw[e] at hq;simp[opQ] at hq)
  ·rename_i hnone
   clear hnone
   split at hr
   case h_4=>
        rename_i T n ps e
        split at hr
        ·rename_i hx;cases hx
        ·unfold aap at hr
         split at hr
         case h_2=>cases hr
         simp only[Option.bind_eq_some_iff] at hr
         obtain⟨e0,he0,hr⟩:=hr
         split at hr
         ·cases hr
          exact⟨dst,_,.dat (.slice e0.rol),hd,rfl,.inr ⟨dst,rfl⟩,(fun _ _ e=>by cases e),(fun x e'=>by rw[e] at e';cases e'),(fun x e'=>by rw[e] at e';cases e'),(fun _ _ _ e'=>by rw[e] at e';cases e')⟩
         ·cases hr
   case h_9=>
        rename_i c e
        split at hr
        ·rename_i hx;cases hx
        ·rename_i f hc
         split at hr
         ·rename_i q hq
          cases hr
          simp only[y0,Option.bind_eq_some_iff] at hq
          obtain⟨s,hs,hq⟩:=hq
          split at hq
          case h_2=>cases hq
          simp only[Option.bind_eq_some_iff] at hq
          obtain⟨u,hu,hq⟩:=hq
          cases hsub:Ty.subs u.1 s.args<;>simp only[hsub,cond_true,cond_false] at hq
          ·cases hq
          cases hq
          refine⟨dst,_,.dat s.res,hd,rfl,?_,(fun _ _ e=>by cases e),(fun x e'=>by rw[e] at e';cases e'),(fun x e'=>by rw[e] at e';cases e'),(fun _ _ _ e'=>by rw[e] at e';cases e')⟩
          left
          cases s.res.pure
          ·exact⟨_,rfl⟩
          ·exact⟨[],rfl⟩
         ·cases hr
        ·rename_i x hnf hc
         have hr:∃q,oX C S (g::gs') dst x c.args.toList=some q∧(q.1.setR dst (gsh (g::gs') q.2.1),q.2.2)=r:=by
          split at hr
          ·rename_i q hq;cases hr;exact⟨q,hq,rfl⟩
          ·split at hr
           all_goals (first|(cases hr;done)|(rename_i hx;cases hx;done)|(rename_i hx _;cases hx;done)|(rename_i hx _ _;cases hx;done)|(rename_i hx;exact absurd hx (by simp)))
         obtain⟨q,hq,rfl⟩:=hr
         unfold oX at hq
         split at hq
         case h_2=>cases hq
         rename_i as r0 ee hu0
         split at hq
         case h_1=>cases hq
         simp only[Option.bind_eq_some_iff] at hq
         obtain⟨u,hu,hq⟩:=hq
         cases hsub:Ty.subs u.1 as<;>simp only[hsub,cond_true,cond_false] at hq
         ·cases hq
         cases hq
         refine⟨dst,_,.dat r0,hd,rfl,?_,(fun _ _ e=>by cases e),(fun x e'=>by rw[e] at e';cases e'),(fun x e'=>by rw[e] at e';cases e'),(fun _ _ _ e'=>by rw[e] at e';cases e')⟩
         left
         cases r0.pure
         ·exact⟨_,rfl⟩
         ·exact⟨[],rfl⟩
        ·cases hr
   all_goals (first|(cases hr;done)|(rename_i hx;cases hx;done)|(rename_i hx _;cases hx;done))
 ·split at hr
  all_goals (first|(cases hr;done)|(rename_i hx;cases hx;done)|(rename_i hx _;cases hx;done))
theorem Kg {ρ ρ1:Env}:∀{l:List (Nat×Bool)},(∀g,g∈l→ρ1.r g.1=ρ.r g.1)→holds l ρ1=holds l ρ
 |[],_=>rfl
 |x::l,h=>by
  have ih:=Kg (l:=l) fun y hy=>h y (List.mem_cons_of_mem _ hy)
  unfold holds at ih ⊢
  simp only[List.all_cons];rw[ih,h x (List.mem_cons_self ..)]
theorem PS:∀(l:List Gh) {S:St} {r:St×List PI},gf C l S=some r→∀t,t∉r.2.flatMap PI.modR
 |[],S,r,hr=>by simp only[gf,Option.some.injEq] at hr;subst hr;simp
 |g::l,S,r,hr=>by
  simp only[gf,Option.bind_eq_some_iff,Option.map_eq_some_iff] at hr
  obtain⟨q,hq,q2,hq2,rfl⟩:=hr
  have ih:=PS l hq2
  have hg:∀t,t∉q.2.flatMap PI.modR:=by
   cases g with
   |fz j=>simp only[Gh.run,Option.some.injEq] at hq;subst hq;simp
   |fbox b=>
    simp only[Gh.run,vB] at hq
    split at hq
    case h_2=>cases hq
    simp only[Option.bind_eq_some_iff] at hq
    obtain⟨x,hx,hq⟩:=hq
    rename_i ag shs eo
    cases ag<;>simp only[cond_true,cond_false] at hq
    ·split at hq
     ·cases hq;simp[PI.modR]
     ·cases hq
    ·cases hq;simp[PI.modR]
   |rereg t j=>
    simp only[Gh.run,m5] at hq
    split at hq
    ·rename_i j' ver es
     cases hb:(Nat.beq ver (S.ver j')&&de (S.o j')&& !Nat.beq j' j)<;>simp only[hb,cond_true,cond_false] at hq<;>cases hq<;>simp[PI.modR]
    ·cases hq;simp
   |recell b i j=>
    simp only[Gh.run,sd] at hq
    split at hq
    ·split at hq
     ·rename_i ag shs eo j' ver es
      cases hb:(Nat.beq ver (S.ver j')&&de (S.o j')&& !Nat.beq j' j&& !Nat.beq b j&& !Nat.beq b j')<;>simp only[hb,cond_true,cond_false] at hq<;>cases hq<;>simp[PI.modR]
     ·cases hq;simp
    ·cases hq;simp
   |home b i j T=>
    simp only[Gh.run,zy] at hq
    split at hq
    ·split at hq
     ·cases hb:(!Nat.beq b j)<;>simp only[hb,cond_true,cond_false] at hq<;>cases hq<;>simp[PI.modR]
     ·cases hq;simp
    ·cases hq;simp
  intro t hm
  rw[List.flatMap_append,List.mem_append] at hm
  exact hm.elim (hg t) (ih t)
theorem Q9 (h:Good C w0 σ0 S ρ A a w)(hC:CtxOK C σ0)(hcl:ClosOK C)(hΦ:FunsOK C Φ){ops:Array Oper}{o:Oper}(ht:∀d,o.dst=some d→¬A d∧d<a.tmps.size)
 (hj:∀j want t,o.guard=some (j,want)→(ops[j]?).bind (·.dst)=some t→A t) {r:St×List PI} (hr:Fa C S ops o=some r) {ρ':Env} (hrun:PI.runs Φ r.2 ρ=some ρ')
 {K:Act→World→Prop} {Q:Exit→Act→World→Prop} (hK:∀a' w',Good C w0 σ0 r.1 ρ' (fun u=>A u∨o.dst=some u) a' w'→a'.tmps.size=a.tmps.size→K a' w'):
 if Region.wanted o (yielded ops a.tmps) then o.wp C.P a w K Q else K (a.put o.dst undef) w:=by
 simp only[Fa,Option.bind_eq_some_iff] at hr
 obtain⟨gs,hgs,r1,hr1,r2,hr2,r3,hr3,hr⟩:=hr
 have hgA:=ab6 h hgs hj
 rw[NG h hgs]
 cases hc:cR gs o.dst r2.2<;>simp only[hc,cond_true,cond_false] at hr
 ·cases hr
 cases hr
 simp only[bH,Option.bind_eq_some_iff] at hrun
 obtain⟨ρ2,⟨ρ1,hρ1,hρ2⟩,hρ3⟩:=hrun
 have h1:=xb _ h hr1 hρ1
 have h1':=h1
 obtain⟨σ1,own1,hv1,i1⟩:=h1'
 have hholds:holds gs ρ1=holds gs ρ:=by
  cases gs with
  |nil=>rfl
  |cons g gs'=>
   have hb:=(PI.runs_but hρ1).r
   have:∀x,x∈(g::gs')→ρ1.r x.1=ρ.r x.1:=fun x hm=>hb x.1 (by
        intro hmem
        exact PS _ hr1 x.1 hmem)
   exact Kg this
 cases hh:holds gs ρ with
 |true=>
  simp only[if_true]
  rw[hh] at hholds
  refine XN i1 hC hcl hΦ ht hgA hholds hr2 ρ2 hρ2 K Q (fun a' w' hg' hsz=>?_)
  exact hK a' w' (xb (r:=r3) _ hg' hr3 hρ3) hsz
 |false=>
  simp only[Bool.false_eq_true,if_false]
  rw[hh] at hholds
  cases gs with
  |nil=>simp[holds] at hh
  |cons g gs'=>
   obtain⟨dst,S2,s,hd,hS,hS2,hns,n1,n2,n3⟩:=YY hr2
   obtain⟨t1,t2⟩:=ht dst hd
   have hpost:post C r2.1 o=[]:=by
        unfold post
        split
        ·rename_i x t e _;exact absurd e (n1 x)
        ·rename_i T t e _;exact absurd e (n2 T)
        ·rename_i T x v e;exact absurd e (n3 T x v)
        ·rfl
   rw[hpost] at hr3
   simp only[gf,Option.some.injEq] at hr3
   subst hr3
   have:=vZ hρ3
   subst this
   obtain⟨σ2,own2,i2⟩:∃σ2 own2,Inv C S2 ρ1 σ2 own2 hv1 w0 σ0 A a w:=by
        rcases hS2 with⟨js,rfl⟩|⟨j,rfl⟩
        ·obtain⟨σ2,own2,_,i2⟩:=Inv.fzs js i1;exact⟨σ2,own2,i2⟩
        ·exact⟨σ1,own1,i1.kill j⟩
   have hpass:=i2.passed t1 t2 hgA hholds (s:=s) hns (ρ'.r dst)
   have hρe:ρ1.setR dst (ρ'.r dst)=ρ':=by
        have hb:=PI.runs_but hρ2
        simp only[cR,hd] at hc
        unfold ahi at hc
        rw[List.all_eq_true] at hc
        have e1:∀t,t≠dst→ρ'.r t=ρ1.r t:=fun t hne=>hb.r t (fun hm=>by
         obtain⟨p,hp,hpt⟩:=List.mem_flatMap.1 hm
         have:=hc p hp
         simp only[Bool.and_eq_true] at this
         have:=List.all_eq_true.1 this.1 t hpt
         exact hne (Nat.eq_of_beq_eq_true this).symm)
        have e2:∀t,ρ'.o t=ρ1.o t:=fun t=>hb.o t (fun hm=>by
         obtain⟨p,hp,hpt⟩:=List.mem_flatMap.1 hm
         have:=hc p hp
         simp only[Bool.and_eq_true] at this
         have h9:=List.isEmpty_iff.1 this.2
         rw[h9] at hpt;cases hpt)
        have r1:upd ρ1.r dst (ρ'.r dst)=ρ'.r:=by
         funext t
         rw[aN];split
         ·rename_i e;subst e;rfl
         ·rename_i hne;exact(e1 t hne).symm
        have r2:ρ1.o=ρ'.o:=funext fun t=>(e2 t).symm
        cases ρ' with|mk a b=>simp only[Env.setR] at r1 r2 ⊢;rw[r1,r2]
   rw[hρe] at hpass
   have hee:(fun u=>A u∨o.dst=some u)=(fun u=>A u∨u=dst):=by funext u;rw[hd];simp[eq_comm]
   rw[hee] at hK
   rw[hd]
   refine hK _ _ ?_ (size_put _ _ _)
   simp only
   rw[hS]
   exact⟨_,_,_,hpass⟩
theorem QD (h:Good C w0 σ0 S ρ A a w)(hC:CtxOK C σ0)(hcl:ClosOK C)(hΦ:FunsOK C Φ){ops:Array Oper}{o:Oper}(ht:∀d,o.dst=some d→¬A d∧d<a.tmps.size)
 (hj:∀j want t,o.guard=some (j,want)→(ops[j]?).bind (·.dst)=some t→A t) {r:St×List PI} (hr:A6 C S ops o=some r) {ρ':Env} (hrun:PI.runs Φ r.2 ρ=some ρ')
 {K:Act→World→Prop} {Q:Exit→Act→World→Prop} (hK:∀a' w',Good C w0 σ0 r.1 ρ' (fun u=>A u∨o.dst=some u) a' w'→a'.tmps.size=a.tmps.size→K a' w'):
 if Region.wanted o (yielded ops a.tmps) then o.wp C.P a w K Q else K (a.put o.dst undef) w:=by
 unfold A6 at hr
 split at hr
 ·rename_i q hq;cases hr;exact Q9 h hC hcl hΦ ht hj hq hrun hK
 ·cases hr
  simp[PI.runs,PI.run,PU,PE.ev,D.b_bool] at hrun
end
end Cx
