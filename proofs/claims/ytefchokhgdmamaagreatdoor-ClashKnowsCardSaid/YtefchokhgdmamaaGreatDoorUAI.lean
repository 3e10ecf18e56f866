/-
  Shared texts of this claim.
-/
import Derived.Test.YtefchokhgdmamaaGreatDoorUAH
import Derived.Below
import Derived.ChangeSame
import Derived.WalkKit
import Derived.ProofKit
import Derived.OpenShut
import Derived.Carry
import Derived.JoinedCond
set_option linter.unusedSimpArgs false
set_option linter.unusedVariables false
noncomputable section
namespace Cx
open Go Go.RowKit
def Vu (m:Nat)(s:Sig):Snap:=⟨s.args.map .dat++List.replicate (m-s.args.length) .none,[]⟩
def lO (ds:List D):Env:=⟨fun t=>ds.getD t .none,fun _=>.none⟩
def zb (C:Ctx)(fn:Func)(s:Sig)(ids:List Nat)(S0:Snap):Option PC:=
 match fn.body with
 |some c=>
  (comp C fn s fn.ntmps ids (J9 C fn.ntmps ids) false c S0).bind fun r=>
    match r.out with
    |none=>some r.pc
    |some S=>(xH C fn s (S.st ids)).map fun e=>.seq r.pc (.ret e)
 |none=>none
def Mr (m:Nat)(shs:List Sh)(obs:List (Nat×Ob))(ids:List Nat):Snap:=⟨shs++List.replicate (m-shs.length) .none,ids.map (eN obs)⟩
def Hj (shs:List Sh)(obs:List (Nat×Ob))(ds:List D):Env:=mX obs ds (ds.drop shs.length)
def DK (l:List Nat):Nat→List Sh→Bool
 |_,[]=>true
 |t,s::ss=>(nJ s|| !fU l t)&&DK l (t+1) ss
def AV:List (Nat×Ob)→Nat→List PI
 |[],_=>[]
 |x::l,k=>AV l (k+1)++[.setO x.1 (.r k)]
theorem abV {Φ:aV}:∀(l:List (Nat×Ob)) (k:Nat) (ρ:Env) (ds:List D),(∀i,ρ.r (k+i)=ds.getD i .none)→(∀j,ρ.o j=.none)→PI.runs Φ (AV l k) ρ=some ⟨ρ.r,fun j=>nM l ds j⟩
 |[],k,ρ,ds,h,ho=>by
  simp only[AV,PI.runs]
  congr 1
  cases ρ with|mk r o=>congr 1;funext j;exact ho j
 |x::l,k,ρ,ds,h,ho=>by
  simp only[AV,pf]
  rw[abV l (k+1) ρ ds.tail (fun i=>by
   have:=h (i+1);rw[tS,Bi 1 i,this];cases ds<;>simp) ho]
  simp only[ko,PI.runs,PI.run,PE.ev,Env.setO]
  congr 1
  congr 1
  funext j;rw[fK];have h0:=h 0;simp only[iz] at h0;cases ds with
  |nil=>
   have e:∀m j,nM m [] j=D.none:=fun m j=>by cases m<;>rfl
   rw[h0];split<;>simp[e]
  |cons d ds=>
   simp only[nM,List.tail_cons];by_cases hj:j=x.1
   ·subst hj;rw[if_pos rfl,iI,h0];rfl
   ·rw[if_neg hj,fu (fun e=>hj e.symm)];rfl
theorem aoU {Φ:aV}(shs:List Sh)(obs:List (Nat×Ob))(ds:List D):PI.runs Φ (AV obs shs.length) (lO ds)=some (Hj shs obs ds):=by
 rw[abV obs shs.length (lO ds) (ds.drop shs.length) (fun i=>by simp[lO,aH]) (fun j=>rfl)];rfl
def F6 (fn:Func):List Nat:=match fn.body with|some c=>cG c|none=>[]
def uU:List (Nat×Ob)→Bool
 |[]=>true
 |x::l=>(match x.2 with|.tr=>false|_=>true)&&uU l
def mF (C:Ctx)(fn:Func)(s:Sig)(ids:List Nat):Option PC:=
 match C.yl with
 |none=>
  match s.mode with
  |.ob shs obs=>bif Nat.ble shs.length fn.ntmps&&DK (F6 fn) 0 shs&&shs.all tl&&uU obs then(zb C fn s ids (Mr fn.ntmps shs obs ids)).map fun pc=>.seq (.is (AV obs shs.length)) pc else none
  |_=>bif Nat.ble s.args.length fn.ntmps then zb C fn s ids (Vu fn.ntmps s) else none
 |some _=>none
theorem Yk:∀(ids:List Nat) (j:Nat),dY ids [] j=.dead
 |[],_=>rfl
 |_::_,_=>rfl
theorem Vd {C:Ctx}{Φ:aV}(aS:eD C)(hΦ:dQ C Φ)(je:ki C Φ){fn:Func}{s:Sig}{ids:List Nat}{S0:Snap}{pc:PC}{c:Code}(hb:fn.body=some c)(hc:zb C fn s ids S0=some pc){w0:World}{σ0:Base}(iN:σ0.fin)(hC:CtxOK C σ0)(hY:qN C Φ w0 σ0)
 {N:Nat} {ρ:Env} {d:D} {a:Act} {w:World} (hn:a.tmps.size=fn.ntmps) (hg:Good C w0 σ0 (S0.st ids) ρ (fun _=>False) a w) (he:pc.ev Φ N ρ=some (.ret d)):
 c.wpIn (FR none) 0 C.P (fun e a' w'=>(e=.normal∨e=.ret)∧sk C w0 σ0 fn s d a'.tmps a'.defers w'∧SameBut (fun t=>t∈cG c) a a') a w:=by
 unfold zb at hc;rw[hb] at hc;simp only[ao] at hc;obtain⟨r,hr,hc⟩:=hc;have Oc:=fun x hx=>aeP (fn:=fn) (s:=s) (N:=N) je (aop (n:=fn.ntmps) (ids:=ids) aS hΦ) c false S0 r hr none w0 σ0 (fun t=>t∈cG c) ρ x a w (fun _=>⟨rfl,iN⟩) hC hY (fun _ h=>h) hn hg hx;split at hc
 ·rename_i kz;cases hc;refine wpIn_mono (Oc (.ret d) he) fun e a' w' ho=>?_;cases e with
  |normal=>obtain⟨_,_,h,_⟩:=ho;cases h
  |exit id=>obtain⟨_,_,h,_⟩:=ho;cases h
  |ret=>obtain⟨d',h,h2⟩:=ho;cases h;exact⟨.inr rfl,h2⟩
  |_=>exact ho.elim
 ·rename_i S kz;simp only[ax] at hc;obtain⟨pe,uD,rfl⟩:=hc;simp only[PC.ev] at he;split at he
  ·rename_i ρ1 h1;cases he;refine wpIn_mono (Oc (.next ρ1) h1) fun e a' w' ho=>?_;cases e with
   |normal=>
    obtain⟨ρ2,S2,e1,e2,p8,db⟩:=ho;cases e1;rw[kz] at e2;cases e2;obtain⟨σ2,own,hv,hi⟩:=db;exact⟨.inl rfl,Inv.retD hC (fun _=>rfl) iN uD _ hi rfl,p8⟩
   |exit id=>obtain⟨_,_,h,_⟩:=ho;cases h
   |ret=>obtain⟨d',h,h2⟩:=ho;cases h
   |_=>exact ho.elim
  ·rename_i ay;refine wpIn_mono (Oc (.ret d) he) fun e a' w' ho=>?_;cases e with
   |normal=>obtain⟨_,_,h,_⟩:=ho;cases h
   |exit id=>obtain⟨_,_,h,_⟩:=ho;cases h
   |ret=>obtain⟨d',h,h2⟩:=ho;cases h;exact⟨.inr rfl,h2⟩
   |_=>exact ho.elim
theorem sk.leaves {C:Ctx}{w0:World}{σ0:Base}{fn:Func}{s:Sig}{d:D}{tmps:Array Value}{R:Ending→World→Prop}(hR:∀w',Lc C w0 σ0 fn s d {tmps:=tmps,defers:=[]} w'→∃v,(results fn tmps).run C.P w'=.ok v w'∧R (.returned v) w'):
 ∀(ds:List Deferred) (w:World),sk C w0 σ0 fn s d tmps ds w→LeavesInM (FR none) 0 C.P fn tmps R ds .returning w
 |[],w,h=>hR w h
 |x::ds,w,⟨D,h1,h2,h3⟩=>⟨by simp,.inl ⟨D,_,h1,run_takeDeferred h2,sk.leaves hR ds _ h3⟩⟩
theorem afU {C:Ctx}{σ:Im}{w:World}{args:Array Value}{ds:List D}{s:Sig}{m:Nat}{ids:List Nat}(az:σ.ok w)(ha:qF C σ s.args args.toList ds):
 Good C w (Base.mk0 σ w.heap.size) ((Vu m s).st ids) (lO ds) (fun _=>False) {tmps:=args++Array.replicate (m-args.size) undef,defers:=[]} w:=by
 obtain⟨h1,h2,h3⟩:=ha;have aC:args.size=s.args.length:=by simpa using h1
 refine⟨σ,fun _=>none,fun _=>undef,trivial,az,.refl σ,fun _ k e=>(az.m k _ e).lt,fun _ _ _ h=>.inl h,fun _ _ h=>.inl h,.refl _ _,aX _,(fun k j h=>by cases h),fun t=>?_,fun j=>?_,fun t gs s' e=>absurd e (Snap.noOpt _ _ t gs s'),
  .none,fun _=>False,fun _=>False,⟨⟨fun _=>id,fun _=>id⟩,(fun k j h=>by cases h),fun _ _ _ _=>id,fun _ _ _=>id,fun _ _ _=>id⟩,fun j hj=>?_⟩
 ·show aE C _ _ σ _ (cQ ((s.args.map Sh.dat++List.replicate (m-s.args.length) Sh.none).getD t .none)) _ _;rw[aH];by_cases ht:t<s.args.length
  ·rw[kT (by simpa using ht),cK,bu ht];simp only[kU,nr,cQ];have:=h3 t _ (bu ht);have e1:(args++Array.replicate (m-args.size) undef).getD t undef=args.toList.getD t undef:=by
        simp only[eK,aH];rw[TM (by omega)];simp
   show aE C _ _ σ _ (.dat _) ((args++Array.replicate (m-args.size) undef).getD t undef) (ds.getD t .none);rw[e1];exact this
  ·rw[jx (by simpa using ht),acV];split<;>trivial
 ·show cC C _ _ σ _ _ w _ j (dY ids [] j);rw[Yk];trivial
 ·change dY ids [] j=.tr at hj;rw[Yk] at hj;cases hj
theorem Mc {C:Ctx}{Φ:aV}(aS:eD C)(hΦ:dQ C Φ)(je:ki C Φ){f:Nat}{fn:Func}{s:Sig}{ids:List Nat}{pc:PC}(hf:C.P.funcs[f]?=some fn)(hc:mF C fn s ids=some pc){N:Nat}{ds:List D}{d:D}(cU:qj s.mode=false)
 (he:pc.ev Φ N (lO ds)=some (.ret d)):gX C f s ds d:=by
 intro σ w args az hC ha;unfold mF at hc;split at hc
 case h_2=>cases hc
 rename_i mP;split at hc
 case h_1=>rename_i e;rw[e] at cU;cases cU
 cases hle:Nat.ble s.args.length fn.ntmps<;>simp only[hle,cond_true,cond_false] at hc
 ·cases hc
 have Nv:=km hle;have aC:args.size=s.args.length:=by simpa using ha.1
 cases hb:fn.body with
 |none=>unfold zb at hc;rw[hb] at hc;cases hc
 |some c=>
 refine(callsIn_wide (n:=0)).1 (callsIn_of_wp_marks (F:=FR none) hf hb trivial ?_);have hg:=afU (C:=C) (m:=fn.ntmps) (ids:=ids) az ha;have hn:(args++Array.replicate (fn.ntmps-args.size) undef).size=fn.ntmps:=by simp;omega
 refine wpIn_mono (Vd aS hΦ je hb hc (σ0:=Base.mk0 σ w.heap.size) trivial hC (fun J ys e=>by rw[mP] at e;cases e) hn hg he) fun e a' w' ho=>?_
 have main:=sk.leaves (R:=fun e w'=>∃v σ',e=.returned v∧σ.le σ'∧σ'.ok w'∧Below w.heap.size w w'∧
  (∀k o x,σ'.c k o=some x→σ.c k o=some x∨w.heap.size≤k)∧(∀k x,σ'.m k=some x→σ.m k=some x∨w.heap.size≤k)∧mz C s σ' w w' v d) (fun w2 N6=>by
  obtain⟨v,σ',_,h2,h3,h4,h5,h6,h7,h8⟩:=N6;exact⟨v,h2,v,σ',rfl,h3,h4,h5,h6,h7,h8⟩) _ _ ho.2.1
 rcases ho.1 with rfl|rfl<;>exact main
def Base.mkO (σ:Im)(own:Nat→Option Nat)(w:World)(cx:Nat→Prop):Base:=
 {σ with
  B:=0
  fin:=True
  F:=fun _ fx lN w'=>(∀k,fx k↔(k<w.heap.size∧own k=none))∧(∀k,lN k↔(fx k∧cx k))∧w.heap.size≤w'.heap.size∧∀k,fx k→w'.heap[k]?=w.heap[k]?
  lt:=fun t' fx cx w' h k hk=>vP ((h.1 k).1 hk).1 h.2.2.1
  sub:=fun t' fx cx w' h k hk=>((h.2.1 k).1 hk).1
  keep:=fun t' fx cx w' kO h hb hs=>⟨h.1,h.2.1,cL h.2.2.1 hb.size,fun k hk=>(hs k hk).trans (h.2.2.2 k hk)⟩}
theorem X3 {l:List Nat}:∀{shs:List Sh} {k:Nat},DK l k shs=true→∀(t:Nat) (s:Sh),shs[t]?=some s→nJ s=false→(k+t)∉l
 |[],k,_,t,s,h,_=>by simp at h
 |x::shs,k,hk,t,s,h,hd=>by
  simp only[DK,aj,gF,iy] at hk;cases t with
  |zero=>
   simp at h;subst h;rcases hk.1 with h1|h1
   ·rw[hd] at h1;cases h1
   ·intro hm;rw[iz] at hm;rw[(qk _ _).2 hm] at h1;cases h1
  |succ t=>
   simp at h;have:=X3 hk.2 t s h hd
   rwa [tS,Bi 1 t] at this
theorem OY (obs:List (Nat×Ob))(j:Nat):∀ids:List Nat,dY ids (ids.map (eN obs)) j=.dead∨dY ids (ids.map (eN obs)) j=eN obs j
 |[]=>.inl rfl
 |i::is=>by
  simp only[gG,dY];cases hb:Nat.beq i j
  ·exact OY obs j is
  ·right;rw[aw hb];rfl
theorem YU:∀{l:List (Nat×Ob)},uU l=true→∀x,x∈l→x.2≠.tr
 |[],_,x,hx=>by cases hx
 |y::l,h,x,hx=>by
  simp only[uU,aj] at h;rcases cW.1 hx with rfl|hx
  ·intro e;rw[e] at h;cases h.1
  ·exact YU h.2 x hx
theorem YV:∀{l:List (Nat×Ob)},uU l=true→∀j,eN l j≠.tr
 |[],_,j,e=>by cases e
 |x::l,h,j,e=>by
  simp only[uU,aj] at h;simp only[eN] at e;cases hb:Nat.beq x.1 j<;>simp only[hb,cond_true,cond_false] at e
  ·exact YV h.2 j e
  ·have h1:=h.1;rw[e] at h1;cases h1
theorem afT {C:Ctx}{σ:Im}{own:Nat→Option Nat}{hv:Nat→Value}{w w0:World}{args:Array Value}{cx:Nat→Prop}{shs:List Sh}{obs:List (Nat×Ob)}{ds:List D}{m:Nat}{ids:List Nat}(hN:w0.heap.size≤w.heap.size)(CG:Below 0 w0 w)(az:σ.ok w)(bj:∀k,σ.m k≠some da)(aC:args.size=shs.length)
 (aZ:∀k j,own k=some j→w0.heap.size≤k∧k<w.heap.size∧(∀o,σ.c k o=none)∧σ.m k=none) (lj:∀k,cx k→k<w.heap.size∧own k=none∧(∀o,σ.c k o=none)∧σ.m k=none) (wV:uU obs=true) (fF:shs.all tl=true)
 (h1:∀t,aE C (gj shs obs) (Hj shs obs ds) σ hv (shs.getD t .none) (args.getD t undef) (ds.getD t .none)) (h2:∀j,cC C (gj shs obs) (Hj shs obs ds) σ own hv w w0.heap.size j (eN obs j)):
 Good C w0 (Base.mkO σ own w cx) ((Mr m shs obs ids).st ids) (Hj shs obs ds) (fun _=>False) {tmps:=args++Array.replicate (m-args.size) undef,defers:=[]} w:=by
 have re:Compat (gj shs obs) hv ((Mr m shs obs ids).st ids) hv:=⟨fun _=>aX _,fun _ _=>rfl⟩
 refine⟨σ,own,hv,trivial,az,.refl σ,fun _ k e=>absurd e (bj k),fun _ _ _ h=>.inl h,fun _ _ h=>.inl h,CG,oc _,aZ,fun t=>?_,fun j=>?_,fun t gs s' e=>absurd e (Snap.noOpt _ _ t gs s'),
  .none,(fun k=>k<w.heap.size∧own k=none),cx,⟨⟨fun _=>Iff.rfl,fun k=>⟨fun h=>⟨⟨(lj k h).1,(lj k h).2.1⟩,h⟩,fun h=>h.2⟩,aX _,fun _ _=>rfl⟩,(fun k j h hf=>by rw[hf.2] at h;cases h),(fun k o x e hc=>by rw[(lj k hc).2.2.1 o] at e;cases e),(fun k x e hc=>by rw[(lj k hc).2.2.2] at e;cases e),fun k e=>absurd e (bj k)⟩,fun j hj=>?_⟩
 ·show aE C _ _ σ _ (cQ ((shs++List.replicate (m-shs.length) Sh.none).getD t .none)) _ _;refine KH ?_;rw[aH];by_cases ht:t<shs.length
  ·rw[kT ht];have:=h1 t;rw[aH (l:=shs)] at this;have e1:(args++Array.replicate (m-args.size) undef).getD t undef=args.getD t undef:=by
        simp only[eK];rw[TM (by omega)]
   show aE C _ _ σ _ _ ((args++Array.replicate (m-args.size) undef).getD t undef) (ds.getD t .none);rw[e1];refine aE.mono' (.refl σ) re (fun gs s' e=>?_) this;have hp:=bz.1 fF _ (dJ ht);rw[bu ht] at e;simp only[nr] at e;rw[e] at hp;cases hp
  ·rw[jx (by omega),acV];split<;>trivial
 ·show cC C _ _ σ _ _ w _ j (dY ids (ids.map (eN obs)) j);rcases OY obs j ids with e|e
  ·rw[e];trivial
  ·rw[e];exact(h2 j).mono (.refl σ) re rfl rfl (fun k hk=>⟨hk,rfl⟩)
 ·change dY ids (ids.map (eN obs)) j=.tr at hj;rcases OY obs j ids with e|e
  ·rw[e] at hj;cases hj
  ·rw[e] at hj;exact absurd hj (YV wV j)
def Hf (w:World)(N:Nat):World:={w with heap:=w.heap.extract 0 N}
theorem aeK {C:Ctx}{Φ:aV}(aS:eD C)(hΦ:dQ C Φ)(je:ki C Φ){f:Nat}{fn:Func}{s:Sig}{ids:List Nat}{pc:PC}(hf:C.P.funcs[f]?=some fn)(hc:mF C fn s ids=some pc){N:Nat}{ds:List D}{d:D}{shs:List Sh}{obs:List (Nat×Ob)}(cU:s.mode=.ob shs obs)
 (he:pc.ev Φ N (lO ds)=some (.ret d)):gY C f shs obs s.res ds d:=by
 unfold mF at hc;split at hc
 case h_2=>cases hc
 rename_i mP;rw[cU] at hc;simp only at hc;cases hle:(Nat.ble shs.length fn.ntmps&&DK (F6 fn) 0 shs&&shs.all tl&&uU obs)<;>simp only[hle,cond_true,cond_false] at hc
 ·cases hc
 simp only[aj] at hle;obtain⟨⟨⟨l1,l2⟩,l3⟩,l4⟩:=hle;refine gY.of (YU l4) ?_;intro B σ own hv w args cx _ az hC bj hB aC aZ lj h1 h2;simp only[ax] at hc;obtain⟨pc,hc,rfl⟩:=hc;simp only[PC.ev,aoU,kU] at he;have Nv:=km l1;cases hb:fn.body with
 |none=>unfold zb at hc;rw[hb] at hc;cases hc
 |some c=>
 have bX:F6 fn=cG c:=by unfold F6;rw[hb]
 rw[bX] at l2;refine(callsIn_wide (n:=0)).1 (callsIn_of_wp_marks (F:=FR none) hf hb trivial ?_);have mN:(Hf w B).heap.size=B:=by simp[Hf];omega
 have CG:Below 0 (Hf w B) w:=⟨rfl,rfl,rfl,by rw[mN];exact hB,fun k hk=>by omega⟩
 have hg:=afT (C:=C) (m:=fn.ntmps) (ids:=ids) (w0:=Hf w B) (cx:=cx) (by rw[mN];exact hB) CG az bj aC (by rw[mN];exact aZ) lj l4 l3 h1 (by rw[mN];exact h2);have hn:(args++Array.replicate (fn.ntmps-args.size) undef).size=fn.ntmps:=by simp;omega
 refine wpIn_mono (Vd aS hΦ je hb hc (σ0:=Base.mkO σ own w cx) trivial hC (fun J ys e=>by rw[mP] at e;cases e) hn hg he) fun e a' w' ho=>?_;obtain⟨j4,N6,fh⟩:=ho
 have main:=sk.leaves (R:=fun e w'=>∃v σ' own' hv' dr os,e=.returned v∧d=.tup (dr::os)∧os.length=obs.length∧σ.le σ'∧σ'.ok w'∧Below 0 w w'∧
  (∀k,k<w.heap.size→own k=none→w'.heap[k]?=w.heap[k]?)∧
  (∀k o x,σ'.c k o=some x→(σ.c k o=some x∨B≤k)∧¬cx k)∧(∀k x,σ'.m k=some x→(σ.m k=some x∨B≤k)∧¬cx k)∧(∀k,σ'.m k=some da→B≤k→k<w.heap.size→own k≠none)∧
  (∀k j,own' k=some j→B≤k∧k<w'.heap.size∧(∀o,σ'.c k o=none)∧σ'.m k=none∧(k<w.heap.size→own k≠none))∧
  (∀(t:Nat) (sh:Sh),shs[t]?=some sh→nJ sh=false→aE C (gj shs obs) (mX obs ds os) σ' hv' sh (args.getD t undef) (ds.getD t .none))∧
  (∀j,cC C (gj shs obs) (mX obs ds os) σ' own' hv' w' B j (eN obs j))∧Rep C.cap σ' s.res v dr) (fun w2 hr=>by
  obtain⟨v,σ',⟨own',t,fx,lN,dm,_,hor⟩,af,j8,NQ,CF,dp,dq,_⟩:=hr;obtain⟨hv',dr,os,e1,e2,e3,e4,e5,e6⟩:=hor shs obs cU;obtain⟨f1,f2,f3,f4⟩:=dm.F;have WB:∀k,cx k→lN k:=fun k hk=>(f2 k).2 ⟨(f1 k).2 ⟨(lj k hk).1,(lj k hk).2.1⟩,hk⟩;rw[mN] at dp dq e3 e5
  refine⟨v,af,v,σ',own',hv',dr,os,rfl,e1,e2,j8,NQ,⟨CF.os,CF.tape,CF.output,f3,fun k hk=>by omega⟩,fun k hk hn=>f4 k ((f1 k).2 ⟨hk,hn⟩),fun k o x e=>⟨dp k o x e,fun hk=>dm.c k o x e (WB k hk)⟩,fun k x e=>⟨dq k x e,fun hk=>dm.m k x e (WB k hk)⟩,
   fun k e lT hk hn=>dm.d k e (by rw[mN];exact lT) ((f1 k).2 ⟨hk,hn⟩),fun k j hk=>?_,fun t sh hs hd=>?_,fun j=>?_,e6⟩
  ·obtain⟨g1,g2,g3,g4⟩:=e3 k j hk;exact⟨g1,g2,g3,g4,fun ae hn=>dm.own k j hk ((f1 k).2 ⟨ae,hn⟩)⟩
  ·have:=e4 t sh hs hd (ds.getD t .none);have ae:t<shs.length:=(eE.1 hs).1;have nD:t∉cG c:=by have:=X3 l2 t sh hs hd;simpa using this
   have cl:a'.tmps.getD t undef=args.getD t undef:=by
        rw[fh.get t nD];simp only[eK];rw[TM (by omega)]
   simp only at this;rw[cl] at this;have hp:=bz.1 l3 _ (kl hs);exact aE.mono' (.refl σ') ⟨fun _=>aX _,fun _ _=>rfl⟩ (fun gs s' e=>by rw[e] at hp;cases hp) this
  ·exact cC.mono (S:=gj shs obs) (S':=gj shs obs) (ρ:=mX obs [] os) (ρ':=mX obs ds os) (hv:=hv') (hv':=hv') (own:=own') (own':=own') (w:=w2) (w':=w2) (.refl σ') ⟨fun _=>aX _,fun _ _=>rfl⟩ rfl rfl (fun k hk=>⟨hk,rfl⟩) (e5 j)) _ _ N6
 rcases j4 with rfl|rfl<;>exact main
open Classical in
def fM (tab:Nat→Option PC)(ext:Nat→Option (aV→List D→Option D)):Nat→aV
 |0=>fun _ _=>none
 |n+1=>fun f ds=>
  match ext f with
  |some g=>g (fM tab ext n) ds
  |none=>
   match tab f with
   |some pc=>(match pc.ev (fM tab ext n) n (lO ds) with|some (.ret d)=>some d|_=>none)
   |none=>none
theorem gX.hint {C:Ctx}{fr nh:List Nat}{f:Nat}{s:Sig}{ds:List D}{d:D}(h:gX C f s ds d):gX {C with fr:=fr,nh:=nh} f s ds d:=
 fun σ w args az hC ha=>h σ w args az ⟨hC.glob⟩ ha
theorem gX.unhint {C:Ctx}{fr nh:List Nat}{f:Nat}{s:Sig}{ds:List D}{d:D}(h:gX {C with fr:=fr,nh:=nh} f s ds d):gX C f s ds d:=
 fun σ w args az hC ha=>h σ w args az ⟨hC.glob⟩ ha
theorem xY.hint {C:Ctx}{fr nh:List Nat}{f:Nat}{He ys:List Ty}{ds xs:List D}(h:xY C f He ys ds xs):xY {C with fr:=fr,nh:=nh} f He ys ds xs:=
 fun σ w yv vs F fx cx m az hC=>h σ w yv vs F fx cx m az ⟨hC.glob⟩
theorem gY.hint {C:Ctx}{fr nh:List Nat}{f:Nat}{shs:List Sh}{obs:List (Nat×Ob)}{res:Ty}{ds:List D}{d:D}(h:gY C f shs obs res ds d):gY {C with fr:=fr,nh:=nh} f shs obs res ds d:=h.ctx rfl rfl rfl
theorem gY.unhint {C:Ctx}{fr nh:List Nat}{f:Nat}{shs:List Sh}{obs:List (Nat×Ob)}{res:Ty}{ds:List D}{d:D}(h:gY {C with fr:=fr,nh:=nh} f shs obs res ds d):gY C f shs obs res ds d:=gY.ctx (C':=C) h rfl rfl rfl
theorem dQ.hint {C:Ctx}{fr nh:List Nat}{Φ:aV}(h:dQ C Φ):dQ {C with fr:=fr,nh:=nh} Φ:=
 fun f ds d e s hs=>⟨fun hm=>((h f ds d e s hs).1 hm).hint,fun shs obs hm=>((h f ds d e s hs).2 shs obs hm).hint⟩
theorem ki.hint {C:Ctx}{fr nh:List Nat}{Φ:aV}(h:ki C Φ):ki {C with fr:=fr,nh:=nh} Φ:=
 fun f cs ys hc hi=>let⟨h1,h2⟩:=h f cs ys hc hi;⟨h1,fun ds d e=>let⟨xs,e1,e2,e3⟩:=h2 ds d e;⟨xs,e1,e2,e3.hint⟩⟩
theorem eD.hint {C:Ctx}{fr nh:List Nat}(h:eD C):eD {C with fr:=fr,nh:=nh}:=h
def FE (C:Ctx)(f:Nat)(s:Sig)(ds:List D)(d:D):Prop:=(qj s.mode=false→gX C f s ds d)∧∀shs obs,s.mode=.ob shs obs→gY C f shs obs s.res ds d
structure TabOK (C:Ctx) (tab:Nat→Option PC) (ext:Nat→Option (aV→List D→Option D)):Prop where
 clos:eD C
 its:∀f cs ys,C.cap f=some cs→mS cs.args cs.res=some ys→tab f=none∧∃fn,C.P.funcs[f]?=some fn∧fn.body.isSome=true∧(fn.name== "runtime.NumGoroutine")=false
 tab:∀f pc,ext f=none→tab f=some pc→∃fn s ids fr nh,C.P.funcs[f]?=some fn∧C.sig f=some s∧mF {C with fr:=fr,nh:=nh} fn s ids=some pc
 ext:∀f g,ext f=some g→∀Φ,dQ C Φ→ki C Φ→∀ds d,g Φ ds=some d→(∀s,C.sig f=some s→FE C f s ds d)∧
  ∀cs ys,C.cap f=some cs→mS cs.args cs.res=some ys→∃xs,d=.list xs∧(∀x,x∈xs→∃ds',x=.tup ds'∧ds'.length=ys.length)∧xY C f cs.caps ys ds xs
theorem Uo {C:Ctx}{tab:Nat→Option PC}{ext:Nat→Option (aV→List D→Option D)}(h:TabOK C tab ext):∀n,dQ C (fM tab ext n)∧ki C (fM tab ext n)
 |0=>⟨fun f ds d e=>by simp[fM] at e,fun f cs ys hc hi=>⟨(h.its f cs ys hc hi).2,fun ds d e=>by simp[fM] at e⟩⟩
 |n+1=>by
  obtain⟨ih,mR⟩:=Uo h n;refine⟨fun f ds d e=>?_,fun f cs ys hc hi=>⟨(h.its f cs ys hc hi).2,fun ds d e=>?_⟩⟩
  ·simp only[fM] at e;split at e
   ·rename_i g hg;exact(h.ext f g hg _ ih mR ds d e).1
   ·rename_i hx;split at e
    ·rename_i pc ah;split at e
     ·rename_i d' he;cases e;obtain⟨fn,s,ids,fr,nh,h1,h2,h3⟩:=h.tab f pc hx ah;intro s' qe;rw[h2] at qe;cases qe
      exact⟨fun hm=>(Mc (C:={C with fr:=fr,nh:=nh}) (eD.hint h.clos) (dQ.hint ih) (ki.hint mR) h1 h3 hm he).unhint,
       fun shs obs hm=>(aeK (C:={C with fr:=fr,nh:=nh}) (eD.hint h.clos) (dQ.hint ih) (ki.hint mR) h1 h3 hm he).unhint⟩
     ·cases e
    ·cases e
  ·simp only[fM] at e;split at e
   ·rename_i g hg;exact(h.ext f g hg _ ih mR ds d e).2 cs ys hc hi
   ·rw[(h.its f cs ys hc hi).1] at e;cases e
open Classical in
def bm {α:Type}:List (Nat×α)→Nat→Option α
 |[],_=>none
 |x::l,f=>bif Nat.beq x.1 f then some x.2 else bm l f
def Fy {α:Type}(R:Nat→α→Prop):List (Nat×α)→Prop
 |[]=>True
 |x::l=>R x.1 x.2∧Fy R l
theorem OZ {α:Type}{R:Nat→α→Prop}:∀{l:List (Nat×α)},Fy R l→∀f x,bm l f=some x→R f x
 |[],_,f,x,h=>by cases h
 |y::l,⟨h1,h2⟩,f,x,h=>by
  simp only[bm] at h;cases hb:Nat.beq y.1 f<;>simp only[hb,cond_true,cond_false] at h
  ·exact OZ h2 f x h
  ·cases h;rw[←cX hb];exact h1
def RB (P:Program):List (Nat×Sig)→Bool
 |[]=>true
 |x::l=>(match P.funcs[x.1]? with|some fn=>fn.body.isSome&& !(fn.name== "runtime.NumGoroutine")|none=>false)&&RB P l
theorem acf {P:Program}:∀{l:List (Nat×Sig)},RB P l=true→∀f s,bm l f=some s→∃fn,P.funcs[f]?=some fn∧fn.body.isSome=true∧(fn.name== "runtime.NumGoroutine")=false
 |[],_,f,s,h=>by cases h
 |y::l,hl,f,s,h=>by
  simp only[RB,aj] at hl;simp only[bm] at h;cases hb:Nat.beq y.1 f<;>simp only[hb,cond_true,cond_false] at h
  ·exact acf hl.2 f s h
  ·rw[←cX hb];have h1:=hl.1;split at h1
   ·rename_i fn e;simp only[aj,iy] at h1;exact⟨fn,e,h1.1,h1.2⟩
   ·cases h1
def Rs (a b:Sig):Bool:=Ty.beqs a.args b.args&&Ty.beq a.res b.res&&(match a.mode,b.mode with|.dat,.dat=>true|_,_=>false)
theorem ao2 {a b:Sig}(h:Rs a b=true):a=b:=by
 obtain⟨a1,a2,a3⟩:=a;obtain⟨b1,b2,b3⟩:=b;simp only[Rs,aj] at h;rw[Ty.beqs_eq _ _ h.1.1,Ty.beq_eq _ _ h.1.2];cases a3<;>cases b3<;>first|rfl|(have:=h.2;cases this)
def Fp (P:Program)(f:Nat):Bool:=match P.funcs[f]? with|some fn=>fn.body.isSome&& !(fn.name== "runtime.NumGoroutine")|none=>false
theorem apm {P:Program}{f:Nat}(h:Fp P f=true):∃fn,P.funcs[f]?=some fn∧fn.body.isSome=true∧(fn.name== "runtime.NumGoroutine")=false:=by
 unfold Fp at h;split at h
 ·rename_i fn e;simp only[aj,iy] at h;exact⟨fn,e,h.1,h.2⟩
 ·cases h
def L3 (P:Program)(sig:List (Nat×Sig))(pcs:List Nat):List (Nat×CSig)→Bool
 |[]=>true
 |x::l=>(match mS x.2.args x.2.res with
   |none=>(match bm sig x.1 with|some s=>Rs s ⟨x.2.args++x.2.caps,x.2.res,.dat⟩|none=>false)
   |some _=> !fU pcs x.1&&Fp P x.1)&&L3 P sig pcs l
theorem UY {P:Program}{sig:List (Nat×Sig)}{pcs:List Nat}:∀{l:List (Nat×CSig)},L3 P sig pcs l=true→∀f cs,bm l f=some cs→
 (mS cs.args cs.res=none→bm sig f=some ⟨cs.args++cs.caps,cs.res,.dat⟩)∧∀ys,mS cs.args cs.res=some ys→fU pcs f=false∧Fp P f=true
 |[],_,f,cs,h=>by cases h
 |x::l,hl,f,cs,h=>by
  simp only[L3,aj] at hl;simp only[bm] at h;cases hb:Nat.beq x.1 f<;>simp only[hb,cond_true,cond_false] at h
  ·exact UY hl.2 f cs h
  ·cases h;rw[←cX hb];have h1:=hl.1;refine⟨fun e=>?_,fun ys e=>?_⟩
   ·rw[e] at h1;simp only at h1;split at h1
    ·rename_i s hs;rw[hs,ao2 h1]
    ·cases h1
   ·rw[e] at h1;simpa using h1
theorem Yi {α:Type}:∀{l:List (Nat×α)} {f:Nat},fU (l.map (·.1)) f=false→bm l f=none
 |[],f,_=>rfl
 |x::l,f,h=>by
  simp only[gG,fU,List.any_cons,TS] at h;simp only[bm];have hb:Nat.beq x.1 f=false:=by
   cases e:Nat.beq x.1 f
   ·rfl
   ·rw[aw e,iI] at h;cases h.1
  rw[hb];exact Yi (l:=l) h.2
def acY (Φ:aV)(pa pb:PC)(ds:List D)(d:D):Prop:=(∃N xs,pa.ev Φ N (lO ds)=some (.ret (.list xs))∧xs≠[]∧d=.list xs)∨∃N,pb.ev Φ N (lO ds)=some (.ret (.list []))∧d=.list []
open Classical in
def Ac (pa pb:PC)(spec:List D→D):aV→List D→Option D:=fun Φ ds=>if acY Φ pa pb ds (spec ds) then some (spec ds) else none
theorem amx {C:Ctx}{Φ:aV}(aS:eD C)(hΦ:dQ C Φ)(je:ki C Φ){f:Nat}{fn:Func}{args:List Ty}{e:Ty}{ids akA fr nh VY YT:List Nat}{pa pb:PC}(hf:C.P.funcs[f]?=some fn)(ha:mF {C with fr:=fr,nh:=nh} fn ⟨args,.slice e,.dat⟩ ids=some pa)
 (hb:mF {C with fr:=VY,nh:=YT} fn ⟨args,.nils .bool,.dat⟩ akA=some pb) {spec:List D→D} {ds:List D} {d:D} (h:Ac pa pb spec Φ ds=some d):gX C f ⟨args,.nsl e,.dat⟩ ds d:=by
 unfold Ac at h;split at h
 case isFalse=>cases h
 rename_i hs;cases h;rcases hs with⟨N,xs,h1,h2,h3⟩|⟨N,h1,h2⟩
 ·rw[h3];have:=(Mc (C:={C with fr:=fr,nh:=nh}) (eD.hint aS) (dQ.hint hΦ) (ki.hint je) hf ha (N:=N) rfl h1).unhint;intro σ w aa az hC jh;refine(this σ w aa az hC jh).mono fun en w' hh=>?_;obtain⟨v,σ',g1,g2,g3,g4,g5,g6,g7⟩:=hh;refine⟨v,σ',g1,g2,g3,g4,g5,g6,?_⟩;change Rep C.cap σ' (.slice e) v (.list xs) at g7;show Rep C.cap σ' (.nsl e) v (.list xs);generalize hd:D.list xs=dd at g7;cases g7 with
  |nil=>injection hd with hd;exact absurd hd h2
  |emp=>injection hd with hd;exact absurd hd h2
  |slice _ k o n c kQ vs a1 a2 a3 a4 a5=>exact .nsl e k o n c kQ (.slice e k o n c kQ vs a1 a2 a3 a4 a5) (by injection hd with hd;rw[←hd];exact h2)
 ·rw[h2];have:=(Mc (C:={C with fr:=VY,nh:=YT}) (eD.hint aS) (dQ.hint hΦ) (ki.hint je) hf hb (N:=N) rfl h1).unhint;intro σ w aa az hC jh;refine(this σ w aa az hC jh).mono fun en w' hh=>?_;obtain⟨v,σ',g1,g2,g3,g4,g5,g6,g7⟩:=hh;refine⟨v,σ',g1,g2,g3,g4,g5,g6,?_⟩;change Rep C.cap σ' (.nils .bool) v (.list []) at g7;show Rep C.cap σ' (.nsl e) v (.list []);generalize D.list []=dd at g7;cases g7;exact .nsl0 e
end Cx
namespace Cx
open Go Go.RowKit Go.ChangeShapes Go.WideShapes
def l9 (w:World):Im:=
 ⟨fun k o=>w.cell? ⟨k,o,none⟩,fun _=>none⟩
theorem akC (w:World):(l9 w).ok w:=by
 exact⟨fun k o v h=>h,fun k es h=>by cases h⟩
def AQ (P:Program)(r:TypeId→Option Ty):List Field→Nat→Option (List Ty)
 |[],_=>some []
 |f::fs,off=>(r f.type).bind fun ft=>
  bif Nat.beq f.offset off&&Nat.beq (P.cellsOf f.type) ft.flat.length then(AQ P r fs (off+ft.flat.length)).map (ft.flat++·) else none
def gC (P:Program):Nat→TypeId→Option Ty
 |0,_=>none
 |n+1,t=>
  match P.underlying t with
  |some .bool=>some .bool
  |some (.int k)=>some (.int k)
  |some .string=>some .str
  |some (.slice e)=>bif sY P e then some (.slice .trm) else(gC P n e).bind fun te=>bif Nat.beq (P.cellsOf e) te.flat.length&&Nat.ble 1 te.flat.length then some (.slice te) else none
  |some (.struct fs)=>(AQ P (gC P n) fs.toList 0).bind fun ts=>bif Nat.beq (P.cellsOf t) ts.length then some (.agg ts) else none
  |_=>none
theorem akL {P:Program}{e:TypeId}(h:sY P e=true)(n:Nat):gC P (n+2) e=some .trmA∧P.cellsOf e=3:=by
 unfold sY at h;split at h
 case h_2=>cases h
 rename_i fs hu;split at h
 case h_2=>cases h
 rename_i f0 f1 f2 uv;simp only[aj] at h;obtain⟨⟨⟨⟨⟨⟨⟨⟨⟨h0,h1⟩,h2⟩,o0⟩,o1⟩,o2⟩,c0⟩,c1⟩,c2⟩,c3⟩:=h;split at h0
 case h_2=>cases h0
 rename_i u0;split at h1
 case h_2=>cases h1
 rename_i u1;split at h2
 case h_2=>cases h2
 rename_i e' u2;obtain rfl:=aw h2;have r0:gC P (n+1) f0.type=some (.int .i64):=by simp[gC,u0]
 have r1:gC P (n+1) f1.type=some (.int .i64):=by simp[gC,u1]
 have ht:sY P e'=true:=by
  unfold sY;rw[hu];simp only[uv];simp[u0,u1,u2,aw o0,aw o1,aw o2,aw c0,aw c1,aw c2,aw c3]
 have r2:gC P (n+1) f2.type=some (.slice .trm):=by simp[gC,u2,ht]
 refine⟨?_,aw c3⟩;show gC P (n+1+1) e'=_;rw[gC,hu];simp only[uv,AQ,r0,r1,r2,ko,Ty.flat,pv,Bg,o0,c0,Bool.and_self,cond_true];simp[aw o1,aw o2,aw c1,aw c2,aw c3,Ty.trmA]
theorem Q9 {P:Program}{n:Nat}{t:TypeId}{ty:Ty}(h:gC P n t=some ty):ty.rowT=true∨ty.one=true:=by
 cases n with
 |zero=>simp[gC] at h
 |succ n=>
  simp only[gC] at h;split at h
  ·cases h;exact .inr rfl
  ·cases h;exact .inr rfl
  ·cases h;exact .inr rfl
  ·rename_i e _;cases ht:sY P e<;>simp only[ht,cond_true,cond_false] at h
   ·simp only[ao] at h;obtain⟨te,_,h⟩:=h;cases hb:(Nat.beq (P.cellsOf e) te.flat.length&&Nat.ble 1 te.flat.length)<;>simp only[hb,cond_true,cond_false] at h
    ·cases h
    ·cases h;exact .inr rfl
   ·cases h;exact .inr rfl
  ·rename_i fs _;simp only[ao] at h;obtain⟨ts,_,h⟩:=h;cases hb:Nat.beq (P.cellsOf t) ts.length<;>simp only[hb,cond_true,cond_false] at h
   ·cases h
   ·cases h;exact .inl rfl
  ·cases h
def ns (cap:Nat→Option CSig)(σ:Im)(ts:List Ty)(cs:List Value)(ds:List D):Prop:=
 cs.length=ts.length∧ds.length=ts.length∧∀(i:Nat) (u:Ty),ts[i]?=some u→Rep cap σ u (cs.getD i undef) (ds.getD i .none)∧u.one=true
theorem ns.one {cap:Nat→Option CSig}{σ:Im}{t:Ty}{v:Value}{d:D}(h:Rep cap σ t v d)(ht:t.one=true):ns cap σ [t] [v] [d]:=
 ⟨rfl,rfl,fun i u hu=>by
   cases i with
   |zero=>simp at hu;subst hu;exact⟨h,ht⟩
   |succ i=>simp at hu⟩
theorem ns.append {cap:Nat→Option CSig}{σ:Im}{ts us:List Ty}{cs vs:List Value}{ds es:List D}(h:ns cap σ ts cs ds)(k:ns cap σ us vs es):ns cap σ (ts++us) (cs++vs) (ds++es):=by
 obtain⟨h1,h2,h3⟩:=h;obtain⟨k1,k2,k3⟩:=k;refine⟨by simp[h1,k1],by simp[h2,k2],fun i u hu=>?_⟩;by_cases hi:i<ts.length
 ·rw[kT hi] at hu;have:=h3 i u hu;rw[aH,aH,kT (by omega),kT (by omega)];rw[aH,aH] at this;exact this
 ·rw[jx (by omega)] at hu;have:=k3 _ u hu;rw[aH,aH,jx (by omega),jx (by omega),h1,h2];rw[aH,aH] at this;exact this
def Vh (ag:Bool)(ds:List D):D:=if ag then .agg ds else ds.getD 0 .none
theorem agm (t:Ty):t.flat.length=t.size:=by cases t<;>rfl
theorem Rep.ofRow {cap:Nat→Option CSig}{σ:Im}{t:Ty}{cs:List Value}{ds:List D}(iQ:t.rowT=true∨t.one=true)(h:ns cap σ t.flat cs ds):Rep cap σ t (Cx.rowOf t.rowT cs) (Vh t.rowT ds):=by
 obtain⟨h1,h2,h3⟩:=h;cases t with
 |agg ts=>exact .agg ts cs ds h1 h2 (fun i u hu=>(h3 i u hu).1) (fun i u hu=>(h3 i u hu).2)
 |trm=>simp[Ty.rowT,Ty.one] at iQ
 |_=>exact(h3 0 _ rfl).1
theorem aoD {cap:Nat→Option CSig}{σ:Im}{t:Ty}{cs:List Value}{ds:List D}(iQ:t.rowT=true∨t.one=true)(h:ns cap σ t.flat cs ds){j:Nat}{u:Value}(hj:(rowOf t.rowT cs).cells[j]?=some u):cs[j]?=some u:=by
 obtain⟨h1,h2,h3⟩:=h;cases t with
 |agg ts=>simpa [rowOf,Ty.rowT,Value.cells] using hj
 |trm=>simp[Ty.rowT,Ty.one] at iQ
 |_=>
  have h4:=h3 0 _ rfl;have h5:=(h4.1.oneCell h4.2).1;simp only[rowOf,Ty.rowT,tK,if_false] at hj;rw[h5] at hj;cases j with
  |zero=>
   simp only[FK,KX,aR] at hj
   match cs,h1 with
   |[c],_=>simpa using hj
  |succ j=>simp at hj
section
variable {H:Type} {enc:TypeId×Value→H} {P:Program} {w:World} {base:Nat} {held:Bool} {cap:Nat→Option CSig}
theorem acs {k:IntKind}{n:Int}(h:(Lit.int k n).wf=true):k.min≤n∧n≤k.max:=by
 simpa [Lit.wf] using h
theorem abq {n m:Nat}(ih:∀(t:TypeId) (cs:List Value) (x:DataW H×List MemPlace) (ty:Ty),DataW.trod enc P w base (fun _=>true) held n t cs=some x→gC P m t=some ty→∃ds,ns cap (l9 w) ty.flat cs ds):
 ∀(fs:List Field) (off:Nat) (cs:List Value) (ts:List Ty),AQ P (gC P m) fs off=some ts→cs.length=off+ts.length→
  (∀f,f∈fs→∃x,DataW.trod enc P w base (fun _=>true) held n f.type ((cs.drop f.offset).take (P.cellsOf f.type))=some x)→∃ds,ns cap (l9 w) ts (cs.drop off) ds
 |[],off,cs,ts,h,hl,_=>by
  simp only[AQ,aR] at h;subst h;have:cs.drop off=[]:=by simp at hl ⊢;omega
  rw[this];exact⟨[],rfl,rfl,fun i u hu=>by simp at hu⟩
 |f::fs,off,cs,ts,h,hl,hx=>by
  simp only[AQ,ao] at h;obtain⟨ft,hft,h⟩:=h;cases hb:(Nat.beq f.offset off&&Nat.beq (P.cellsOf f.type) ft.flat.length)<;>simp only[hb,cond_true,cond_false] at h
  ·cases h
  simp only[ax] at h;obtain⟨us,hus,rfl⟩:=h;simp only[aj] at hb;have e1:=cX hb.1;have e2:=cX hb.2;obtain⟨x,bU⟩:=hx f (dR ..);rw[e1,e2] at bU;obtain⟨BU,jm⟩:=ih _ _ _ _ bU hft;simp only[jy] at hl;obtain⟨ds2,mL⟩:=abq ih fs (off+ft.flat.length) cs us hus (by omega) fun g hg=>hx g (dK _ hg);refine⟨BU++ds2,?_⟩;have:=jm.append mL;rw[←List.drop_drop,tQ] at this;exact this
theorem aq2:∀(n m:Nat) (t:TypeId) (cs:List Value) (x:DataW H×List MemPlace) (ty:Ty),DataW.trod enc P w base (fun _=>true) held n t cs=some x→gC P m t=some ty→∃ds,ns cap (l9 w) ty.flat cs ds:=by
 intro n
 induction n with
 |zero=>intro m t cs x ty h;simp[DataW.trod] at h
 |succ n ih=>
  intro m t cs x ty h ba;cases m with
  |zero=>simp[gC] at ba
  |succ m=>
   simp only[gC] at ba;split at ba
   ·rename_i hu;cases ba;obtain⟨b,rfl,_⟩:=DataW.trod_bool hu h;exact⟨_,.one (.bool b) rfl⟩
   ·rename_i k hu;cases ba;obtain⟨z,rfl,_,hw⟩:=DataW.trod_int hu h;exact⟨_,.one (.int k z (acs hw).1 (acs hw).2) rfl⟩
   ·rename_i hu;cases ba;obtain⟨s,rfl,_,hs⟩:=DataW.trod_string hu h;exact⟨_,.one (.str s hs) rfl⟩
   ·rename_i e hu;have wU:∃(m':Nat) (te vw:Ty),gC P m' e=some te∧P.cellsOf e=te.flat.length∧1≤te.flat.length∧ty=.slice vw∧vw.unf=te:=by
     cases ht:sY P e<;>simp only[ht,cond_true,cond_false] at ba
     ·simp only[ao] at ba;obtain⟨te,wU,ba⟩:=ba;cases hb:(Nat.beq (P.cellsOf e) te.flat.length&&Nat.ble 1 te.flat.length)<;>simp only[hb,cond_true,cond_false] at ba
      ·cases ba
      cases ba;simp only[aj] at hb;exact⟨m,te,te,wU,cX hb.1,km hb.2,rfl,Ty.unf_ro (Q9 wU)⟩
     ·cases ba;obtain⟨k1,k2⟩:=akL ht 0;exact⟨2,.trmA,.trm,k1,k2,by decide,rfl,rfl⟩
    obtain⟨m',te,vw,wU,e1,e2,rfl,nG⟩:=wU;have iQ:=Q9 wU;rcases DataW.trod_slice hu h with⟨rfl,_⟩|⟨a,len,cp,elems,rest,n',jI,rfl,_,hba,hl,hm,hlen,jj,IA,_⟩
    ·exact⟨_,.one (.nil vw) rfl⟩
    ·cases jI;obtain⟨hrl,uF⟩:=IA rfl
     have eW:∀i,i<cp→∃ci y,w.cells? base (a.add (i*P.cellsOf e)) (P.cellsOf e)=some ci∧DataW.trod enc P w base (fun _=>true) held n e ci=some y:=by
      intro i hi
      have gL:∃y,(w.cells? base (a.add (i*P.cellsOf e)) (P.cellsOf e)).bind (DataW.trod enc P w base (fun _=>true) held n e)=some y:=by
           by_cases wG:i<len
           ·rw[jj i wG];exact⟨_,bu (by omega)⟩
           ·have:=uF (i-len) (by omega);rw[show len+(i-len)=i by omega] at this;rw[this];exact⟨_,bu (by omega)⟩
      obtain⟨y,hy⟩:=gL;rw[ao] at hy;obtain⟨ci,h1,h2⟩:=hy;exact⟨ci,y,h1,h2⟩
     by_cases lX:cp=0
     ·subst lX;have:len=0:=by omega
      subst this;exact⟨_,.one (.emp vw a) rfl⟩
     ·have Xw:a.spot=none:=by
           obtain⟨ci,y,h1,_⟩:=eW 0 (by omega);obtain⟨_,_,h3⟩:=World.cells?_some h1;have:=h3 0 (by omega);simp only[Nat.zero_mul,Addr.add,if_true] at this;unfold World.cell? at this;cases hs:a.spot with
           |none=>rfl
           |some s=>
            exfalso;have hl:ci.length=P.cellsOf e:=(World.cells?_some h1).2.1;split at this
            ·rw[hs] at this;simp at this;subst this;simp at hl;omega
            ·rw[eq_comm,List.getElem?_eq_none_iff] at this;omega
      obtain⟨k,o,s⟩:=a;simp only at Xw;subst Xw;have aF:∀i,∃p:List Value×List D,i<len→w.cells? base ((⟨k,o,none⟩:Addr).add (i*P.cellsOf e)) (P.cellsOf e)=some p.1∧ns cap (l9 w) te.flat p.1 p.2:=by
           intro i;by_cases hi:i<len
           ·obtain⟨ci,y,h1,h2⟩:=eW i (by omega);obtain⟨ds,hr⟩:=ih m' _ _ _ _ h2 wU;exact⟨(ci,ds),fun _=>⟨h1,hr⟩⟩
           ·exact⟨([],[]),fun h=>absurd h hi⟩
      obtain⟨f,hf⟩:=Classical.axiomOfChoice aF;refine⟨_,.one (.slice vw k o len cp ((List.range len).map fun i=>Vh te.rowT (f i).2) (fun i=>rowOf te.rowT (f i).1) (by simp) hl hm (fun i x hx=>?_) (fun i j u hi hj=>?_)) rfl⟩
      ·rw[cK,ax] at hx;obtain⟨i',cw,rfl⟩:=hx;have ae:i<len:=by have:=(eE.1 cw).1;simpa using this
       rw[qK ae] at cw;cases cw;rw[nG];exact Rep.ofRow iQ (hf i ae).2
      ·obtain⟨h1,h2⟩:=hf i hi;have dL:=aoD iQ h2 hj;obtain⟨_,h4,h5⟩:=World.cells?_some h1;have fD:j<P.cellsOf e:=by rw[←h4];exact(eE.1 dL).1
       have:=h5 j fD;rw[dL] at this;show w.cell? ⟨k,o+i*vw.size+j,none⟩=some u;rw[←vw.unf_size,nG,←agm,←e1,←this]
       congr 1
       simp only[Addr.add];split<;>split<;>simp_all
   ·rename_i fs hu;simp only[ao] at ba;obtain⟨ts,Oj,ba⟩:=ba;cases hb:Nat.beq (P.cellsOf t) ts.length<;>simp only[hb,cond_true,cond_false] at ba
    ·cases ba
    cases ba;obtain⟨xs,n',jI,_,hl,wY,hf⟩:=DataW.trod_struct hu h;cases jI
    have:=abq (ih m) fs.toList 0 cs ts Oj (by rw[hl,cX hb];omega) (fun f hm=>by
     obtain⟨i,hi⟩:=yb hm;have cw:fs[i]?=some f:=by simpa using hi
     have h1:=hf i f cw;have ae:i<fs.size:=(dI.1 cw).1;exact⟨_,h1.trans (bu (by omega))⟩)
    show ∃ds,ns cap (l9 w) ts cs ds;simpa using this
   ·cases ba
theorem BI {base:Nat}{t:TypeId}{v:Value}(h:Cell.okWide P w .any base t v):v.cells=#[v]:=by
 cases v<;>first|rfl|(exfalso;simp only[Cell.okWide,Cell.ok] at h;revert h;cases P.underlying t with|none=>simp|some T=>cases T<;>simp)
theorem adq {base base':Nat}{m:Nat}{t:TypeId}{v:Value}{d:DataW H}{ps:List MemPlace}{ty:Ty}(az:Value.okWide P w .any base' t v)(h:DataW.Trod enc P w base (fun _=>true) held t v d ps)(ba:gC P m t=some ty):∃d,Rep cap (l9 w) ty v d:=by
 obtain⟨fuel,h⟩:=h;obtain⟨ds,hr⟩:=aq2 (cap:=cap) fuel m t _ _ _ h ba;have bN:=Rep.ofRow (Q9 ba) hr;cases m with
 |zero=>simp[gC] at ba
 |succ m=>
  suffices hs:rowOf ty.rowT v.cells.toList=v by rw[hs] at bN;exact⟨_,bN⟩
  simp only[gC] at ba;unfold Value.okWide at az;split at ba
  ·rename_i hu;cases ba;rw[hu] at az;simp only at az;rw[BI az];rfl
  ·rename_i hu;cases ba;rw[hu] at az;simp only at az;rw[BI az];rfl
  ·rename_i hu;cases ba;rw[hu] at az;simp only at az;rw[BI az];rfl
  ·rename_i e hu;cases ht:sY P e<;>simp only[ht,cond_true,cond_false] at ba
   ·simp only[ao] at ba;obtain⟨te,_,ba⟩:=ba;cases hb:(Nat.beq (P.cellsOf e) te.flat.length&&Nat.ble 1 te.flat.length)<;>simp only[hb,cond_true,cond_false] at ba
    ·cases ba
    cases ba;rw[hu] at az;simp only at az;rw[BI az];rfl
   ·cases ba;rw[hu] at az;simp only at az;rw[BI az];rfl
  ·rename_i fs hu;simp only[ao] at ba;obtain⟨ts,_,ba⟩:=ba;cases hb:Nat.beq (P.cellsOf t) ts.length<;>simp only[hb,cond_true,cond_false] at ba
   ·cases ba
   cases ba;rw[hu] at az;obtain⟨cs,rfl,_⟩:=az;simp[rowOf,Ty.rowT,Value.cells]
  ·cases ba
def E1 (P:Program)(m:Nat):List TypeId→Option (List Ty)
 |[]=>some []
 |t::ts=>(gC P m t).bind fun x=>(E1 P m ts).map (x::·)
theorem UA {base base' m:Nat}:∀(ts:List TypeId) (vs:List Value) (ds:List (DataW H)) (ps:List MemPlace) (fY:List Ty),DataW.TrodAll enc P w base (fun _=>true) held ts vs ds ps→E1 P m ts=some fY→
 (∀(j:Nat) t v,ts[j]?=some t→vs[j]?=some v→Value.okWide P w .any base' t v)→
 ∃es:List D,vs.length=fY.length∧es.length=fY.length∧∀(i:Nat) (t:Ty),fY[i]?=some t→Rep cap (l9 w) t (vs.getD i undef) (es.getD i .none)
 |[],vs,ds,ps,fY,h,ba,_=>by
  simp only[E1,aR] at ba;subst ba;cases vs with
  |nil=>exact⟨[],rfl,rfl,fun i t h=>by simp at h⟩
  |cons=>cases ds<;>exact h.elim
 |t::ts,vs,ds,ps,fY,h,ba,az=>by
  simp only[E1,ao,ax] at ba;obtain⟨ty,aki,aq8,akj,rfl⟩:=ba;cases vs with
  |nil=>cases ds<;>exact h.elim
  |cons v vs=>
   cases ds with
   |nil=>exact h.elim
   |cons d ds=>
    obtain⟨p,q,h1,h2,_⟩:=h;obtain⟨e,he⟩:=adq (cap:=cap) (az 0 t v rfl rfl) h1 aki;obtain⟨es,k1,k2,k3⟩:=UA ts vs ds q aq8 h2 akj (fun j t' v' hj hv=>az (j+1) t' v' hj hv);refine⟨e::es,by simp[k1],by simp[k2],fun i u hu=>?_⟩;cases i with
    |zero=>simp at hu;subst hu;exact he
    |succ i=>simpa using k3 i u (by simpa using hu)
end
mutual
inductive DTy:Ty→D→Prop where
 |int (k:IntKind) (n:Int) (h1:k.min≤n) (h2:n≤k.max):DTy (.int k) (.v (.int k n))
 |bool (b:Bool):DTy .bool (.v (.bool b))
 |str (s:ByteArray) (h:s.size≤maxLen):DTy .str (.v (.string s))
 |slice (e:Ty) (xs:List D) (hm:xs.length≤maxLen) (h:∀x,x∈xs→DTy e.unf x):DTy (.slice e) (.list xs)
 |agg (ts:List Ty) (ds:List D) (h:DTys ts ds):DTy (.agg ts) (.agg ds)
 |other (t:Ty) (d:D) (h:match t with|.int _|.bool|.str|.slice _|.agg _=>False|_=>True):DTy t d
inductive DTys:List Ty→List D→Prop where
 |nil:DTys [] []
 |cons {t:Ty} {d:D} {ts:List Ty} {ds:List D} (h:DTy t d) (hs:DTys ts ds):DTys (t::ts) (d::ds)
end
theorem DTys.of_get:∀{ts:List Ty} {ds:List D},ds.length=ts.length→(∀(i:Nat) (t:Ty),ts[i]?=some t→DTy t (ds.getD i .none))→DTys ts ds
 |[],[],_,_=>.nil
 |t::ts,d::ds,hl,h=>.cons (h 0 t rfl) (DTys.of_get (by simpa using hl) fun i u hu=>by simpa using h (i+1) u (by simpa using hu))
 |[],_::_,hl,_=>by simp at hl
 |_::_,[],hl,_=>by simp at hl
theorem Rep.dty {cap:Nat→Option CSig}{σ:Im}{t:Ty}{v:Value}{d:D}(h:Rep cap σ t v d):DTy t d:=by
 induction h with
 |int k n h1 h2=>exact .int k n h1 h2
 |bool b=>exact .bool b
 |str s h=>exact .str s h
 |agg ts vs ds h1 h2 _ ho ih=>exact .agg ts ds (.of_get h2 ih)
 |nil e=>exact .slice e [] (by decide) (fun x hx=>by cases hx)
 |emp e a=>exact .slice e [] (by decide) (fun x hx=>by cases hx)
 |slice e k o n c xs vs hn hc hm _ hv ih=>
  refine .slice e xs (by omega) fun x hx=>?_;obtain⟨i,hi⟩:=yb hx;exact ih i x hi
 |_=>exact .other _ _ trivial
theorem OM {H:Type}{enc:TypeId×Value→H}{C:Ctx}{f:Nat}{fn:Func}{sg:Sig}{spec:ChangeSpec}{tb:TypeId}{apart fresh handsOn again:Bool}(hl:laidOutB C.P=true)
 (oJ:E1 C.P 12 fn.params.toList=some sg.args) (ajR:fn.params.toList.all (fun t=>C.P.readableRec t&&decide (t<C.P.types.size))=true) (On:spec.vars=[])
 (aj8:∀ds:List (DataW H),ds.length=fn.params.size→(spec.fn H ds).results=[.lit (.bool true)]∧(spec.fn H ds).args=ds∧(spec.fn H ds).vars=[])
 (eZ:fn.resultTypes=#[tb]) (XC:C.P.underlying tb=some .bool) (lu:sg.mode=.dat) (uG:sg.res=.bool)
 (NA:∀ds,DTys sg.args ds→gX C f sg ds (.v (.bool true)))
 (W:World) (uy:CtxOK C (l9 W)) (base:Nat) (args:Array Value) (ds gs:List (DataW H)) (before:List MemPlace)
 (cl:∀(j:Nat) t v,fn.params[j]?=some t→args[j]?=some v→Value.okWide C.P W .any base t v)
 (hW:DataW.Whole enc C.P fn.params.toList spec.vars apart W args.toList ds gs before):
 Calls C.P f args W fun e W'=>∃v,e=.returned v∧spec.post enc C.P fn apart fresh handsOn again W args v W':=by
 have HL:=hW;have ae:∀p∈before,p.block<W.heap.size:=fun p hp=>HL.lt p hp;obtain⟨p,q,hA,hV,rfl,sN,bj⟩:=hW;rw[On] at hV;obtain⟨rfl,rfl⟩:=trodVars_none hV;obtain⟨es,k1,k2,k3⟩:=UA (cap:=C.cap) (base':=base) fn.params.toList args.toList ds p sg.args hA oJ (fun j t v hj hv=>cl j t v (by simpa using hj) (by simpa using hv));have ba:DTys sg.args es:=.of_get k2 fun i t ht=>(k3 i t ht).dty
 have hlen:∀(ts:List TypeId) (vs:List Value) (ds:List (DataW H)) (ps:List MemPlace),DataW.TrodAll enc C.P W 0 (fun _=>true) true ts vs ds ps→ds.length=ts.length:=by
  intro ts
  induction ts with
  |nil=>intro vs ds ps h;cases vs<;>cases ds<;>first|rfl|exact h.elim
  |cons t ts ih=>
   intro vs ds ps h;cases vs with
   |nil=>cases ds<;>exact h.elim
   |cons v vs=>cases ds with
    |nil=>exact h.elim
    |cons d ds=>obtain⟨p,q,_,h2,_⟩:=h;simp[ih vs ds q h2]
 have Nf:ds.length=fn.params.size:=by simpa using hlen _ _ _ _ hA
 obtain⟨s1,s2,s3⟩:=aj8 (ds++[]) (by simpa using Nf);refine(NA es ba (l9 W) W args (akC W) uy ⟨k1,k2,k3⟩).mono fun e W' hh=>?_;obtain⟨v,σ',rfl,_,_,hb,_,_,hr⟩:=hh;refine⟨v,rfl,?_⟩;simp only[mz,lu,uG] at hr;obtain⟨b,rfl,wA⟩:=hr.bool_inv;cases wA
 have stays:∀(sp:Nat→Bool) (ts:List TypeId) (vs:List Value) (ds:List (DataW H)) (ps:List MemPlace),ts.all (fun t=>C.P.readableRec t&&decide (t<C.P.types.size))=true→(∀x∈ps,x.block<W.heap.size)→(∀x∈ps,sp x.block=true)→
  DataW.TrodAll enc C.P W 0 (fun _=>true) true ts vs ds ps→DataW.TrodAll enc C.P W' 0 sp true ts vs ds ps:=by
  intro sp ts
  induction ts with
  |nil=>intro vs ds ps _ _ _ h;cases vs<;>cases ds<;>first|exact h|exact h.elim
  |cons t ts ih=>
   intro vs ds ps ha sR IA h;cases vs with
   |nil=>cases ds<;>exact h.elim
   |cons v vs=>cases ds with
    |nil=>exact h.elim
    |cons d ds=>
     obtain⟨p,q,h1,h2,rfl⟩:=h;simp only[qJ,aj,decide_eq_true_eq] at ha
     exact⟨p,q,WideElems.Trod_stays hl ha.1.1 ha.1.2 h1 (fun x hx=>hb.same (sR x (jX _ hx))) (fun x hx=>IA x (jX _ hx)),
      ih vs ds q (by simpa using ha.2) (fun x hx=>sR x (kj _ hx)) (fun x hx=>IA x (kj _ hx)) h2,rfl⟩
 have W7:∀x∈p,x.block<W.heap.size:=fun x hx=>ae x (jX _ hx);have jh:=fun sp (h:∀x∈p,sp x.block=true)=>stays sp _ _ _ _ ajR W7 h hA;have uF:∀(b:Nat) (sp:Nat→Bool) (hd:Bool),DataW.TrodAll enc C.P W' b sp hd fn.resultTypes.toList ((Value.bool true).resultList fn.resultTypes.size) [.lit (.bool true)] []:=by
  intro b sp hd;rw[eZ];exact trodAll_mk1 (shut_bool XC true)
 refine⟨ds,[],p++[],[],p,[],HL,?_,?_,?_,World.keptBut_mono (fun x hx=>⟨hx,?_⟩) (hb.frame (·∈p++[])),fun _=>?_⟩
 ·rw[s1];exact uF _ _ _
 ·rw[s2];simpa using jh _ (fun x hx=>by simpa using W7 x hx)
 ·rw[s3,On];rfl
 ·simpa using hx
 ·refine⟨ok_one eZ rfl (okWide_bool_mk XC true),_,[],([]++p)++[],⟨[]++p,[],trodAll_append (jh _ (fun _ _=>rfl)) (uF _ _ _),by rw[On];exact rfl,rfl,?_,?_⟩,?_⟩
  ·intro b off hp;have bo:MemPlace.cell b off∈p++[]:=by simpa using hp
   rw[hb.frozen (ae _ bo)];exact sN b off bo
  ·intro ha;simpa using bj ha
  ·intro x hx _;simpa using hx
end Cx
namespace Cx
open Go Go.RowKit
abbrev dz:=Nat→aV
def av (T:dz)(f:Nat)(ds:List D)(d:D):Prop:=∃n0,∀n,n0≤n→T n f ds=some d
def xX (T:dz)(l:List PI)(ρ:Env)(Q:Env→Prop):Prop:=∃ρ',Q ρ'∧∃n0,∀n,n0≤n→PI.runs (T n) l ρ=some ρ'
def aU (T:dz)(c:PC)(ρ:Env)(Q:Out→Prop):Prop:=∃x,Q x∧∃n0,∀n,n0≤n→c.ev (T n) n ρ=some x
theorem aU.mono {T:dz}{c:PC}{ρ:Env}{Q Q':Out→Prop}(h:aU T c ρ Q)(hq:∀x,Q x→Q' x):aU T c ρ Q':=by
 obtain⟨x,hx,n0,hn⟩:=h;exact⟨x,hq x hx,n0,hn⟩
theorem xX.nil {T:dz}{ρ:Env}{Q:Env→Prop}(h:Q ρ):xX T [] ρ Q:=⟨ρ,h,0,fun _ _=>rfl⟩
theorem xX.cons {T:dz}{p:PI}{l:List PI}{ρ ρ1:Env}{Q:Env→Prop}{n0:Nat}(h:∀n,n0≤n→p.run (T n) ρ=some ρ1)(k:xX T l ρ1 Q):xX T (p::l) ρ Q:=by
 obtain⟨ρ',hQ,n1,h1⟩:=k;exact⟨ρ',hQ,max n0 n1,fun n hn=>by simp[PI.runs,h n (by omega),h1 n (by omega)]⟩
def ix (T:dz):List PI→Env→(Env→Prop)→Prop
 |[],ρ,Q=>Q ρ
 |.setR t e::l,ρ,Q=>ix T l (ρ.setR t (e.ev ρ)) Q
 |.setO t e::l,ρ,Q=>ix T l (ρ.setO t (e.ev ρ)) Q
 |.chk e::l,ρ,Q=>(e.ev ρ).b=true∧ix T l ρ Q
 |.call gs dst f args::l,ρ,Q=>if holds gs ρ=true then ∃d,av T f (PE.evs ρ args) d∧ix T l (ρ.setR dst d) Q else ix T l ρ Q
 |.callc gs dst e args::l,ρ,Q=>if holds gs ρ=true then ∃f caps d,e.ev ρ=.clo f caps∧av T f (PE.evs ρ args++caps) d∧ix T l (ρ.setR dst d) Q else ix T l ρ Q
 |.mcall j f args::l,ρ,Q=>∃d,av T f (PE.evs ρ args) d∧ix T l (ρ.setO j d) Q
theorem tG {T:dz}:∀{l:List PI} {ρ:Env} {Q:Env→Prop},ix T l ρ Q→xX T l ρ Q
 |[],ρ,Q,h=>.nil h
 |.setR t e::l,ρ,Q,h=>.cons (n0:=0) (fun _ _=>rfl) (tG h)
 |.setO t e::l,ρ,Q,h=>.cons (n0:=0) (fun _ _=>rfl) (tG h)
 |.chk e::l,ρ,Q,h=>.cons (n0:=0) (fun n _=>by simp[PI.run,h.1]) (tG h.2)
 |.call gs dst f args::l,ρ,Q,h=>by
  unfold ix at h;split at h
  ·rename_i hg;obtain⟨d,⟨n0,hn⟩,h⟩:=h;exact .cons (n0:=n0) (fun n hle=>by simp[PI.run,hg,hn n hle]) (tG h)
  ·rename_i hg;exact .cons (n0:=0) (fun n hle=>by simp[PI.run,hg]) (tG h)
 |.callc gs dst e args::l,ρ,Q,h=>by
  unfold ix at h;split at h
  ·rename_i hg;obtain⟨f,caps,d,he,⟨n0,hn⟩,h⟩:=h;exact .cons (n0:=n0) (fun n hle=>by simp[PI.run,hg,he,hn n hle]) (tG h)
  ·rename_i hg;exact .cons (n0:=0) (fun n hle=>by simp[PI.run,hg]) (tG h)
 |.mcall j f args::l,ρ,Q,h=>by
  obtain⟨d,⟨n0,hn⟩,h⟩:=h;exact .cons (n0:=n0) (fun n hle=>by simp[PI.run,hn n hle]) (tG h)
def lC (ρ:Env)(lr lo:List Nat)(Q:Out→Prop):Out→Prop
 |.next ρ'=>Q (.next (ρ.join lr lo ρ'))
 |x=>Q x
def mD (ρ:Env)(id:Nat)(lr lo:List Nat)(Q:Out→Prop):Out→Prop
 |.next ρ'=>Q (.next (ρ.join lr lo ρ'))
 |.exit cd ρ'=>if cd=id then Q (.next (ρ.join lr lo ρ')) else Q (.exit cd ρ')
 |.ret d=>Q (.ret d)
def iw (K:Env→Prop)(Q:Out→Prop):Out→Prop
 |.next ρ'=>K ρ'
 |.exit id ρ'=>Q (.exit id ρ')
 |.ret d=>Q (.ret d)
theorem aU.is {T:dz}{l:List PI}{ρ:Env}{Q:Out→Prop}(h:ix T l ρ fun ρ'=>Q (.next ρ')):aU T (.is l) ρ Q:=by
 obtain⟨ρ',hQ,n0,hn⟩:=tG h;exact⟨.next ρ',hQ,n0,fun n hle=>by simp[PC.ev,hn n hle]⟩
theorem aU.skip {T:dz}{ρ:Env}{Q:Out→Prop}(h:Q (.next ρ)):aU T .skip ρ Q:=⟨_,h,0,fun _ _=>rfl⟩
theorem aU.exit {T:dz}{ρ:Env}{id:Nat}{Q:Out→Prop}(h:Q (.exit id ρ)):aU T (.exit id) ρ Q:=⟨_,h,0,fun _ _=>rfl⟩
theorem aU.ret {T:dz}{ρ:Env}{e:PE}{Q:Out→Prop}(h:Q (.ret (e.ev ρ))):aU T (.ret e) ρ Q:=⟨_,h,0,fun _ _=>rfl⟩
theorem aU.seq {T:dz}{a b:PC}{ρ:Env}{Q:Out→Prop}(h:aU T a ρ (iw (fun ρ'=>aU T b ρ' Q) Q)):aU T (.seq a b) ρ Q:=by
 obtain⟨x,hx,n0,hn⟩:=h;cases x with
 |next ρ'=>
  obtain⟨y,hy,n1,h1⟩:=hx;exact⟨y,hy,max n0 n1,fun n hle=>by simp[PC.ev,hn n (by omega),h1 n (by omega)]⟩
 |exit id ρ'=>exact⟨_,hx,n0,fun n hle=>by simp[PC.ev,hn n hle]⟩
 |ret d=>exact⟨_,hx,n0,fun n hle=>by simp[PC.ev,hn n hle]⟩
theorem aU.ite {T:dz}{c:PE}{lr lo:List Nat}{a b:PC}{ρ:Env}{Q:Out→Prop}(h:if(c.ev ρ).b=true then aU T a ρ (lC ρ lr lo Q) else aU T b ρ (lC ρ lr lo Q)):aU T (.ite c lr lo a b) ρ Q:=by
 split at h
 all_goals
  rename_i hc;obtain⟨x,hx,n0,hn⟩:=h;cases x with
  |next ρ'=>exact⟨_,hx,n0,fun n hle=>by simp[PC.ev,hc,hn n hle]⟩
  |exit id ρ'=>exact⟨_,hx,n0,fun n hle=>by simp[PC.ev,hc,hn n hle]⟩
  |ret d=>exact⟨_,hx,n0,fun n hle=>by simp[PC.ev,hc,hn n hle]⟩
theorem aU.block {T:dz}{id:Nat}{lr lo:List Nat}{a:PC}{ρ:Env}{Q:Out→Prop}(h:aU T a ρ (mD ρ id lr lo Q)):aU T (.block id lr lo a) ρ Q:=by
 obtain⟨x,hx,n0,hn⟩:=h;cases x with
 |next ρ'=>exact⟨_,hx,n0,fun n hle=>by simp[PC.ev,hn n hle]⟩
 |exit cd ρ'=>
  simp only[mD] at hx;split at hx
  ·rename_i e;subst e;exact⟨_,hx,n0,fun n hle=>by simp[PC.ev,hn n hle]⟩
  ·rename_i e;exact⟨_,hx,n0,fun n hle=>by simp[PC.ev,hn n hle,fu e]⟩
 |ret d=>exact⟨_,hx,n0,fun n hle=>by simp[PC.ev,hn n hle]⟩
theorem aU.loop {T:dz}{lr lo:List Nat}{a:PC}{ρ:Env}{Q:Out→Prop}{α:Type}(inv:α→List D→List D→Prop)(uS:α→Nat)(s0:α)(h0:inv s0 (lr.map ρ.r) (lo.map ρ.o))
 (step:∀s vr vo,inv s vr vo→aU T a (ρ.put lr vr lo vo) (iw (fun ρ'=>∃s',uS s'<uS s∧inv s' (lr.map ρ'.r) (lo.map ρ'.o)) Q)):aU T (.loop lr lo a) ρ Q:=by
 have key:∀(m:Nat) (s:α) (vr vo:List D),uS s≤m→inv s vr vo→∃x,Q x∧∃n0,∀n k,n0≤n→n0≤k→iU (a.ev (T n) n) ρ lr lo k vr vo=some x:=by
  intro m
  induction m with
  |zero=>
   intro s vr vo hm hi;obtain⟨x,hx,n0,hn⟩:=step s vr vo hi;cases x with
   |next ρ'=>obtain⟨s',ae,_⟩:=hx;omega
   |exit id ρ'=>
    refine⟨_,hx,n0+1,fun n k hle hk=>?_⟩;obtain⟨k',rfl⟩:∃k',k=k'+1:=⟨k-1,by omega⟩
    simp[iU,hn n (by omega)]
   |ret d=>
    refine⟨_,hx,n0+1,fun n k hle hk=>?_⟩;obtain⟨k',rfl⟩:∃k',k=k'+1:=⟨k-1,by omega⟩
    simp[iU,hn n (by omega)]
  |succ m ih=>
   intro s vr vo hm hi;obtain⟨x,hx,n0,hn⟩:=step s vr vo hi;cases x with
   |next ρ'=>
    obtain⟨s',ae,cw⟩:=hx;obtain⟨y,hy,n1,h1⟩:=ih s' _ _ (by omega) cw;refine⟨y,hy,max n0 n1+1,fun n k hle hk=>?_⟩;obtain⟨k',rfl⟩:∃k',k=k'+1:=⟨k-1,by omega⟩
    simp[iU,hn n (by omega),h1 n k' (by omega) (by omega)]
   |exit id ρ'=>
    refine⟨_,hx,n0+1,fun n k hle hk=>?_⟩;obtain⟨k',rfl⟩:∃k',k=k'+1:=⟨k-1,by omega⟩
    simp[iU,hn n (by omega)]
   |ret d=>
    refine⟨_,hx,n0+1,fun n k hle hk=>?_⟩;obtain⟨k',rfl⟩:∃k',k=k'+1:=⟨k-1,by omega⟩
    simp[iU,hn n (by omega)]
 obtain⟨x,hx,n0,hn⟩:=key (uS s0) s0 _ _ (aX _) h0;exact⟨x,hx,n0,fun n hle=>by simp only[PC.ev];exact hn n n hle hle⟩
theorem aaw {α:Type}:∀(l:List α),∃L:List (List α),∀ys,ys∈L↔ys.Perm l
 |[]=>⟨[[]],fun ys=>by simp⟩
 |x::l=>by
  obtain⟨L,hL⟩:=aaw l;refine⟨L.flatMap fun ys=>(List.range (ys.length+1)).map fun i=>ys.take i++x::ys.drop i,fun zs=>?_⟩;simp only[jb,ec,cr];constructor
  ·rintro⟨ys,hy,i,_,rfl⟩;have h1:=(hL ys).1 hy;refine(List.perm_middle).trans (.cons x ?_);rw[tQ];exact h1
  ·intro h;have hx:x∈zs:=h.symm.subset (dR ..);obtain⟨s,t,rfl⟩:=TY hx;refine⟨s++t,(hL _).2 ?_,s.length,by simp;omega,by simp⟩;exact(List.perm_cons x).1 ((List.perm_middle).symm.trans h)
theorem aU.meach {T:dz}{J:Nat}{ps dt lo:List Nat}{a:PC}{ρ:Env}{Q:Out→Prop}(es:List (D×D))(he:ρ.o J=.tup [.list [],.map es])(inv:List D→List D→Prop)(h0:inv [] (lo.map ρ.o))
 (step:∀done x rest vo,(done++x::rest).Perm (iW (.map es))→inv done vo→aU T a ((ρ.put ps (dt.map x.tget) lo vo).setO J (.tup [.list (done++[x]),.map es])) (fun y=>∃ρ',y=.next ρ'∧inv (done++[x]) (lo.map ρ'.o)))
 (last:∃vo,(∀done,done.Perm (iW (.map es))→∀rQ,inv done rQ→rQ=vo)∧Q (.next (ρ.put [] [] lo vo))):aU T (.meach J ps dt lo a) ρ Q:=by
 obtain⟨vo,hl,hQ⟩:=last;have key:∀(xs done:List D) (vs:List D),(done++xs).Perm (iW (.map es))→inv done vs→∃n0,∀n,n0≤n→oT (a.ev (T n) n) ρ J (.map es) ps dt lo xs done vs=some vo:=by
  intro xs
  induction xs with
  |nil=>intro done vs hp hi;exact⟨0,fun n _=>by rw[hl done (by simpa using hp) vs hi];rfl⟩
  |cons x xs ih=>
   intro done vs hp hi;obtain⟨y,⟨ρ',rfl,cw⟩,n0,hn⟩:=step done x xs vs hp hi;obtain⟨n1,h1⟩:=ih (done++[x]) _ (by simpa using hp) cw;exact⟨max n0 n1,fun n hle=>by simp only[oT,hn n (by omega)];exact h1 n (by omega)⟩
 have iN:∀(L:List (List D)),(∀ys,ys∈L→ys.Perm (iW (.map es)))→∃n0,∀n,n0≤n→∀ys,ys∈L→oT (a.ev (T n) n) ρ J (.map es) ps dt lo ys [] (lo.map ρ.o)=some vo:=by
  intro L
  induction L with
  |nil=>intro _;exact⟨0,fun n _ ys hy=>by cases hy⟩
  |cons y L ih=>
   intro hL;obtain⟨n0,ld⟩:=ih fun ys hy=>hL ys (dK _ hy);obtain⟨n1,h1⟩:=key y [] _ (by simpa using hL y (dR ..)) h0;refine⟨max n0 n1,fun n hle ys hy=>?_⟩;rcases cW.1 hy with e|hy
   ·subst e;exact h1 n (by omega)
   ·exact ld n (by omega) ys hy
 obtain⟨L,hL⟩:=aaw (iW (.map es));obtain⟨n0,hn⟩:=iN L fun ys hy=>(hL ys).1 hy;refine⟨_,hQ,n0,fun n hle=>?_⟩;simp only[PC.ev,Ax];refine⟨vo,⟨by rw[he];rfl,fun ys hy=>?_⟩,rfl⟩;rw[he] at hy ⊢;exact hn n hle ys ((hL ys).2 hy)
theorem av.of_pc {tab:Nat→Option PC}{ext:Nat→Option (aV→List D→Option D)}{f:Nat}{pc:PC}{ds:List D}{d:D}(hx:ext f=none)(ht:tab f=some pc)(h:aU (fM tab ext) pc (lO ds) (fun x=>x=.ret d)):av (fM tab ext) f ds d:=by
 obtain⟨x,rfl,n0,hn⟩:=h;refine⟨n0+1,fun n hle=>?_⟩;obtain⟨k,rfl⟩:∃k,n=k+1:=⟨n-1,by omega⟩
 simp[fM,hx,ht,hn k (by omega)]
theorem av.of_ext {tab:Nat→Option PC}{ext:Nat→Option (aV→List D→Option D)}{f:Nat}{g:aV→List D→Option D}{ds:List D}{d:D}(hx:ext f=some g)(h:∃n0,∀n,n0≤n→g (fM tab ext n) ds=some d):av (fM tab ext) f ds d:=by
 obtain⟨n0,hn⟩:=h;refine⟨n0+1,fun n hle=>?_⟩;obtain⟨k,rfl⟩:∃k,n=k+1:=⟨n-1,by omega⟩
 simp[fM,hx,hn k (by omega)]
theorem av.fnOK {C:Ctx}{tab:Nat→Option PC}{ext:Nat→Option (aV→List D→Option D)}(h:TabOK C tab ext){f:Nat}{s:Sig}{ds:List D}{d:D}(hs:C.sig f=some s)(hr:av (fM tab ext) f ds d)(hm:qj s.mode=false:=by rfl):gX C f s ds d:=by
 obtain⟨n0,hn⟩:=hr;exact((Uo h n0).1 f ds d (hn n0 (aX _)) s hs).1 hm
def Le (Φ Ψ:aV):Prop:=∀f ds d,Φ f ds=some d→Ψ f ds=some d
theorem Env.setR_r (ρ:Env)(t u:Nat)(d:D):(ρ.setR t d).r u=if u=t then d else ρ.r u:=by simp only[Env.setR,fK]
theorem Env.setO_o (ρ:Env)(t u:Nat)(d:D):(ρ.setO t d).o u=if u=t then d else ρ.o u:=by simp only[Env.setO,fK]
theorem Env.join_r (ρ ρ':Env)(lr lo:List Nat)(u:Nat):(ρ.join lr lo ρ').r u=if u∈lr then ρ'.r u else ρ.r u:=by simp only[Env.join,Env.put,tq]
theorem Env.join_o (ρ ρ':Env)(lr lo:List Nat)(u:Nat):(ρ.join lr lo ρ').o u=if u∈lo then ρ'.o u else ρ.o u:=by simp only[Env.join,Env.put,tq]
theorem Jv (f:Nat→D)(i:Nat)(is:List Nat)(x:D)(xs:List D)(u:Nat):putL f (i::is) (x::xs) u=if u=i then x else putL f is xs u:=by simp only[putL,fK]
theorem Jw (f:Nat→D)(xs:List D)(u:Nat):putL f [] xs u=f u:=by cases xs<;>rfl
theorem ajy (g:Nat×Bool)(gs:List (Nat×Bool))(ρ:Env):holds (g::gs) ρ=((ρ.r g.1).b==g.2&&holds gs ρ):=rfl
theorem D.tget_tup (x:List D)(i:Nat):(D.tup x).tget i=x.getD i .none:=rfl
theorem D.c_agg (x:List D)(i:Nat):(D.agg x).c i=x.getD i .none:=rfl
end Cx
