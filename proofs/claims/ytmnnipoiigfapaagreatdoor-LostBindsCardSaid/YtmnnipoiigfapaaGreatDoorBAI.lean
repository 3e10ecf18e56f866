/-
  Shared texts of this claim.
-/
import Derived.Test.YtmnnipoiigfapaaGreatDoorBAH
import Derived.Below
import Derived.ChangeSame
import Derived.WalkKit
import Derived.ProofKit
import Derived.OpenShut
import Derived.Carry
import Derived.JoinedCond
set_option linter.unusedSimpArgs false
set_option linter.unusedVariables false
noncomputable section
namespace Cx
open Go Go.RowKit
def Ye (m:Nat)(s:Sig):Snap:=⟨s.args.map .dat++List.replicate (m-s.args.length) .none,[]⟩
def kS (ds:List D):Env:=⟨fun t=>ds.getD t .none,fun _=>.none⟩
def uF (C:Ctx)(fn:Func)(s:Sig)(ids:List Nat)(S0:Snap):Option PC:=
 match fn.body with
 |some c=>
  (comp C fn s fn.ntmps ids (LI C fn.ntmps ids) false c S0).bind fun r=>
    match r.out with
    |none=>some r.pc
    |some S=>(yq C fn s (S.st ids)).map fun e=>.seq r.pc (.ret e)
 |none=>none
def Oc (m:Nat)(shs:List Sh)(obs:List (Nat×Ob))(ids:List Nat):Snap:=⟨shs++List.replicate (m-shs.length) .none,ids.map (eg obs)⟩
def IT (shs:List Sh)(obs:List (Nat×Ob))(ds:List D):Env:=mL obs ds (ds.drop shs.length)
def EO (l:List Nat):Nat→List Sh→Bool
 |_,[]=>true
 |t,s::ss=>(nB s|| !fq l t)&&EO l (t+1) ss
def B4:List (Nat×Ob)→Nat→List PI
 |[],_=>[]
 |x::l,k=>B4 l (k+1)++[.setO x.1 (.r k)]
theorem afh {Φ:aR}:∀(l:List (Nat×Ob)) (k:Nat) (ρ:Env) (ds:List D),(∀i,ρ.r (k+i)=ds.getD i .none)→(∀j,ρ.o j=.none)→PI.runs Φ (B4 l k) ρ=some ⟨ρ.r,fun j=>nE l ds j⟩
 |[],k,ρ,ds,h,ho=>by
  simp only[B4,PI.runs]
  congr 1
  cases ρ with|mk r o=>congr 1;funext j;exact ho j
 |x::l,k,ρ,ds,h,ho=>by
  simp only[B4,oY]
  rw[afh l (k+1) ρ ds.tail (fun i=>by
   have:=h (i+1);rw[wh,Cv 1 i,this];cases ds<;>simp) ho]
  simp only[kl,PI.runs,PI.run,PE.ev,Env.setO]
  congr 1
  congr 1
  funext j;rw[eZ];have h0:=h 0;simp only[iI] at h0;cases ds with
  |nil=>
   have e:∀m j,nE m [] j=D.none:=fun m j=>by cases m<;>rfl
   rw[h0];split<;>simp[e]
  |cons d ds=>
   simp only[nE,List.tail_cons];by_cases hj:j=x.1
   ·subst hj;rw[if_pos rfl,gH,h0];rfl
   ·rw[if_neg hj,ew (fun e=>hj e.symm)];rfl
theorem atl {Φ:aR}(shs:List Sh)(obs:List (Nat×Ob))(ds:List D):PI.runs Φ (B4 obs shs.length) (kS ds)=some (IT shs obs ds):=by
 rw[afh obs shs.length (kS ds) (ds.drop shs.length) (fun i=>by simp[kS,aJ]) (fun j=>rfl)];rfl
def Hk (fn:Func):List Nat:=match fn.body with|some c=>cr c|none=>[]
def vu:List (Nat×Ob)→Bool
 |[]=>true
 |x::l=>(match x.2 with|.tr=>false|_=>true)&&vu l
def mh (C:Ctx)(fn:Func)(s:Sig)(ids:List Nat):Option PC:=
 match C.yl with
 |none=>
  match s.mode with
  |.ob shs obs=>bif Nat.ble shs.length fn.ntmps&&EO (Hk fn) 0 shs&&shs.all tR&&vu obs then(uF C fn s ids (Oc fn.ntmps shs obs ids)).map fun pc=>.seq (.is (B4 obs shs.length)) pc else none
  |_=>bif Nat.ble s.args.length fn.ntmps then uF C fn s ids (Ye fn.ntmps s) else none
 |some _=>none
theorem aa0:∀(ids:List Nat) (j:Nat),dm ids [] j=.dead
 |[],_=>rfl
 |_::_,_=>rfl
theorem NV {C:Ctx}{Φ:aR}(ba:dp C)(hΦ:dc C Φ)(eQ:gq C Φ){fn:Func}{s:Sig}{ids:List Nat}{S0:Snap}{pc:PC}{c:Code}(hb:fn.body=some c)(hc:uF C fn s ids S0=some pc){w0:World}{σ0:Base}(nm:σ0.fin)(hC:CtxOK C σ0)(hY:pD C Φ w0 σ0)
 {N:Nat} {ρ:Env} {d:D} {a:Act} {w:World} (hn:a.tmps.size=fn.ntmps) (hg:Good C w0 σ0 (S0.st ids) ρ (fun _=>False) a w) (he:pc.ev Φ N ρ=some (.ret d)):
 c.wpIn (FR none) 0 C.P (fun e a' w'=>(e=.normal∨e=.ret)∧qY C w0 σ0 fn s d a'.tmps a'.defers w'∧SameBut (fun t=>t∈cr c) a a') a w:=by
 unfold uF at hc;rw[hb] at hc;simp only[av] at hc;obtain⟨r,hr,hc⟩:=hc;have PM:=fun x hx=>ahZ (fn:=fn) (s:=s) (N:=N) eQ (asU (n:=fn.ntmps) (ids:=ids) ba hΦ) c false S0 r hr none w0 σ0 (fun t=>t∈cr c) ρ x a w (fun _=>⟨rfl,nm⟩) hC hY (fun _ h=>h) hn hg hx;split at hc
 ·rename_i kz;cases hc;refine wpIn_mono (PM (.ret d) he) fun e a' w' ho=>?_;cases e with
  |normal=>obtain⟨_,_,h,_⟩:=ho;cases h
  |exit id=>obtain⟨_,_,h,_⟩:=ho;cases h
  |ret=>obtain⟨d',h,h2⟩:=ho;cases h;exact⟨.inr rfl,h2⟩
  |_=>exact ho.elim
 ·rename_i S kz;simp only[aC] at hc;obtain⟨pe,u9,rfl⟩:=hc;simp only[PC.ev] at he;split at he
  ·rename_i ρ1 h1;cases he;refine wpIn_mono (PM (.next ρ1) h1) fun e a' w' ho=>?_;cases e with
   |normal=>
    obtain⟨ρ2,S2,e1,e2,mw,iQ⟩:=ho;cases e1;rw[kz] at e2;cases e2;obtain⟨σ2,own,hv,hi⟩:=iQ;exact⟨.inl rfl,Inv.retD hC (fun _=>rfl) nm u9 _ hi rfl,mw⟩
   |exit id=>obtain⟨_,_,h,_⟩:=ho;cases h
   |ret=>obtain⟨d',h,h2⟩:=ho;cases h
   |_=>exact ho.elim
  ·rename_i aE;refine wpIn_mono (PM (.ret d) he) fun e a' w' ho=>?_;cases e with
   |normal=>obtain⟨_,_,h,_⟩:=ho;cases h
   |exit id=>obtain⟨_,_,h,_⟩:=ho;cases h
   |ret=>obtain⟨d',h,h2⟩:=ho;cases h;exact⟨.inr rfl,h2⟩
   |_=>exact ho.elim
theorem qY.leaves {C:Ctx}{w0:World}{σ0:Base}{fn:Func}{s:Sig}{d:D}{tmps:Array Value}{R:Ending→World→Prop}(hR:∀w',MF C w0 σ0 fn s d {tmps:=tmps,defers:=[]} w'→∃v,(results fn tmps).run C.P w'=.ok v w'∧R (.returned v) w'):
 ∀(ds:List Deferred) (w:World),qY C w0 σ0 fn s d tmps ds w→LeavesInM (FR none) 0 C.P fn tmps R ds .returning w
 |[],w,h=>hR w h
 |x::ds,w,⟨D,h1,h2,h3⟩=>⟨by simp,.inl ⟨D,_,h1,run_takeDeferred h2,qY.leaves hR ds _ h3⟩⟩
theorem aji {C:Ctx}{σ:Im}{w:World}{args:Array Value}{ds:List D}{s:Sig}{m:Nat}{ids:List Nat}(aD:σ.ok w)(ha:pq C σ s.args args.toList ds):
 Good C w (Base.mk0 σ w.heap.size) ((Ye m s).st ids) (kS ds) (fun _=>False) {tmps:=args++Array.replicate (m-args.size) undef,defers:=[]} w:=by
 obtain⟨h1,h2,h3⟩:=ha;have aI:args.size=s.args.length:=by simpa using h1
 refine⟨σ,fun _=>none,fun _=>undef,trivial,aD,.refl σ,fun _ k e=>(aD.m k _ e).lt,fun _ _ _ h=>.inl h,fun _ _ h=>.inl h,.refl _ _,bl _,(fun k j h=>by cases h),fun t=>?_,fun j=>?_,fun t gs s' e=>absurd e (Snap.noOpt _ _ t gs s'),
  .none,fun _=>False,fun _=>False,⟨⟨fun _=>id,fun _=>id⟩,(fun k j h=>by cases h),fun _ _ _ _=>id,fun _ _ _=>id,fun _ _ _=>id⟩,fun j hj=>?_⟩
 ·show aG C _ _ σ _ (cw ((s.args.map Sh.dat++List.replicate (m-s.args.length) Sh.none).getD t .none)) _ _;rw[aJ];by_cases ht:t<s.args.length
  ·rw[kN (by simpa using ht),cB,bF ht];simp only[km,jK,cw];have:=h3 t _ (bF ht);have e1:(args++Array.replicate (m-args.size) undef).getD t undef=args.toList.getD t undef:=by
        simp only[dT,aJ];rw[Wx (by omega)];simp
   show aG C _ _ σ _ (.dat _) ((args++Array.replicate (m-args.size) undef).getD t undef) (ds.getD t .none);rw[e1];exact this
  ·rw[ly (by simpa using ht),WU];split<;>trivial
 ·show cg C _ _ σ _ _ w _ j (dm ids [] j);rw[aa0];trivial
 ·change dm ids [] j=.tr at hj;rw[aa0] at hj;cases hj
theorem NW {C:Ctx}{Φ:aR}(ba:dp C)(hΦ:dc C Φ)(eQ:gq C Φ){f:Nat}{fn:Func}{s:Sig}{ids:List Nat}{pc:PC}(hf:C.P.funcs[f]?=some fn)(hc:mh C fn s ids=some pc){N:Nat}{ds:List D}{d:D}(cN:qq s.mode=false)
 (he:pc.ev Φ N (kS ds)=some (.ret d)):iz C f s ds d:=by
 intro σ w args aD hC ha;unfold mh at hc;split at hc
 case h_2=>cases hc
 rename_i kD;split at hc
 case h_1=>rename_i e;rw[e] at cN;cases cN
 cases hle:Nat.ble s.args.length fn.ntmps<;>simp only[hle,cond_true,cond_false] at hc
 ·cases hc
 have Eh:=jJ hle;have aI:args.size=s.args.length:=by simpa using ha.1
 cases hb:fn.body with
 |none=>unfold uF at hc;rw[hb] at hc;cases hc
 |some c=>
 refine(callsIn_wide (n:=0)).1 (callsIn_of_wp_marks (F:=FR none) hf hb trivial ?_);have hg:=aji (C:=C) (m:=fn.ntmps) (ids:=ids) aD ha;have hn:(args++Array.replicate (fn.ntmps-args.size) undef).size=fn.ntmps:=by simp;omega
 refine wpIn_mono (NV ba hΦ eQ hb hc (σ0:=Base.mk0 σ w.heap.size) trivial hC (fun J ys e=>by rw[kD] at e;cases e) hn hg he) fun e a' w' ho=>?_
 have main:=qY.leaves (R:=fun e w'=>∃v σ',e=.returned v∧σ.le σ'∧σ'.ok w'∧Below w.heap.size w w'∧
  (∀k o x,σ'.c k o=some x→σ.c k o=some x∨w.heap.size≤k)∧(∀k x,σ'.m k=some x→σ.m k=some x∨w.heap.size≤k)∧me C s σ' w w' v d) (fun w2 Ez=>by
  obtain⟨v,σ',_,h2,h3,h4,h5,h6,h7,h8⟩:=Ez;exact⟨v,h2,v,σ',rfl,h3,h4,h5,h6,h7,h8⟩) _ _ ho.2.1
 rcases ho.1 with rfl|rfl<;>exact main
def Base.mkO (σ:Im)(own:Nat→Option Nat)(w:World)(cx:Nat→Prop):Base:=
 {σ with
  B:=0
  fin:=True
  F:=fun _ fx kp w'=>(∀k,fx k↔(k<w.heap.size∧own k=none))∧(∀k,kp k↔(fx k∧cx k))∧w.heap.size≤w'.heap.size∧∀k,fx k→w'.heap[k]?=w.heap[k]?
  lt:=fun t' fx cx w' h k hk=>wj ((h.1 k).1 hk).1 h.2.2.1
  sub:=fun t' fx cx w' h k hk=>((h.2.1 k).1 hk).1
  keep:=fun t' fx cx w' kK h hb hs=>⟨h.1,h.2.1,kj h.2.2.1 hb.size,fun k hk=>(hs k hk).trans (h.2.2.2 k hk)⟩}
theorem aaC {l:List Nat}:∀{shs:List Sh} {k:Nat},EO l k shs=true→∀(t:Nat) (s:Sh),shs[t]?=some s→nB s=false→(k+t)∉l
 |[],k,_,t,s,h,_=>by simp at h
 |x::shs,k,hk,t,s,h,hd=>by
  simp only[EO,aq,gF,iy] at hk;cases t with
  |zero=>
   simp at h;subst h;rcases hk.1 with h1|h1
   ·rw[hd] at h1;cases h1
   ·intro hm;rw[iI] at hm;rw[(qt _ _).2 hm] at h1;cases h1
  |succ t=>
   simp at h;have:=aaC hk.2 t s h hd
   rwa [wh,Cv 1 t] at this
theorem Qt (obs:List (Nat×Ob))(j:Nat):∀ids:List Nat,dm ids (ids.map (eg obs)) j=.dead∨dm ids (ids.map (eg obs)) j=eg obs j
 |[]=>.inl rfl
 |i::is=>by
  simp only[gU,dm];cases hb:Nat.beq i j
  ·exact Qt obs j is
  ·right;rw[aB hb];rfl
theorem abG:∀{l:List (Nat×Ob)},vu l=true→∀x,x∈l→x.2≠.tr
 |[],_,x,hx=>by cases hx
 |y::l,h,x,hx=>by
  simp only[vu,aq] at h;rcases cC.1 hx with rfl|hx
  ·intro e;rw[e] at h;cases h.1
  ·exact abG h.2 x hx
theorem abH:∀{l:List (Nat×Ob)},vu l=true→∀j,eg l j≠.tr
 |[],_,j,e=>by cases e
 |x::l,h,j,e=>by
  simp only[vu,aq] at h;simp only[eg] at e;cases hb:Nat.beq x.1 j<;>simp only[hb,cond_true,cond_false] at e
  ·exact abH h.2 j e
  ·have h1:=h.1;rw[e] at h1;cases h1
theorem ajh {C:Ctx}{σ:Im}{own:Nat→Option Nat}{hv:Nat→Value}{w w0:World}{args:Array Value}{cx:Nat→Prop}{shs:List Sh}{obs:List (Nat×Ob)}{ds:List D}{m:Nat}{ids:List Nat}(hN:w0.heap.size≤w.heap.size)(DY:Below 0 w0 w)(aD:σ.ok w)(bq:∀k,σ.m k≠some cW)(aI:args.size=shs.length)
 (cd:∀k j,own k=some j→w0.heap.size≤k∧k<w.heap.size∧(∀o,σ.c k o=none)∧σ.m k=none) (kU:∀k,cx k→k<w.heap.size∧own k=none∧(∀o,σ.c k o=none)∧σ.m k=none) (qo:vu obs=true) (fp:shs.all tR=true)
 (h1:∀t,aG C (fT shs obs) (IT shs obs ds) σ hv (shs.getD t .none) (args.getD t undef) (ds.getD t .none)) (h2:∀j,cg C (fT shs obs) (IT shs obs ds) σ own hv w w0.heap.size j (eg obs j)):
 Good C w0 (Base.mkO σ own w cx) ((Oc m shs obs ids).st ids) (IT shs obs ds) (fun _=>False) {tmps:=args++Array.replicate (m-args.size) undef,defers:=[]} w:=by
 have rv:Compat (fT shs obs) hv ((Oc m shs obs ids).st ids) hv:=⟨fun _=>bl _,fun _ _=>rfl⟩
 refine⟨σ,own,hv,trivial,aD,.refl σ,fun _ k e=>absurd e (bq k),fun _ _ _ h=>.inl h,fun _ _ h=>.inl h,DY,pC _,cd,fun t=>?_,fun j=>?_,fun t gs s' e=>absurd e (Snap.noOpt _ _ t gs s'),
  .none,(fun k=>k<w.heap.size∧own k=none),cx,⟨⟨fun _=>Iff.rfl,fun k=>⟨fun h=>⟨⟨(kU k h).1,(kU k h).2.1⟩,h⟩,fun h=>h.2⟩,bl _,fun _ _=>rfl⟩,(fun k j h hf=>by rw[hf.2] at h;cases h),(fun k o x e hc=>by rw[(kU k hc).2.2.1 o] at e;cases e),(fun k x e hc=>by rw[(kU k hc).2.2.2] at e;cases e),fun k e=>absurd e (bq k)⟩,fun j hj=>?_⟩
 ·show aG C _ _ σ _ (cw ((shs++List.replicate (m-shs.length) Sh.none).getD t .none)) _ _;refine Mj ?_;rw[aJ];by_cases ht:t<shs.length
  ·rw[kN ht];have:=h1 t;rw[aJ (l:=shs)] at this;have e1:(args++Array.replicate (m-args.size) undef).getD t undef=args.getD t undef:=by
        simp only[dT];rw[Wx (by omega)]
   show aG C _ _ σ _ _ ((args++Array.replicate (m-args.size) undef).getD t undef) (ds.getD t .none);rw[e1];refine aG.mono' (.refl σ) rv (fun gs s' e=>?_) this;have hp:=bK.1 fp _ (dq ht);rw[bF ht] at e;simp only[jK] at e;rw[e] at hp;cases hp
  ·rw[ly (by omega),WU];split<;>trivial
 ·show cg C _ _ σ _ _ w _ j (dm ids (ids.map (eg obs)) j);rcases Qt obs j ids with e|e
  ·rw[e];trivial
  ·rw[e];exact(h2 j).mono (.refl σ) rv rfl rfl (fun k hk=>⟨hk,rfl⟩)
 ·change dm ids (ids.map (eg obs)) j=.tr at hj;rcases Qt obs j ids with e|e
  ·rw[e] at hj;cases hj
  ·rw[e] at hj;exact absurd hj (abH qo j)
def IP (w:World)(N:Nat):World:={w with heap:=w.heap.extract 0 N}
theorem ahT {C:Ctx}{Φ:aR}(ba:dp C)(hΦ:dc C Φ)(eQ:gq C Φ){f:Nat}{fn:Func}{s:Sig}{ids:List Nat}{pc:PC}(hf:C.P.funcs[f]?=some fn)(hc:mh C fn s ids=some pc){N:Nat}{ds:List D}{d:D}{shs:List Sh}{obs:List (Nat×Ob)}(cN:s.mode=.ob shs obs)
 (he:pc.ev Φ N (kS ds)=some (.ret d)):gG C f shs obs s.res ds d:=by
 unfold mh at hc;split at hc
 case h_2=>cases hc
 rename_i kD;rw[cN] at hc;simp only at hc;cases hle:(Nat.ble shs.length fn.ntmps&&EO (Hk fn) 0 shs&&shs.all tR&&vu obs)<;>simp only[hle,cond_true,cond_false] at hc
 ·cases hc
 simp only[aq] at hle;obtain⟨⟨⟨l1,l2⟩,l3⟩,l4⟩:=hle;refine gG.of (abG l4) ?_;intro B σ own hv w args cx _ aD hC bq hB aI cd kU h1 h2;simp only[aC] at hc;obtain⟨pc,hc,rfl⟩:=hc;simp only[PC.ev,atl,km] at he;have Eh:=jJ l1;cases hb:fn.body with
 |none=>unfold uF at hc;rw[hb] at hc;cases hc
 |some c=>
 have bn:Hk fn=cr c:=by unfold Hk;rw[hb]
 rw[bn] at l2;refine(callsIn_wide (n:=0)).1 (callsIn_of_wp_marks (F:=FR none) hf hb trivial ?_);have rM:(IP w B).heap.size=B:=by simp[IP];omega
 have DY:Below 0 (IP w B) w:=⟨rfl,rfl,rfl,by rw[rM];exact hB,fun k hk=>by omega⟩
 have hg:=ajh (C:=C) (m:=fn.ntmps) (ids:=ids) (w0:=IP w B) (cx:=cx) (by rw[rM];exact hB) DY aD bq aI (by rw[rM];exact cd) kU l4 l3 h1 (by rw[rM];exact h2);have hn:(args++Array.replicate (fn.ntmps-args.size) undef).size=fn.ntmps:=by simp;omega
 refine wpIn_mono (NV ba hΦ eQ hb hc (σ0:=Base.mkO σ own w cx) trivial hC (fun J ys e=>by rw[kD] at e;cases e) hn hg he) fun e a' w' ho=>?_;obtain⟨jR,Ez,ib⟩:=ho
 have main:=qY.leaves (R:=fun e w'=>∃v σ' own' hv' dr os,e=.returned v∧d=.tup (dr::os)∧os.length=obs.length∧σ.le σ'∧σ'.ok w'∧Below 0 w w'∧
  (∀k,k<w.heap.size→own k=none→w'.heap[k]?=w.heap[k]?)∧
  (∀k o x,σ'.c k o=some x→(σ.c k o=some x∨B≤k)∧¬cx k)∧(∀k x,σ'.m k=some x→(σ.m k=some x∨B≤k)∧¬cx k)∧(∀k,σ'.m k=some cW→B≤k→k<w.heap.size→own k≠none)∧
  (∀k j,own' k=some j→B≤k∧k<w'.heap.size∧(∀o,σ'.c k o=none)∧σ'.m k=none∧(k<w.heap.size→own k≠none))∧
  (∀(t:Nat) (sh:Sh),shs[t]?=some sh→nB sh=false→aG C (fT shs obs) (mL obs ds os) σ' hv' sh (args.getD t undef) (ds.getD t .none))∧
  (∀j,cg C (fT shs obs) (mL obs ds os) σ' own' hv' w' B j (eg obs j))∧Rep C.cap σ' s.res v dr) (fun w2 hr=>by
  obtain⟨v,σ',⟨own',t,fx,kp,da,_,JQ⟩,ak,jT,Pr,DW,cX,cM,_⟩:=hr;obtain⟨hv',dr,os,e1,e2,e3,e4,e5,e6⟩:=JQ shs obs cN;obtain⟨f1,f2,f3,f4⟩:=da.F;have Zj:∀k,cx k→kp k:=fun k hk=>(f2 k).2 ⟨(f1 k).2 ⟨(kU k hk).1,(kU k hk).2.1⟩,hk⟩;rw[rM] at cX cM e3 e5
  refine⟨v,ak,v,σ',own',hv',dr,os,rfl,e1,e2,jT,Pr,⟨DW.os,DW.tape,DW.output,f3,fun k hk=>by omega⟩,fun k hk hn=>f4 k ((f1 k).2 ⟨hk,hn⟩),fun k o x e=>⟨cX k o x e,fun hk=>da.c k o x e (Zj k hk)⟩,fun k x e=>⟨cM k x e,fun hk=>da.m k x e (Zj k hk)⟩,
   fun k e Oz hk hn=>da.d k e (by rw[rM];exact Oz) ((f1 k).2 ⟨hk,hn⟩),fun k j hk=>?_,fun t sh hs hd=>?_,fun j=>?_,e6⟩
  ·obtain⟨g1,g2,g3,g4⟩:=e3 k j hk;exact⟨g1,g2,g3,g4,fun af hn=>da.own k j hk ((f1 k).2 ⟨af,hn⟩)⟩
  ·have:=e4 t sh hs hd (ds.getD t .none);have af:t<shs.length:=(eD.1 hs).1;have nr:t∉cr c:=by have:=aaC l2 t sh hs hd;simpa using this
   have cq:a'.tmps.getD t undef=args.getD t undef:=by
        rw[ib.get t nr];simp only[dT];rw[Wx (by omega)]
   simp only at this;rw[cq] at this;have hp:=bK.1 l3 _ (mc hs);exact aG.mono' (.refl σ') ⟨fun _=>bl _,fun _ _=>rfl⟩ (fun gs s' e=>by rw[e] at hp;cases hp) this
  ·exact cg.mono (S:=fT shs obs) (S':=fT shs obs) (ρ:=mL obs [] os) (ρ':=mL obs ds os) (hv:=hv') (hv':=hv') (own:=own') (own':=own') (w:=w2) (w':=w2) (.refl σ') ⟨fun _=>bl _,fun _ _=>rfl⟩ rfl rfl (fun k hk=>⟨hk,rfl⟩) (e5 j)) _ _ Ez
 rcases jR with rfl|rfl<;>exact main
def Yd (m:Nat)(cts:List Ty)(J:Nat)(ids:List Nat):Snap:=⟨.yv::(cts.map .dat++List.replicate (m-(cts.length+1)) .none),ids.map fun j=>bif Nat.beq j J then .tr else .dead⟩
def Aj (J:Nat)(ds:List D):Env:=⟨fun t=>(D.none::ds).getD t .none,fun j=>bif Nat.beq j J then .list [] else .none⟩
def wC (C:Ctx)(fn:Func)(cts ys:List Ty)(J:Nat)(ids:List Nat):Option PC:=
 match C.yl,C.sig m0,C.cap m0 with
 |none,none,none=>bif Nat.ble (cts.length+1) fn.ntmps then uF {C with yl:=some (J,ys)} fn ⟨[],.tup [],.it J⟩ ids (Yd fn.ntmps cts J ids) else none
 |_,_,_=>none
open Classical in
def yldΦ (Φ:aR)(xs:List D)(m:Nat):aR:=fun f ds=>
 if f=m0 then(match ds with|[.list l]=>if 0<l.length∧l.length≤m+1∧l=xs.take l.length then some (.v (.bool (decide (l.length≤m)))) else none|_=>none)
 else Φ f ds
theorem yldΦ_at {Φ:aR}{xs l ds:List D}{d:D}{m:Nat}(h:yldΦ Φ xs m m0 [.list (l++[.tup ds])]=some d):l.length≤m∧l=xs.take l.length∧xs[l.length]?=some (.tup ds)∧l++[.tup ds]=xs.take (l.length+1)∧d=.v (.bool (decide (l.length<m))):=by
 simp only[yldΦ,if_true] at h;split at h
 ·rename_i hc;obtain⟨h1,h2,h3⟩:=hc;simp only[kg,nZ,yP,gI] at h2 h3 h;have hx:xs[l.length]?=some (.tup ds):=by
   have:(xs.take (l.length+1))[l.length]?=some (.tup ds):=by rw[←h3];simp
   rw[fa] at this;simpa using this
  have hl:l=xs.take l.length:=by
   have:=congrArg (List.take l.length) h3;simpa [List.take_take] using this
  refine⟨by omega,hl,hx,h3,?_⟩;cases h
  congr 2
 ·cases h
theorem dc.yl {C:Ctx}{Φ:aR}(h:dc C Φ){y:Option (Nat×List Ty)}{v:Value}{xs:List D}{m:Nat}(hs:C.sig m0=none):dc {C with yl:=y,yv:=v} (yldΦ Φ xs m):=by
 intro f ds d e s eH;have aE:f≠m0:=fun e'=>by subst e';change C.sig m0=some s at eH;rw[hs] at eH;cases eH
 simp only[yldΦ,if_neg aE] at e;obtain⟨h1,h2⟩:=h f ds d e s eH;exact⟨fun hm σ w args aD hC ha=>h1 hm σ w args aD ⟨hC.glob⟩ ha,fun shs obs hm=>(h2 shs obs hm).ctx rfl rfl rfl⟩
theorem l9.yl {C:Ctx}{y:Option (Nat×List Ty)}{v:Value}{f:Nat}{cts ys:List Ty}{ds xs:List D}(h:l9 C f cts ys ds xs):l9 {C with yl:=y,yv:=v} f cts ys ds xs:=
 fun σ w yv vs F fx cx m aD hC=>h σ w yv vs F fx cx m aD ⟨hC.glob⟩
theorem gq.yl {C:Ctx}{Φ:aR}(h:gq C Φ){y:Option (Nat×List Ty)}{v:Value}{xs:List D}{m:Nat}(hs:C.cap m0=none):gq {C with yl:=y,yv:=v} (yldΦ Φ xs m):=by
 intro f cs ys hc hi;have aE:f≠m0:=fun e'=>by subst e';change C.cap m0=some cs at hc;rw[hs] at hc;cases hc
 obtain⟨h1,h2⟩:=h f cs ys hc hi;refine⟨h1,fun ds d e=>?_⟩;simp only[yldΦ,if_neg aE] at e;obtain⟨xs,e1,e2,e3⟩:=h2 ds d e;exact⟨xs,e1,e2,e3.yl⟩
def WK (Φ:aR)(pc:PC)(J:Nat)(ds xs:List D):Prop:=∀m,m≤xs.length→∃N,pc.ev (yldΦ Φ xs m) N (Aj J ds)=some (.ret (.list (xs.take (m+1))))
theorem ajg {C:Ctx}{σ:Im}{σ0:Base}{w:World}{yv:Value}{vs:List Value}{ds:List D}{cts ys:List Ty}{J m:Nat}{ids:List Nat}(aD:σ.ok w)(ha:pq C σ cts vs ds)(hm:cts.length+1≤m)(kD:C.yl=some (J,ys))(EI:C.yv=yv)
 (h0:σ0.toIm=σ) (hB:σ0.B=0) {fx cx:Nat→Prop} (hF:σ0.F (.list []) fx cx w) (fi:∀k o x,σ.c k o=some x→¬cx k) (lH:∀k x,σ.m k=some x→¬cx k):
 Good C w σ0 ((Yd m cts J ids).st ids) (Aj J ds) (fun _=>False) {tmps:=#[yv]++vs.toArray++Array.replicate (m-(vs.length+1)) undef,defers:=[]} w:=by
 obtain⟨h1,h2,h3⟩:=ha
 refine⟨σ,fun _=>none,fun _=>undef,trivial,aD,by rw[h0];exact .refl σ,fun _ k e=>by rw[h0] at e;exact(aD.m k _ e).lt,fun _ _ _ h=>by rw[h0];exact .inl h,fun _ _ h=>by rw[h0];exact .inl h,.refl _ _,by omega,(fun k j h=>by cases h),fun t=>?_,fun j=>?_,fun t gs s' e=>absurd e (Snap.noOpt _ _ t gs s'),
  .list [],fx,cx,⟨hF,(fun k j h=>by cases h),fi,lH,fun k e hk=>by have:=(aD.m k _ e).lt;omega⟩,fun j hj=>?_⟩
 ·show aG C _ _ σ _ (cw ((Sh.yv::(cts.map Sh.dat++List.replicate (m-(cts.length+1)) Sh.none)).getD t .none)) ((#[yv]++vs.toArray++Array.replicate (m-(vs.length+1)) undef).getD t undef) ((D.none::ds).getD t .none);have ea:((#[yv]++vs.toArray++Array.replicate (m-(vs.length+1)) undef).getD t undef)=(yv::(vs++List.replicate (m-(vs.length+1)) undef)).getD t undef:=by
   rw[dT,←Cn,aJ];simp
  rw[ea];cases t with
  |zero=>simp only[ux,cw];exact EI.symm
  |succ t=>
   simp only[Cs];rw[aJ];by_cases ht:t<cts.length
   ·rw[kN (by simpa using ht),cB,bF ht];simp only[km,jK,cw];have:=h3 t _ (bF ht);have e1:(vs++List.replicate (m-(vs.length+1)) undef).getD t undef=vs.getD t undef:=by
     simp only[aJ];rw[kN (by omega)]
    show aG C _ _ σ _ (.dat _) _ (ds.getD t .none);rw[e1];exact this
   ·rw[ly (by simpa using ht),WU];split<;>trivial
 ·show cg C _ _ σ _ _ w _ j (dm ids (ids.map fun j=>bif Nat.beq j J then .tr else .dead) j);refine xF _ (fun ob=>cg C _ _ σ _ _ w _ j ob) trivial j ?_ ids;cases Nat.beq j J<;>trivial
 ·change dm ids (ids.map fun j=>bif Nat.beq j J then .tr else .dead) j=.tr at hj
  have hb:=xF (fun j=>bif Nat.beq j J then Ob.tr else .dead) (fun ob=>ob=.tr→Nat.beq j J=true) (fun e=>by cases e) j (fun e=>by
   cases hb:Nat.beq j J
   ·rw[hb] at e;cases e
   ·rfl) ids hj
  have:=aB hb;subst this;refine⟨⟨ys,kD⟩,?_⟩;show(bif Nat.beq j j then D.list [] else .none)=_;rw[gH];rfl
theorem ahU {C:Ctx}{Φ:aR}(ba:dp C)(hΦ:dc C Φ)(eQ:gq C Φ){f:Nat}{fn:Func}{cts ys:List Ty}{J:Nat}{ids:List Nat}{pc:PC}(hf:C.P.funcs[f]?=some fn)(hc:∀yv,wC {C with yv:=yv} fn cts ys J ids=some pc){ds xs:List D}
 (hr:WK Φ pc J ds xs):l9 C f cts ys ds xs:=by
 intro σ w yv vs F fx cx m aD hC ha hm af bN w8 hF fi lH Qc;have hc:=hc yv;unfold wC at hc;split at hc
 case h_2=>cases hc
 rename_i kD hsy hcy;cases hle:Nat.ble (cts.length+1) fn.ntmps<;>simp only[hle,cond_true,cond_false] at hc
 ·cases hc
 have Eh:=jJ hle;obtain⟨N,he⟩:=hr m hm;cases hb:fn.body with
 |none=>unfold uF at hc;rw[hb] at hc;cases hc
 |some c=>
 refine(callsIn_wide (n:=0)).1 (callsIn_of_wp_marks (F:=FR none) hf hb trivial ?_);obtain⟨σ0,hσ0⟩:∃σ0:Base,σ0={σ with B:=0,fin:=True,F:=fun t fx cx w=>(∃l,t=.list l)∧F t fx cx w,lt:=fun t fx cx w h=>af t fx cx w h.2,sub:=fun t fx cx w h=>bN t fx cx w h.2,keep:=fun t fx cx w w' h hb hs=>⟨h.1,w8 t fx cx w w' h.2 hb hs⟩}:=⟨_,rfl⟩
 have e1:σ0.toIm=σ:=by rw[hσ0]
 have e2:σ0.B=0:=by rw[hσ0]
 have e3:σ0.fin:=by rw[hσ0];trivial
 have e4:∀t fx cx w,σ0.F t fx cx w↔(∃l,t=.list l)∧F t fx cx w:=fun t fx cx w=>by rw[hσ0]
 have hg:=ajg (C:={C with yl:=some (J,ys),yv:=yv}) (σ0:=σ0) (w:=w) (yv:=yv) (vs:=vs) (ds:=ds) (cts:=cts) (ys:=ys) (J:=J) (m:=fn.ntmps) (ids:=ids) aD ha Eh rfl rfl e1 e2 ((e4 _ _ _ _).2 ⟨⟨_,rfl⟩,hF⟩) fi lH;have aI:(#[yv]++vs.toArray).size=vs.length+1:=by simp<;>omega
 have JX:vs.length=cts.length:=ha.1;have hY:pD {C with yl:=some (J,ys),yv:=yv} (yldΦ Φ xs m) w σ0:=by
  intro J' ys' e;cases e;refine⟨e2,fun t fx cx w h=>((e4 _ _ _ _).1 h).1,fun ke ds' d hd fx cx w1 σ1 args As amZ wT Jn Ei cX cM=>?_⟩;obtain⟨g1,g2,g3,g4,rfl⟩:=yldΦ_at hd;rw[e1] at cX cM;have:=Qc ke.length fx cx w1 σ1 args ds' g1 g3 (by rw[←g2];exact((e4 _ _ _ _).1 As).2) amZ wT Jn Ei cX cM;intro rd o a x aa ts K Q bR hv has hK;refine this rd o a x aa ts K Q bR hv has fun u w2 hu=>hK u w2 ?_;obtain⟨u1,u2,u3,ni,kp,u4,u5,u6⟩:=hu;refine⟨_,rfl,u1,u2,u3,ni,kp,(e4 _ _ _ _).2 ⟨⟨_,rfl⟩,?_⟩,u5,u6⟩;rw[g4];exact u4
 have hn:(#[yv]++vs.toArray++Array.replicate (fn.ntmps-(vs.length+1)) undef).size=fn.ntmps:=by simp;omega
 rw[aI];refine wpIn_mono (NV (C:={C with yl:=some (J,ys),yv:=yv}) ba (hΦ.yl hsy) (eQ.yl hcy) hb hc (σ0:=σ0) e3 (by rw[e1];exact⟨hC.glob⟩) hY hn hg he) fun e a' w' ho=>?_
 have main:=qY.leaves (R:=fun e w'=>(∃v,e=.returned v)∧∃fx cx,F (.list (xs.take (m+1))) fx cx w') (fun w2 Ez=>by
  obtain⟨v,σ',⟨own,t,fx,cx,h1,ht,_⟩,h2,_⟩:=Ez;refine⟨v,h2,⟨v,rfl⟩,fx,cx,?_⟩;rw[ht J rfl];exact((e4 _ _ _ _).1 h1.F).2) _ _ ho.2.1
 rcases ho.1 with rfl|rfl<;>exact main
def dV (tab:Nat→Option PC)(ext:Nat→Option (aR→List D→Option D)):Nat→aR
 |0=>fun _ _=>none
 |n+1=>fun f ds=>
  match ext f with
  |some g=>g (dV tab ext n) ds
  |none=>
   match tab f with
   |some pc=>(match pc.ev (dV tab ext n) n (kS ds) with|some (.ret d)=>some d|_=>none)
   |none=>none
theorem iz.hint {C:Ctx}{fr nh:List Nat}{f:Nat}{s:Sig}{ds:List D}{d:D}(h:iz C f s ds d):iz {C with fr:=fr,nh:=nh} f s ds d:=
 fun σ w args aD hC ha=>h σ w args aD ⟨hC.glob⟩ ha
theorem iz.unhint {C:Ctx}{fr nh:List Nat}{f:Nat}{s:Sig}{ds:List D}{d:D}(h:iz {C with fr:=fr,nh:=nh} f s ds d):iz C f s ds d:=
 fun σ w args aD hC ha=>h σ w args aD ⟨hC.glob⟩ ha
theorem l9.hint {C:Ctx}{fr nh:List Nat}{f:Nat}{cts ys:List Ty}{ds xs:List D}(h:l9 C f cts ys ds xs):l9 {C with fr:=fr,nh:=nh} f cts ys ds xs:=
 fun σ w yv vs F fx cx m aD hC=>h σ w yv vs F fx cx m aD ⟨hC.glob⟩
theorem l9.unhint {C:Ctx}{fr nh:List Nat}{f:Nat}{cts ys:List Ty}{ds xs:List D}(h:l9 {C with fr:=fr,nh:=nh} f cts ys ds xs):l9 C f cts ys ds xs:=
 fun σ w yv vs F fx cx m aD hC=>h σ w yv vs F fx cx m aD ⟨hC.glob⟩
theorem gG.hint {C:Ctx}{fr nh:List Nat}{f:Nat}{shs:List Sh}{obs:List (Nat×Ob)}{res:Ty}{ds:List D}{d:D}(h:gG C f shs obs res ds d):gG {C with fr:=fr,nh:=nh} f shs obs res ds d:=h.ctx rfl rfl rfl
theorem gG.unhint {C:Ctx}{fr nh:List Nat}{f:Nat}{shs:List Sh}{obs:List (Nat×Ob)}{res:Ty}{ds:List D}{d:D}(h:gG {C with fr:=fr,nh:=nh} f shs obs res ds d):gG C f shs obs res ds d:=gG.ctx (C':=C) h rfl rfl rfl
theorem dc.hint {C:Ctx}{fr nh:List Nat}{Φ:aR}(h:dc C Φ):dc {C with fr:=fr,nh:=nh} Φ:=
 fun f ds d e s hs=>⟨fun hm=>((h f ds d e s hs).1 hm).hint,fun shs obs hm=>((h f ds d e s hs).2 shs obs hm).hint⟩
theorem gq.hint {C:Ctx}{fr nh:List Nat}{Φ:aR}(h:gq C Φ):gq {C with fr:=fr,nh:=nh} Φ:=
 fun f cs ys hc hi=>let⟨h1,h2⟩:=h f cs ys hc hi;⟨h1,fun ds d e=>let⟨xs,e1,e2,e3⟩:=h2 ds d e;⟨xs,e1,e2,e3.hint⟩⟩
theorem dp.hint {C:Ctx}{fr nh:List Nat}(h:dp C):dp {C with fr:=fr,nh:=nh}:=h
def Mm (C:Ctx)(f:Nat)(s:Sig)(ds:List D)(d:D):Prop:=(qq s.mode=false→iz C f s ds d)∧∀shs obs,s.mode=.ob shs obs→gG C f shs obs s.res ds d
structure TabOK (C:Ctx) (tab:Nat→Option PC) (ext:Nat→Option (aR→List D→Option D)):Prop where
 clos:dp C
 its:∀f cs ys,C.cap f=some cs→mD cs.args cs.res=some ys→tab f=none∧∃fn,C.P.funcs[f]?=some fn∧fn.body.isSome=true∧(fn.name== "runtime.NumGoroutine")=false
 tab:∀f pc,ext f=none→tab f=some pc→∃fn s ids fr nh,C.P.funcs[f]?=some fn∧C.sig f=some s∧mh {C with fr:=fr,nh:=nh} fn s ids=some pc
 ext:∀f g,ext f=some g→∀Φ,dc C Φ→gq C Φ→∀ds d,g Φ ds=some d→(∀s,C.sig f=some s→Mm C f s ds d)∧
  ∀cs ys,C.cap f=some cs→mD cs.args cs.res=some ys→∃xs,d=.list xs∧(∀x,x∈xs→∃ds',x=.tup ds'∧ds'.length=ys.length)∧l9 C f cs.caps ys ds xs
theorem W3 {C:Ctx}{tab:Nat→Option PC}{ext:Nat→Option (aR→List D→Option D)}(h:TabOK C tab ext):∀n,dc C (dV tab ext n)∧gq C (dV tab ext n)
 |0=>⟨fun f ds d e=>by simp[dV] at e,fun f cs ys hc hi=>⟨(h.its f cs ys hc hi).2,fun ds d e=>by simp[dV] at e⟩⟩
 |n+1=>by
  obtain⟨ih,mC⟩:=W3 h n;refine⟨fun f ds d e=>?_,fun f cs ys hc hi=>⟨(h.its f cs ys hc hi).2,fun ds d e=>?_⟩⟩
  ·simp only[dV] at e;split at e
   ·rename_i g hg;exact(h.ext f g hg _ ih mC ds d e).1
   ·rename_i hx;split at e
    ·rename_i pc ab;split at e
     ·rename_i d' he;cases e;obtain⟨fn,s,ids,fr,nh,h1,h2,h3⟩:=h.tab f pc hx ab;intro s' eH;rw[h2] at eH;cases eH
      exact⟨fun hm=>(NW (C:={C with fr:=fr,nh:=nh}) (dp.hint h.clos) (dc.hint ih) (gq.hint mC) h1 h3 hm he).unhint,
       fun shs obs hm=>(ahT (C:={C with fr:=fr,nh:=nh}) (dp.hint h.clos) (dc.hint ih) (gq.hint mC) h1 h3 hm he).unhint⟩
     ·cases e
    ·cases e
  ·simp only[dV] at e;split at e
   ·rename_i g hg;exact(h.ext f g hg _ ih mC ds d e).2 cs ys hc hi
   ·rw[(h.its f cs ys hc hi).1] at e;cases e
def agj (Φ:aR)(pc:PC)(J k:Nat)(ds xs:List D):Prop:=WK Φ pc J ds xs∧∀x,x∈xs→∃ds',x=.tup ds'∧ds'.length=k
open Classical in
def A1 (pc:PC)(J k:Nat)(spec:List D→List D):aR→List D→Option D:=fun Φ ds=>if agj Φ pc J k ds (spec ds) then some (.list (spec ds)) else none
theorem aaz {C:Ctx}{Φ:aR}(ba:dp C)(hΦ:dc C Φ)(eQ:gq C Φ){f:Nat}{fn:Func}{cts ys:List Ty}{J k:Nat}{ids fr nh:List Nat}{pc:PC}(hf:C.P.funcs[f]?=some fn)(hc:∀yv,wC {C with fr:=fr,nh:=nh,yv:=yv} fn cts ys J ids=some pc){spec:List D→List D}
 {ds:List D} {d:D} (h:A1 pc J k spec Φ ds=some d) (hk:k=ys.length):∃xs,d=.list xs∧(∀x,x∈xs→∃ds',x=.tup ds'∧ds'.length=ys.length)∧l9 C f cts ys ds xs:=by
 unfold A1 at h;split at h
 ·rename_i hs;cases h;subst hk;exact⟨_,rfl,hs.2,(ahU (C:={C with fr:=fr,nh:=nh}) (dp.hint ba) (dc.hint hΦ) (gq.hint eQ) hf hc hs.1).unhint⟩
 ·cases h
def bI {α:Type}:List (Nat×α)→Nat→Option α
 |[],_=>none
 |x::l,f=>bif Nat.beq x.1 f then some x.2 else bI l f
def GU {α:Type}(R:Nat→α→Prop):List (Nat×α)→Prop
 |[]=>True
 |x::l=>R x.1 x.2∧GU R l
theorem Qu {α:Type}{R:Nat→α→Prop}:∀{l:List (Nat×α)},GU R l→∀f x,bI l f=some x→R f x
 |[],_,f,x,h=>by cases h
 |y::l,⟨h1,h2⟩,f,x,h=>by
  simp only[bI] at h;cases hb:Nat.beq y.1 f<;>simp only[hb,cond_true,cond_false] at h
  ·exact Qu h2 f x h
  ·cases h;rw[←cR hb];exact h1
def TO (P:Program):List (Nat×Sig)→Bool
 |[]=>true
 |x::l=>(match P.funcs[x.1]? with|some fn=>fn.body.isSome&& !(fn.name== "runtime.NumGoroutine")|none=>false)&&TO P l
theorem afG {P:Program}:∀{l:List (Nat×Sig)},TO P l=true→∀f s,bI l f=some s→∃fn,P.funcs[f]?=some fn∧fn.body.isSome=true∧(fn.name== "runtime.NumGoroutine")=false
 |[],_,f,s,h=>by cases h
 |y::l,hl,f,s,h=>by
  simp only[TO,aq] at hl;simp only[bI] at h;cases hb:Nat.beq y.1 f<;>simp only[hb,cond_true,cond_false] at h
  ·exact afG hl.2 f s h
  ·rw[←cR hb];have h1:=hl.1;split at h1
   ·rename_i fn e;simp only[aq,iy] at h1;exact⟨fn,e,h1.1,h1.2⟩
   ·cases h1
def TE (a b:Sig):Bool:=Ty.beqs a.args b.args&&Ty.beq a.res b.res&&(match a.mode,b.mode with|.dat,.dat=>true|_,_=>false)
theorem atr {a b:Sig}(h:TE a b=true):a=b:=by
 obtain⟨a1,a2,a3⟩:=a;obtain⟨b1,b2,b3⟩:=b;simp only[TE,aq] at h;rw[Ty.beqs_eq _ _ h.1.1,Ty.beq_eq _ _ h.1.2];cases a3<;>cases b3<;>first|rfl|(have:=h.2;cases this)
def GH (P:Program)(f:Nat):Bool:=match P.funcs[f]? with|some fn=>fn.body.isSome&& !(fn.name== "runtime.NumGoroutine")|none=>false
theorem at1 {P:Program}{f:Nat}(h:GH P f=true):∃fn,P.funcs[f]?=some fn∧fn.body.isSome=true∧(fn.name== "runtime.NumGoroutine")=false:=by
 unfold GH at h;split at h
 ·rename_i fn e;simp only[aq,iy] at h;exact⟨fn,e,h.1,h.2⟩
 ·cases h
def NN (P:Program)(sig:List (Nat×Sig))(pcs:List Nat):List (Nat×CSig)→Bool
 |[]=>true
 |x::l=>(match mD x.2.args x.2.res with
   |none=>(match bI sig x.1 with|some s=>TE s ⟨x.2.args++x.2.caps,x.2.res,.dat⟩|none=>false)
   |some _=> !fq pcs x.1&&GH P x.1)&&NN P sig pcs l
theorem XC {P:Program}{sig:List (Nat×Sig)}{pcs:List Nat}:∀{l:List (Nat×CSig)},NN P sig pcs l=true→∀f cs,bI l f=some cs→
 (mD cs.args cs.res=none→bI sig f=some ⟨cs.args++cs.caps,cs.res,.dat⟩)∧∀ys,mD cs.args cs.res=some ys→fq pcs f=false∧GH P f=true
 |[],_,f,cs,h=>by cases h
 |x::l,hl,f,cs,h=>by
  simp only[NN,aq] at hl;simp only[bI] at h;cases hb:Nat.beq x.1 f<;>simp only[hb,cond_true,cond_false] at h
  ·exact XC hl.2 f cs h
  ·cases h;rw[←cR hb];have h1:=hl.1;refine⟨fun e=>?_,fun ys e=>?_⟩
   ·rw[e] at h1;simp only at h1;split at h1
    ·rename_i s hs;rw[hs,atr h1]
    ·cases h1
   ·rw[e] at h1;simpa using h1
theorem aaX {α:Type}:∀{l:List (Nat×α)} {f:Nat},fq (l.map (·.1)) f=false→bI l f=none
 |[],f,_=>rfl
 |x::l,f,h=>by
  simp only[gU,fq,List.any_cons,WC] at h;simp only[bI];have hb:Nat.beq x.1 f=false:=by
   cases e:Nat.beq x.1 f
   ·rfl
   ·rw[aB e,gH] at h;cases h.1
  rw[hb];exact aaX (l:=l) h.2
def agu (Φ:aR)(pa pb:PC)(ds:List D)(d:D):Prop:=(∃N xs,pa.ev Φ N (kS ds)=some (.ret (.list xs))∧xs≠[]∧d=.list xs)∨∃N,pb.ev Φ N (kS ds)=some (.ret (.list []))∧d=.list []
open Classical in
def Bb (pa pb:PC)(spec:List D→D):aR→List D→Option D:=fun Φ ds=>if agu Φ pa pb ds (spec ds) then some (spec ds) else none
theorem aqH {C:Ctx}{Φ:aR}(ba:dp C)(hΦ:dc C Φ)(eQ:gq C Φ){f:Nat}{fn:Func}{args:List Ty}{e:Ty}{ids aoc fr nh YD nhb:List Nat}{pa pb:PC}(hf:C.P.funcs[f]?=some fn)(ha:mh {C with fr:=fr,nh:=nh} fn ⟨args,.slice e,.dat⟩ ids=some pa)
 (hb:mh {C with fr:=YD,nh:=nhb} fn ⟨args,.nils .bool,.dat⟩ aoc=some pb) {spec:List D→D} {ds:List D} {d:D} (h:Bb pa pb spec Φ ds=some d):iz C f ⟨args,.nsl e,.dat⟩ ds d:=by
 unfold Bb at h;split at h
 case isFalse=>cases h
 rename_i hs;cases h;rcases hs with⟨N,xs,h1,h2,h3⟩|⟨N,h1,h2⟩
 ·rw[h3];have:=(NW (C:={C with fr:=fr,nh:=nh}) (dp.hint ba) (dc.hint hΦ) (gq.hint eQ) hf ha (N:=N) rfl h1).unhint;intro σ w aa aD hC iO;refine(this σ w aa aD hC iO).mono fun en w' hh=>?_;obtain⟨v,σ',g1,g2,g3,g4,g5,g6,g7⟩:=hh;refine⟨v,σ',g1,g2,g3,g4,g5,g6,?_⟩;change Rep C.cap σ' (.slice e) v (.list xs) at g7;show Rep C.cap σ' (.nsl e) v (.list xs);generalize hd:D.list xs=dd at g7;cases g7 with
  |nil=>injection hd with hd;exact absurd hd h2
  |emp=>injection hd with hd;exact absurd hd h2
  |slice _ k o n c ke vs a1 a2 a3 a4 a5=>exact .nsl e k o n c ke (.slice e k o n c ke vs a1 a2 a3 a4 a5) (by injection hd with hd;rw[←hd];exact h2)
 ·rw[h2];have:=(NW (C:={C with fr:=YD,nh:=nhb}) (dp.hint ba) (dc.hint hΦ) (gq.hint eQ) hf hb (N:=N) rfl h1).unhint;intro σ w aa aD hC iO;refine(this σ w aa aD hC iO).mono fun en w' hh=>?_;obtain⟨v,σ',g1,g2,g3,g4,g5,g6,g7⟩:=hh;refine⟨v,σ',g1,g2,g3,g4,g5,g6,?_⟩;change Rep C.cap σ' (.nils .bool) v (.list []) at g7;show Rep C.cap σ' (.nsl e) v (.list []);generalize D.list []=dd at g7;cases g7;exact .nsl0 e
end Cx
namespace Cx
open Go Go.RowKit Go.ChangeShapes Go.WideShapes
def nz (w:World):Im:=
 ⟨fun k o=>w.cell? ⟨k,o,none⟩,fun _=>none⟩
theorem aoe (w:World):(nz w).ok w:=by
 exact⟨fun k o v h=>h,fun k es h=>by cases h⟩
def B0 (P:Program)(r:TypeId→Option Ty):List Field→Nat→Option (List Ty)
 |[],_=>some []
 |f::fs,off=>(r f.type).bind fun ft=>
  bif Nat.beq f.offset off&&Nat.beq (P.cellsOf f.type) ft.flat.length then(B0 P r fs (off+ft.flat.length)).map (ft.flat++·) else none
def gl (P:Program):Nat→TypeId→Option Ty
 |0,_=>none
 |n+1,t=>
  match P.underlying t with
  |some .bool=>some .bool
  |some (.int k)=>some (.int k)
  |some .string=>some .str
  |some (.slice e)=>bif tL P e then some (.slice .trm) else(gl P n e).bind fun te=>bif Nat.beq (P.cellsOf e) te.flat.length&&Nat.ble 1 te.flat.length then some (.slice te) else none
  |some (.struct fs)=>(B0 P (gl P n) fs.toList 0).bind fun ts=>bif Nat.beq (P.cellsOf t) ts.length then some (.agg ts) else none
  |_=>none
theorem aoj {P:Program}{e:TypeId}(h:tL P e=true)(n:Nat):gl P (n+2) e=some .trmA∧P.cellsOf e=3:=by
 unfold tL at h;split at h
 case h_2=>cases h
 rename_i fs hu;split at h
 case h_2=>cases h
 rename_i f0 f1 f2 wY;simp only[aq] at h;obtain⟨⟨⟨⟨⟨⟨⟨⟨⟨h0,h1⟩,h2⟩,o0⟩,o1⟩,o2⟩,c0⟩,c1⟩,c2⟩,c3⟩:=h;split at h0
 case h_2=>cases h0
 rename_i u0;split at h1
 case h_2=>cases h1
 rename_i u1;split at h2
 case h_2=>cases h2
 rename_i e' u2;obtain rfl:=aB h2;have r0:gl P (n+1) f0.type=some (.int .i64):=by simp[gl,u0]
 have r1:gl P (n+1) f1.type=some (.int .i64):=by simp[gl,u1]
 have ht:tL P e'=true:=by
  unfold tL;rw[hu];simp only[wY];simp[u0,u1,u2,aB o0,aB o1,aB o2,aB c0,aB c1,aB c2,aB c3]
 have r2:gl P (n+1) f2.type=some (.slice .trm):=by simp[gl,u2,ht]
 refine⟨?_,aB c3⟩;show gl P (n+1+1) e'=_;rw[gl,hu];simp only[wY,B0,r0,r1,r2,kl,Ty.flat,nZ,yP,o0,c0,Bool.and_self,cond_true];simp[aB o1,aB o2,aB c1,aB c2,aB c3,Ty.trmA]
theorem Tl {P:Program}{n:Nat}{t:TypeId}{ty:Ty}(h:gl P n t=some ty):ty.rowT=true∨ty.one=true:=by
 cases n with
 |zero=>simp[gl] at h
 |succ n=>
  simp only[gl] at h;split at h
  ·cases h;exact .inr rfl
  ·cases h;exact .inr rfl
  ·cases h;exact .inr rfl
  ·rename_i e _;cases ht:tL P e<;>simp only[ht,cond_true,cond_false] at h
   ·simp only[av] at h;obtain⟨te,_,h⟩:=h;cases hb:(Nat.beq (P.cellsOf e) te.flat.length&&Nat.ble 1 te.flat.length)<;>simp only[hb,cond_true,cond_false] at h
    ·cases h
    ·cases h;exact .inr rfl
   ·cases h;exact .inr rfl
  ·rename_i fs _;simp only[av] at h;obtain⟨ts,_,h⟩:=h;cases hb:Nat.beq (P.cellsOf t) ts.length<;>simp only[hb,cond_true,cond_false] at h
   ·cases h
   ·cases h;exact .inl rfl
  ·cases h
def m8 (cap:Nat→Option CSig)(σ:Im)(ts:List Ty)(cs:List Value)(ds:List D):Prop:=
 cs.length=ts.length∧ds.length=ts.length∧∀(i:Nat) (u:Ty),ts[i]?=some u→Rep cap σ u (cs.getD i undef) (ds.getD i .none)∧u.one=true
theorem m8.one {cap:Nat→Option CSig}{σ:Im}{t:Ty}{v:Value}{d:D}(h:Rep cap σ t v d)(ht:t.one=true):m8 cap σ [t] [v] [d]:=
 ⟨rfl,rfl,fun i u hu=>by
   cases i with
   |zero=>simp at hu;subst hu;exact⟨h,ht⟩
   |succ i=>simp at hu⟩
theorem m8.append {cap:Nat→Option CSig}{σ:Im}{ts us:List Ty}{cs vs:List Value}{ds es:List D}(h:m8 cap σ ts cs ds)(k:m8 cap σ us vs es):m8 cap σ (ts++us) (cs++vs) (ds++es):=by
 obtain⟨h1,h2,h3⟩:=h;obtain⟨k1,k2,k3⟩:=k;refine⟨by simp[h1,k1],by simp[h2,k2],fun i u hu=>?_⟩;by_cases hi:i<ts.length
 ·rw[kN hi] at hu;have:=h3 i u hu;rw[aJ,aJ,kN (by omega),kN (by omega)];rw[aJ,aJ] at this;exact this
 ·rw[ly (by omega)] at hu;have:=k3 _ u hu;rw[aJ,aJ,ly (by omega),ly (by omega),h1,h2];rw[aJ,aJ] at this;exact this
def XQ (ag:Bool)(ds:List D):D:=if ag then .agg ds else ds.getD 0 .none
theorem ajG (t:Ty):t.flat.length=t.size:=by cases t<;>rfl
theorem Rep.ofRow {cap:Nat→Option CSig}{σ:Im}{t:Ty}{cs:List Value}{ds:List D}(ia:t.rowT=true∨t.one=true)(h:m8 cap σ t.flat cs ds):Rep cap σ t (Cx.rowOf t.rowT cs) (XQ t.rowT ds):=by
 obtain⟨h1,h2,h3⟩:=h;cases t with
 |agg ts=>exact .agg ts cs ds h1 h2 (fun i u hu=>(h3 i u hu).1) (fun i u hu=>(h3 i u hu).2)
 |trm=>simp[Ty.rowT,Ty.one] at ia
 |_=>exact(h3 0 _ rfl).1
theorem as7 {cap:Nat→Option CSig}{σ:Im}{t:Ty}{cs:List Value}{ds:List D}(ia:t.rowT=true∨t.one=true)(h:m8 cap σ t.flat cs ds){j:Nat}{u:Value}(hj:(rowOf t.rowT cs).cells[j]?=some u):cs[j]?=some u:=by
 obtain⟨h1,h2,h3⟩:=h;cases t with
 |agg ts=>simpa [rowOf,Ty.rowT,Value.cells] using hj
 |trm=>simp[Ty.rowT,Ty.one] at ia
 |_=>
  have h4:=h3 0 _ rfl;have h5:=(h4.1.oneCell h4.2).1;simp only[rowOf,Ty.rowT,v5,if_false] at hj;rw[h5] at hj;cases j with
  |zero=>
   simp only[G0,Mt,aT] at hj
   match cs,h1 with
   |[c],_=>simpa using hj
  |succ j=>simp at hj
section
variable {H:Type} {enc:TypeId×Value→H} {P:Program} {w:World} {base:Nat} {held:Bool} {cap:Nat→Option CSig}
theorem afX {k:IntKind}{n:Int}(h:(Lit.int k n).wf=true):k.min≤n∧n≤k.max:=by
 simpa [Lit.wf] using h
theorem aeP {n m:Nat}(ih:∀(t:TypeId) (cs:List Value) (x:DataW H×List MemPlace) (ty:Ty),DataW.trod enc P w base (fun _=>true) held n t cs=some x→gl P m t=some ty→∃ds,m8 cap (nz w) ty.flat cs ds):
 ∀(fs:List Field) (off:Nat) (cs:List Value) (ts:List Ty),B0 P (gl P m) fs off=some ts→cs.length=off+ts.length→
  (∀f,f∈fs→∃x,DataW.trod enc P w base (fun _=>true) held n f.type ((cs.drop f.offset).take (P.cellsOf f.type))=some x)→∃ds,m8 cap (nz w) ts (cs.drop off) ds
 |[],off,cs,ts,h,hl,_=>by
  simp only[B0,aT] at h;subst h;have:cs.drop off=[]:=by simp at hl ⊢;omega
  rw[this];exact⟨[],rfl,rfl,fun i u hu=>by simp at hu⟩
 |f::fs,off,cs,ts,h,hl,hx=>by
  simp only[B0,av] at h;obtain⟨ft,hft,h⟩:=h;cases hb:(Nat.beq f.offset off&&Nat.beq (P.cellsOf f.type) ft.flat.length)<;>simp only[hb,cond_true,cond_false] at h
  ·cases h
  simp only[aC] at h;obtain⟨us,hus,rfl⟩:=h;simp only[aq] at hb;have e1:=cR hb.1;have e2:=cR hb.2;obtain⟨x,oG⟩:=hx f (du ..);rw[e1,e2] at oG;obtain⟨Df,iS⟩:=ih _ _ _ _ oG hft;simp only[kg] at hl;obtain⟨ds2,mz⟩:=aeP ih fs (off+ft.flat.length) cs us hus (by omega) fun g hg=>hx g (di _ hg);refine⟨Df++ds2,?_⟩;have:=iS.append mz;rw[←List.drop_drop,My] at this;exact this
theorem aws:∀(n m:Nat) (t:TypeId) (cs:List Value) (x:DataW H×List MemPlace) (ty:Ty),DataW.trod enc P w base (fun _=>true) held n t cs=some x→gl P m t=some ty→∃ds,m8 cap (nz w) ty.flat cs ds:=by
 intro n
 induction n with
 |zero=>intro m t cs x ty h;simp[DataW.trod] at h
 |succ n ih=>
  intro m t cs x ty h bm;cases m with
  |zero=>simp[gl] at bm
  |succ m=>
   simp only[gl] at bm;split at bm
   ·rename_i hu;cases bm;obtain⟨b,rfl,_⟩:=DataW.trod_bool hu h;exact⟨_,.one (.bool b) rfl⟩
   ·rename_i k hu;cases bm;obtain⟨z,rfl,_,hw⟩:=DataW.trod_int hu h;exact⟨_,.one (.int k z (afX hw).1 (afX hw).2) rfl⟩
   ·rename_i hu;cases bm;obtain⟨s,rfl,_,hs⟩:=DataW.trod_string hu h;exact⟨_,.one (.str s hs) rfl⟩
   ·rename_i e hu;have xq:∃(m':Nat) (te vQ:Ty),gl P m' e=some te∧P.cellsOf e=te.flat.length∧1≤te.flat.length∧ty=.slice vQ∧vQ.unf=te:=by
     cases ht:tL P e<;>simp only[ht,cond_true,cond_false] at bm
     ·simp only[av] at bm;obtain⟨te,xq,bm⟩:=bm;cases hb:(Nat.beq (P.cellsOf e) te.flat.length&&Nat.ble 1 te.flat.length)<;>simp only[hb,cond_true,cond_false] at bm
      ·cases bm
      cases bm;simp only[aq] at hb;exact⟨m,te,te,xq,cR hb.1,jJ hb.2,rfl,Ty.unf_ro (Tl xq)⟩
     ·cases bm;obtain⟨k1,k2⟩:=aoj ht 0;exact⟨2,.trmA,.trm,k1,k2,by decide,rfl,rfl⟩
    obtain⟨m',te,vQ,xq,e1,e2,rfl,ny⟩:=xq;have ia:=Tl xq;rcases DataW.trod_slice hu h with⟨rfl,_⟩|⟨a,len,cp,elems,rest,n',jU,rfl,_,hba,hl,hm,hlen,jn,oF,_⟩
    ·exact⟨_,.one (.nil vQ) rfl⟩
    ·cases jU;obtain⟨hrl,vb⟩:=oF rfl
     have qh:∀i,i<cp→∃ci y,w.cells? base (a.add (i*P.cellsOf e)) (P.cellsOf e)=some ci∧DataW.trod enc P w base (fun _=>true) held n e ci=some y:=by
      intro i hi
      have gx:∃y,(w.cells? base (a.add (i*P.cellsOf e)) (P.cellsOf e)).bind (DataW.trod enc P w base (fun _=>true) held n e)=some y:=by
           by_cases wZ:i<len
           ·rw[jn i wZ];exact⟨_,bF (by omega)⟩
           ·have:=vb (i-len) (by omega);rw[show len+(i-len)=i by omega] at this;rw[this];exact⟨_,bF (by omega)⟩
      obtain⟨y,hy⟩:=gx;rw[av] at hy;obtain⟨ci,h1,h2⟩:=hy;exact⟨ci,y,h1,h2⟩
     by_cases DZ:cp=0
     ·subst DZ;have:len=0:=by omega
      subst this;exact⟨_,.one (.emp vQ a) rfl⟩
     ·have Z8:a.spot=none:=by
           obtain⟨ci,y,h1,_⟩:=qh 0 (by omega);obtain⟨_,_,h3⟩:=World.cells?_some h1;have:=h3 0 (by omega);simp only[Nat.zero_mul,Addr.add,if_true] at this;unfold World.cell? at this;cases hs:a.spot with
           |none=>rfl
           |some s=>
            exfalso;have hl:ci.length=P.cellsOf e:=(World.cells?_some h1).2.1;split at this
            ·rw[hs] at this;simp at this;subst this;simp at hl;omega
            ·rw[eq_comm,List.getElem?_eq_none_iff] at this;omega
      obtain⟨k,o,s⟩:=a;simp only at Z8;subst Z8;have aP:∀i,∃p:List Value×List D,i<len→w.cells? base ((⟨k,o,none⟩:Addr).add (i*P.cellsOf e)) (P.cellsOf e)=some p.1∧m8 cap (nz w) te.flat p.1 p.2:=by
           intro i;by_cases hi:i<len
           ·obtain⟨ci,y,h1,h2⟩:=qh i (by omega);obtain⟨ds,hr⟩:=ih m' _ _ _ _ h2 xq;exact⟨(ci,ds),fun _=>⟨h1,hr⟩⟩
           ·exact⟨([],[]),fun h=>absurd h hi⟩
      obtain⟨f,hf⟩:=Classical.axiomOfChoice aP;refine⟨_,.one (.slice vQ k o len cp ((List.range len).map fun i=>XQ te.rowT (f i).2) (fun i=>rowOf te.rowT (f i).1) (by simp) hl hm (fun i x hx=>?_) (fun i j u hi hj=>?_)) rfl⟩
      ·rw[cB,aC] at hx;obtain⟨i',df,rfl⟩:=hx;have af:i<len:=by have:=(eD.1 df).1;simpa using this
       rw[qW af] at df;cases df;rw[ny];exact Rep.ofRow ia (hf i af).2
      ·obtain⟨h1,h2⟩:=hf i hi;have dM:=as7 ia h2 hj;obtain⟨_,h4,h5⟩:=World.cells?_some h1;have eR:j<P.cellsOf e:=by rw[←h4];exact(eD.1 dM).1
       have:=h5 j eR;rw[dM] at this;show w.cell? ⟨k,o+i*vQ.size+j,none⟩=some u;rw[←vQ.unf_size,ny,←ajG,←e1,←this]
       congr 1
       simp only[Addr.add];split<;>split<;>simp_all
   ·rename_i fs hu;simp only[av] at bm;obtain⟨ts,JY,bm⟩:=bm;cases hb:Nat.beq (P.cellsOf t) ts.length<;>simp only[hb,cond_true,cond_false] at bm
    ·cases bm
    cases bm;obtain⟨xs,n',jU,_,hl,xw,hf⟩:=DataW.trod_struct hu h;cases jU
    have:=aeP (ih m) fs.toList 0 cs ts JY (by rw[hl,cR hb];omega) (fun f hm=>by
     obtain⟨i,hi⟩:=yO hm;have df:fs[i]?=some f:=by simpa using hi
     have h1:=hf i f df;have af:i<fs.size:=(gp.1 df).1;exact⟨_,h1.trans (bF (by omega))⟩)
    show ∃ds,m8 cap (nz w) ts cs ds;simpa using this
   ·cases bm
theorem C0 {base:Nat}{t:TypeId}{v:Value}(h:Cell.okWide P w .any base t v):v.cells=#[v]:=by
 cases v<;>first|rfl|(exfalso;simp only[Cell.okWide,Cell.ok] at h;revert h;cases P.underlying t with|none=>simp|some T=>cases T<;>simp)
theorem agV {base base':Nat}{m:Nat}{t:TypeId}{v:Value}{d:DataW H}{ps:List MemPlace}{ty:Ty}(aD:Value.okWide P w .any base' t v)(h:DataW.Trod enc P w base (fun _=>true) held t v d ps)(bm:gl P m t=some ty):∃d,Rep cap (nz w) ty v d:=by
 obtain⟨fuel,h⟩:=h;obtain⟨ds,hr⟩:=aws (cap:=cap) fuel m t _ _ _ h bm;have bS:=Rep.ofRow (Tl bm) hr;cases m with
 |zero=>simp[gl] at bm
 |succ m=>
  suffices hs:rowOf ty.rowT v.cells.toList=v by rw[hs] at bS;exact⟨_,bS⟩
  simp only[gl] at bm;unfold Value.okWide at aD;split at bm
  ·rename_i hu;cases bm;rw[hu] at aD;simp only at aD;rw[C0 aD];rfl
  ·rename_i hu;cases bm;rw[hu] at aD;simp only at aD;rw[C0 aD];rfl
  ·rename_i hu;cases bm;rw[hu] at aD;simp only at aD;rw[C0 aD];rfl
  ·rename_i e hu;cases ht:tL P e<;>simp only[ht,cond_true,cond_false] at bm
   ·simp only[av] at bm;obtain⟨te,_,bm⟩:=bm;cases hb:(Nat.beq (P.cellsOf e) te.flat.length&&Nat.ble 1 te.flat.length)<;>simp only[hb,cond_true,cond_false] at bm
    ·cases bm
    cases bm;rw[hu] at aD;simp only at aD;rw[C0 aD];rfl
   ·cases bm;rw[hu] at aD;simp only at aD;rw[C0 aD];rfl
  ·rename_i fs hu;simp only[av] at bm;obtain⟨ts,_,bm⟩:=bm;cases hb:Nat.beq (P.cellsOf t) ts.length<;>simp only[hb,cond_true,cond_false] at bm
   ·cases bm
   cases bm;rw[hu] at aD;obtain⟨cs,rfl,_⟩:=aD;simp[rowOf,Ty.rowT,Value.cells]
  ·cases bm
def Gl (P:Program)(m:Nat):List TypeId→Option (List Ty)
 |[]=>some []
 |t::ts=>(gl P m t).bind fun x=>(Gl P m ts).map (x::·)
theorem Xf {base base' m:Nat}:∀(ts:List TypeId) (vs:List Value) (ds:List (DataW H)) (ps:List MemPlace) (fE:List Ty),DataW.TrodAll enc P w base (fun _=>true) held ts vs ds ps→Gl P m ts=some fE→
 (∀(j:Nat) t v,ts[j]?=some t→vs[j]?=some v→Value.okWide P w .any base' t v)→
 ∃es:List D,vs.length=fE.length∧es.length=fE.length∧∀(i:Nat) (t:Ty),fE[i]?=some t→Rep cap (nz w) t (vs.getD i undef) (es.getD i .none)
 |[],vs,ds,ps,fE,h,bm,_=>by
  simp only[Gl,aT] at bm;subst bm;cases vs with
  |nil=>exact⟨[],rfl,rfl,fun i t h=>by simp at h⟩
  |cons=>cases ds<;>exact h.elim
 |t::ts,vs,ds,ps,fE,h,bm,aD=>by
  simp only[Gl,av,aC] at bm;obtain⟨ty,anT,aww,anU,rfl⟩:=bm;cases vs with
  |nil=>cases ds<;>exact h.elim
  |cons v vs=>
   cases ds with
   |nil=>exact h.elim
   |cons d ds=>
    obtain⟨p,q,h1,h2,_⟩:=h;obtain⟨e,he⟩:=agV (cap:=cap) (aD 0 t v rfl rfl) h1 anT;obtain⟨es,k1,k2,k3⟩:=Xf ts vs ds q aww h2 anU (fun j t' v' hj hv=>aD (j+1) t' v' hj hv);refine⟨e::es,by simp[k1],by simp[k2],fun i u hu=>?_⟩;cases i with
    |zero=>simp at hu;subst hu;exact he
    |succ i=>simpa using k3 i u (by simpa using hu)
end
mutual
inductive DTy:Ty→D→Prop where
 |int (k:IntKind) (n:Int) (h1:k.min≤n) (h2:n≤k.max):DTy (.int k) (.v (.int k n))
 |bool (b:Bool):DTy .bool (.v (.bool b))
 |str (s:ByteArray) (h:s.size≤maxLen):DTy .str (.v (.string s))
 |slice (e:Ty) (xs:List D) (hm:xs.length≤maxLen) (h:∀x,x∈xs→DTy e.unf x):DTy (.slice e) (.list xs)
 |agg (ts:List Ty) (ds:List D) (h:DTys ts ds):DTy (.agg ts) (.agg ds)
 |other (t:Ty) (d:D) (h:match t with|.int _|.bool|.str|.slice _|.agg _=>False|_=>True):DTy t d
inductive DTys:List Ty→List D→Prop where
 |nil:DTys [] []
 |cons {t:Ty} {d:D} {ts:List Ty} {ds:List D} (h:DTy t d) (hs:DTys ts ds):DTys (t::ts) (d::ds)
end
theorem DTys.of_get:∀{ts:List Ty} {ds:List D},ds.length=ts.length→(∀(i:Nat) (t:Ty),ts[i]?=some t→DTy t (ds.getD i .none))→DTys ts ds
 |[],[],_,_=>.nil
 |t::ts,d::ds,hl,h=>.cons (h 0 t rfl) (DTys.of_get (by simpa using hl) fun i u hu=>by simpa using h (i+1) u (by simpa using hu))
 |[],_::_,hl,_=>by simp at hl
 |_::_,[],hl,_=>by simp at hl
theorem Rep.dty {cap:Nat→Option CSig}{σ:Im}{t:Ty}{v:Value}{d:D}(h:Rep cap σ t v d):DTy t d:=by
 induction h with
 |int k n h1 h2=>exact .int k n h1 h2
 |bool b=>exact .bool b
 |str s h=>exact .str s h
 |agg ts vs ds h1 h2 _ ho ih=>exact .agg ts ds (.of_get h2 ih)
 |nil e=>exact .slice e [] (by decide) (fun x hx=>by cases hx)
 |emp e a=>exact .slice e [] (by decide) (fun x hx=>by cases hx)
 |slice e k o n c xs vs hn hc hm _ hv ih=>
  refine .slice e xs (by omega) fun x hx=>?_;obtain⟨i,hi⟩:=yO hx;exact ih i x hi
 |_=>exact .other _ _ trivial
theorem aot {H:Type}{enc:TypeId×Value→H}{C:Ctx}{f:Nat}{fn:Func}{sg:Sig}{spec:ChangeSpec}{tb:TypeId}{apart fresh handsOn again:Bool}(hl:laidOutB C.P=true)
 (rK:Gl C.P 12 fn.params.toList=some sg.args) (ani:fn.params.toList.all (fun t=>C.P.readableRec t&&decide (t<C.P.types.size))=true) (P1:spec.vars=[])
 (anE:∀ds:List (DataW H),ds.length=fn.params.size→(spec.fn H ds).results=[.lit (.bool true)]∧(spec.fn H ds).args=ds∧(spec.fn H ds).vars=[])
 (fN:fn.resultTypes=#[tb]) (hub:C.P.underlying tb=some .bool) (kZ:sg.mode=.dat) (vc:sg.res=.bool)
 (Pa:∀ds,DTys sg.args ds→iz C f sg ds (.v (.bool true)))
 (W:World) (uX:CtxOK C (nz W)) (base:Nat) (args:Array Value) (ds gs:List (DataW H)) (before:List MemPlace)
 (cq:∀(j:Nat) t v,fn.params[j]?=some t→args[j]?=some v→Value.okWide C.P W .any base t v)
 (hW:DataW.Whole enc C.P fn.params.toList spec.vars apart W args.toList ds gs before):
 Calls C.P f args W fun e W'=>∃v,e=.returned v∧spec.post enc C.P fn apart fresh handsOn again W args v W':=by
 have Jh:=hW;have af:∀p∈before,p.block<W.heap.size:=fun p hp=>Jh.lt p hp;obtain⟨p,q,hA,hV,rfl,D9,bq⟩:=hW;rw[P1] at hV;obtain⟨rfl,rfl⟩:=trodVars_none hV;obtain⟨es,k1,k2,k3⟩:=Xf (cap:=C.cap) (base':=base) fn.params.toList args.toList ds p sg.args hA rK (fun j t v hj hv=>cq j t v (by simpa using hj) (by simpa using hv));have bm:DTys sg.args es:=.of_get k2 fun i t ht=>(k3 i t ht).dty
 have hlen:∀(ts:List TypeId) (vs:List Value) (ds:List (DataW H)) (ps:List MemPlace),DataW.TrodAll enc C.P W 0 (fun _=>true) true ts vs ds ps→ds.length=ts.length:=by
  intro ts
  induction ts with
  |nil=>intro vs ds ps h;cases vs<;>cases ds<;>first|rfl|exact h.elim
  |cons t ts ih=>
   intro vs ds ps h;cases vs with
   |nil=>cases ds<;>exact h.elim
   |cons v vs=>cases ds with
    |nil=>exact h.elim
    |cons d ds=>obtain⟨p,q,_,h2,_⟩:=h;simp[ih vs ds q h2]
 have OS:ds.length=fn.params.size:=by simpa using hlen _ _ _ _ hA
 obtain⟨s1,s2,s3⟩:=anE (ds++[]) (by simpa using OS);refine(Pa es bm (nz W) W args (aoe W) uX ⟨k1,k2,k3⟩).mono fun e W' hh=>?_;obtain⟨v,σ',rfl,_,_,hb,_,_,hr⟩:=hh;refine⟨v,rfl,?_⟩;simp only[me,kZ,vc] at hr;obtain⟨b,rfl,wV⟩:=hr.bool_inv;cases wV
 have stays:∀(sp:Nat→Bool) (ts:List TypeId) (vs:List Value) (ds:List (DataW H)) (ps:List MemPlace),ts.all (fun t=>C.P.readableRec t&&decide (t<C.P.types.size))=true→(∀x∈ps,x.block<W.heap.size)→(∀x∈ps,sp x.block=true)→
  DataW.TrodAll enc C.P W 0 (fun _=>true) true ts vs ds ps→DataW.TrodAll enc C.P W' 0 sp true ts vs ds ps:=by
  intro sp ts
  induction ts with
  |nil=>intro vs ds ps _ _ _ h;cases vs<;>cases ds<;>first|exact h|exact h.elim
  |cons t ts ih=>
   intro vs ds ps ha tD oF h;cases vs with
   |nil=>cases ds<;>exact h.elim
   |cons v vs=>cases ds with
    |nil=>exact h.elim
    |cons d ds=>
     obtain⟨p,q,h1,h2,rfl⟩:=h;simp only[qV,aq,decide_eq_true_eq] at ha
     exact⟨p,q,WideElems.Trod_stays hl ha.1.1 ha.1.2 h1 (fun x hx=>hb.same (tD x (jI _ hx))) (fun x hx=>oF x (jI _ hx)),
      ih vs ds q (by simpa using ha.2) (fun x hx=>tD x (kh _ hx)) (fun x hx=>oF x (kh _ hx)) h2,rfl⟩
 have ZK:∀x∈p,x.block<W.heap.size:=fun x hx=>af x (jI _ hx);have iO:=fun sp (h:∀x∈p,sp x.block=true)=>stays sp _ _ _ _ ani ZK h hA;have vb:∀(b:Nat) (sp:Nat→Bool) (hd:Bool),DataW.TrodAll enc C.P W' b sp hd fn.resultTypes.toList ((Value.bool true).resultList fn.resultTypes.size) [.lit (.bool true)] []:=by
  intro b sp hd;rw[fN];exact trodAll_mk1 (shut_bool hub true)
 refine⟨ds,[],p++[],[],p,[],Jh,?_,?_,?_,World.keptBut_mono (fun x hx=>⟨hx,?_⟩) (hb.frame (·∈p++[])),fun _=>?_⟩
 ·rw[s1];exact vb _ _ _
 ·rw[s2];simpa using iO _ (fun x hx=>by simpa using ZK x hx)
 ·rw[s3,P1];rfl
 ·simpa using hx
 ·refine⟨ok_one fN rfl (okWide_bool_mk hub true),_,[],([]++p)++[],⟨[]++p,[],trodAll_append (iO _ (fun _ _=>rfl)) (vb _ _ _),by rw[P1];exact rfl,rfl,?_,?_⟩,?_⟩
  ·intro b off hp;have bC:MemPlace.cell b off∈p++[]:=by simpa using hp
   rw[hb.frozen (af _ bC)];exact D9 b off bC
  ·intro ha;simpa using bq ha
  ·intro x hx _;simpa using hx
end Cx
namespace Cx
open Go Go.RowKit
abbrev cG:=Nat→aR
def ao (T:cG)(f:Nat)(ds:List D)(d:D):Prop:=∃n0,∀n,n0≤n→T n f ds=some d
def yK (T:cG)(l:List PI)(ρ:Env)(Q:Env→Prop):Prop:=∃ρ',Q ρ'∧∃n0,∀n,n0≤n→PI.runs (T n) l ρ=some ρ'
def aN (T:cG)(c:PC)(ρ:Env)(Q:Out→Prop):Prop:=∃x,Q x∧∃n0,∀n,n0≤n→c.ev (T n) n ρ=some x
theorem aN.mono {T:cG}{c:PC}{ρ:Env}{Q Q':Out→Prop}(h:aN T c ρ Q)(hq:∀x,Q x→Q' x):aN T c ρ Q':=by
 obtain⟨x,hx,n0,hn⟩:=h;exact⟨x,hq x hx,n0,hn⟩
theorem yK.nil {T:cG}{ρ:Env}{Q:Env→Prop}(h:Q ρ):yK T [] ρ Q:=⟨ρ,h,0,fun _ _=>rfl⟩
theorem yK.cons {T:cG}{p:PI}{l:List PI}{ρ ρ1:Env}{Q:Env→Prop}{n0:Nat}(h:∀n,n0≤n→p.run (T n) ρ=some ρ1)(k:yK T l ρ1 Q):yK T (p::l) ρ Q:=by
 obtain⟨ρ',hQ,n1,h1⟩:=k;exact⟨ρ',hQ,max n0 n1,fun n hn=>by simp[PI.runs,h n (by omega),h1 n (by omega)]⟩
def gR (T:cG):List PI→Env→(Env→Prop)→Prop
 |[],ρ,Q=>Q ρ
 |.setR t e::l,ρ,Q=>gR T l (ρ.setR t (e.ev ρ)) Q
 |.setO t e::l,ρ,Q=>gR T l (ρ.setO t (e.ev ρ)) Q
 |.chk e::l,ρ,Q=>(e.ev ρ).b=true∧gR T l ρ Q
 |.call gs dst f args::l,ρ,Q=>if holds gs ρ=true then ∃d,ao T f (PE.evs ρ args) d∧gR T l (ρ.setR dst d) Q else gR T l ρ Q
 |.callc gs dst e args::l,ρ,Q=>if holds gs ρ=true then ∃f caps d,e.ev ρ=.clo f caps∧ao T f (PE.evs ρ args++caps) d∧gR T l (ρ.setR dst d) Q else gR T l ρ Q
 |.mcall j f args::l,ρ,Q=>∃d,ao T f (PE.evs ρ args) d∧gR T l (ρ.setO j d) Q
theorem um {T:cG}:∀{l:List PI} {ρ:Env} {Q:Env→Prop},gR T l ρ Q→yK T l ρ Q
 |[],ρ,Q,h=>.nil h
 |.setR t e::l,ρ,Q,h=>.cons (n0:=0) (fun _ _=>rfl) (um h)
 |.setO t e::l,ρ,Q,h=>.cons (n0:=0) (fun _ _=>rfl) (um h)
 |.chk e::l,ρ,Q,h=>.cons (n0:=0) (fun n _=>by simp[PI.run,h.1]) (um h.2)
 |.call gs dst f args::l,ρ,Q,h=>by
  unfold gR at h;split at h
  ·rename_i hg;obtain⟨d,⟨n0,hn⟩,h⟩:=h;exact .cons (n0:=n0) (fun n hle=>by simp[PI.run,hg,hn n hle]) (um h)
  ·rename_i hg;exact .cons (n0:=0) (fun n hle=>by simp[PI.run,hg]) (um h)
 |.callc gs dst e args::l,ρ,Q,h=>by
  unfold gR at h;split at h
  ·rename_i hg;obtain⟨f,caps,d,he,⟨n0,hn⟩,h⟩:=h;exact .cons (n0:=n0) (fun n hle=>by simp[PI.run,hg,he,hn n hle]) (um h)
  ·rename_i hg;exact .cons (n0:=0) (fun n hle=>by simp[PI.run,hg]) (um h)
 |.mcall j f args::l,ρ,Q,h=>by
  obtain⟨d,⟨n0,hn⟩,h⟩:=h;exact .cons (n0:=n0) (fun n hle=>by simp[PI.run,hn n hle]) (um h)
def ld (ρ:Env)(lr lo:List Nat)(Q:Out→Prop):Out→Prop
 |.next ρ'=>Q (.next (ρ.join lr lo ρ'))
 |x=>Q x
def mg (ρ:Env)(id:Nat)(lr lo:List Nat)(Q:Out→Prop):Out→Prop
 |.next ρ'=>Q (.next (ρ.join lr lo ρ'))
 |.exit bT ρ'=>if bT=id then Q (.next (ρ.join lr lo ρ')) else Q (.exit bT ρ')
 |.ret d=>Q (.ret d)
def gQ (K:Env→Prop)(Q:Out→Prop):Out→Prop
 |.next ρ'=>K ρ'
 |.exit id ρ'=>Q (.exit id ρ')
 |.ret d=>Q (.ret d)
theorem aN.is {T:cG}{l:List PI}{ρ:Env}{Q:Out→Prop}(h:gR T l ρ fun ρ'=>Q (.next ρ')):aN T (.is l) ρ Q:=by
 obtain⟨ρ',hQ,n0,hn⟩:=um h;exact⟨.next ρ',hQ,n0,fun n hle=>by simp[PC.ev,hn n hle]⟩
theorem aN.skip {T:cG}{ρ:Env}{Q:Out→Prop}(h:Q (.next ρ)):aN T .skip ρ Q:=⟨_,h,0,fun _ _=>rfl⟩
theorem aN.exit {T:cG}{ρ:Env}{id:Nat}{Q:Out→Prop}(h:Q (.exit id ρ)):aN T (.exit id) ρ Q:=⟨_,h,0,fun _ _=>rfl⟩
theorem aN.ret {T:cG}{ρ:Env}{e:PE}{Q:Out→Prop}(h:Q (.ret (e.ev ρ))):aN T (.ret e) ρ Q:=⟨_,h,0,fun _ _=>rfl⟩
theorem aN.seq {T:cG}{a b:PC}{ρ:Env}{Q:Out→Prop}(h:aN T a ρ (gQ (fun ρ'=>aN T b ρ' Q) Q)):aN T (.seq a b) ρ Q:=by
 obtain⟨x,hx,n0,hn⟩:=h;cases x with
 |next ρ'=>
  obtain⟨y,hy,n1,h1⟩:=hx;exact⟨y,hy,max n0 n1,fun n hle=>by simp[PC.ev,hn n (by omega),h1 n (by omega)]⟩
 |exit id ρ'=>exact⟨_,hx,n0,fun n hle=>by simp[PC.ev,hn n hle]⟩
 |ret d=>exact⟨_,hx,n0,fun n hle=>by simp[PC.ev,hn n hle]⟩
theorem aN.ite {T:cG}{c:PE}{lr lo:List Nat}{a b:PC}{ρ:Env}{Q:Out→Prop}(h:if(c.ev ρ).b=true then aN T a ρ (ld ρ lr lo Q) else aN T b ρ (ld ρ lr lo Q)):aN T (.ite c lr lo a b) ρ Q:=by
 split at h
 all_goals
  rename_i hc;obtain⟨x,hx,n0,hn⟩:=h;cases x with
  |next ρ'=>exact⟨_,hx,n0,fun n hle=>by simp[PC.ev,hc,hn n hle]⟩
  |exit id ρ'=>exact⟨_,hx,n0,fun n hle=>by simp[PC.ev,hc,hn n hle]⟩
  |ret d=>exact⟨_,hx,n0,fun n hle=>by simp[PC.ev,hc,hn n hle]⟩
theorem aN.block {T:cG}{id:Nat}{lr lo:List Nat}{a:PC}{ρ:Env}{Q:Out→Prop}(h:aN T a ρ (mg ρ id lr lo Q)):aN T (.block id lr lo a) ρ Q:=by
 obtain⟨x,hx,n0,hn⟩:=h;cases x with
 |next ρ'=>exact⟨_,hx,n0,fun n hle=>by simp[PC.ev,hn n hle]⟩
 |exit bT ρ'=>
  simp only[mg] at hx;split at hx
  ·rename_i e;subst e;exact⟨_,hx,n0,fun n hle=>by simp[PC.ev,hn n hle]⟩
  ·rename_i e;exact⟨_,hx,n0,fun n hle=>by simp[PC.ev,hn n hle,ew e]⟩
 |ret d=>exact⟨_,hx,n0,fun n hle=>by simp[PC.ev,hn n hle]⟩
theorem aN.loop {T:cG}{lr lo:List Nat}{a:PC}{ρ:Env}{Q:Out→Prop}{α:Type}(inv:α→List D→List D→Prop)(vt:α→Nat)(s0:α)(h0:inv s0 (lr.map ρ.r) (lo.map ρ.o))
 (step:∀s vr vo,inv s vr vo→aN T a (ρ.put lr vr lo vo) (gQ (fun ρ'=>∃s',vt s'<vt s∧inv s' (lr.map ρ'.r) (lo.map ρ'.o)) Q)):aN T (.loop lr lo a) ρ Q:=by
 have key:∀(m:Nat) (s:α) (vr vo:List D),vt s≤m→inv s vr vo→∃x,Q x∧∃n0,∀n k,n0≤n→n0≤k→fR (a.ev (T n) n) ρ lr lo k vr vo=some x:=by
  intro m
  induction m with
  |zero=>
   intro s vr vo hm hi;obtain⟨x,hx,n0,hn⟩:=step s vr vo hi;cases x with
   |next ρ'=>obtain⟨s',af,_⟩:=hx;omega
   |exit id ρ'=>
    refine⟨_,hx,n0+1,fun n k hle hk=>?_⟩;obtain⟨k',rfl⟩:∃k',k=k'+1:=⟨k-1,by omega⟩
    simp[fR,hn n (by omega)]
   |ret d=>
    refine⟨_,hx,n0+1,fun n k hle hk=>?_⟩;obtain⟨k',rfl⟩:∃k',k=k'+1:=⟨k-1,by omega⟩
    simp[fR,hn n (by omega)]
  |succ m ih=>
   intro s vr vo hm hi;obtain⟨x,hx,n0,hn⟩:=step s vr vo hi;cases x with
   |next ρ'=>
    obtain⟨s',af,df⟩:=hx;obtain⟨y,hy,n1,h1⟩:=ih s' _ _ (by omega) df;refine⟨y,hy,max n0 n1+1,fun n k hle hk=>?_⟩;obtain⟨k',rfl⟩:∃k',k=k'+1:=⟨k-1,by omega⟩
    simp[fR,hn n (by omega),h1 n k' (by omega) (by omega)]
   |exit id ρ'=>
    refine⟨_,hx,n0+1,fun n k hle hk=>?_⟩;obtain⟨k',rfl⟩:∃k',k=k'+1:=⟨k-1,by omega⟩
    simp[fR,hn n (by omega)]
   |ret d=>
    refine⟨_,hx,n0+1,fun n k hle hk=>?_⟩;obtain⟨k',rfl⟩:∃k',k=k'+1:=⟨k-1,by omega⟩
    simp[fR,hn n (by omega)]
 obtain⟨x,hx,n0,hn⟩:=key (vt s0) s0 _ _ (bl _) h0;exact⟨x,hx,n0,fun n hle=>by simp only[PC.ev];exact hn n n hle hle⟩
def sY (ρ:Env)(lo:List Nat)(rt:Option PE)(K:List D→Prop)(Q:Out→Prop):Out→Prop
 |.next ρ'=>K (lo.map ρ'.o)
 |.exit id ρ'=>if id=cJ then ∃e,rt=some e∧Q (.ret (e.ev (ρ.put [] [] lo (lo.map ρ'.o)))) else Q (.exit id (ρ.put [] [] lo (lo.map ρ'.o)))
 |.ret _=>False
theorem aN.each {T:cG}{e:PE}{ps lo:List Nat}{rt:Option PE}{a:PC}{ρ:Env}{Q:Out→Prop}(xs:List D)(he:(e.ev ρ).l=xs)(inv:Nat→List D→Prop)(h0:inv 0 (lo.map ρ.o))
 (step:∀k x vo,xs[k]?=some x→inv k vo→aN T a (ρ.put ps (partsOf ps x) lo vo) (sY ρ lo rt (inv (k+1)) Q)) (done:∀vo,inv xs.length vo→Q (.next (ρ.put [] [] lo vo))):aN T (.each e ps lo rt a) ρ Q:=by
 have key:∀(r k:Nat) (vo:List D),k+r=xs.length→inv k vo→∃x,Q x∧∃n0,∀n,n0≤n→gu (a.ev (T n) n) ρ ps lo rt (xs.drop k) vo=some x:=by
  intro r
  induction r with
  |zero=>
   intro k vo hk hi;have:xs.drop k=[]:=by rw[Mo];omega
   obtain rfl:k=xs.length:=by omega
   exact⟨_,done vo hi,0,fun n _=>by rw[this];rfl⟩
  |succ r ih=>
   intro k vo hk hi;have af:k<xs.length:=by omega
   rw[Mn af];obtain⟨y,hy,n0,hn⟩:=step k xs[k] vo (bF af) hi;cases y with
   |next ρ'=>
    obtain⟨z,hz,n1,h1⟩:=ih (k+1) _ (by omega) hy;exact⟨z,hz,max n0 n1,fun n hle=>by simp only[gu,hn n (by omega)];exact h1 n (by omega)⟩
   |exit id ρ'=>
    simp only[sY] at hy;split at hy
    ·rename_i cD;obtain⟨e,h1,h2⟩:=hy;exact⟨_,h2,n0,fun n hle=>by subst cD;simp[gu,hn n hle,h1]⟩
    ·rename_i cD;exact⟨_,hy,n0,fun n hle=>by simp[gu,hn n hle,ew cD]⟩
   |ret d=>exact hy.elim
 obtain⟨x,hx,n0,hn⟩:=key xs.length 0 _ (by omega) h0;exact⟨x,hx,n0,fun n hle=>by simp only[PC.ev,he];exact hn n hle⟩
theorem adC {α:Type}:∀(l:List α),∃L:List (List α),∀ys,ys∈L↔ys.Perm l
 |[]=>⟨[[]],fun ys=>by simp⟩
 |x::l=>by
  obtain⟨L,hL⟩:=adC l;refine⟨L.flatMap fun ys=>(List.range (ys.length+1)).map fun i=>ys.take i++x::ys.drop i,fun zs=>?_⟩;simp only[m5,dJ,bY];constructor
  ·rintro⟨ys,hy,i,_,rfl⟩;have h1:=(hL ys).1 hy;refine(List.perm_middle).trans (.cons x ?_);rw[My];exact h1
  ·intro h;have hx:x∈zs:=h.symm.subset (du ..);obtain⟨s,t,rfl⟩:=WN hx;refine⟨s++t,(hL _).2 ?_,s.length,by simp;omega,by simp⟩;exact(List.perm_cons x).1 ((List.perm_middle).symm.trans h)
theorem aN.meach {T:cG}{J:Nat}{ps cK lo:List Nat}{a:PC}{ρ:Env}{Q:Out→Prop}(es:List (D×D))(he:ρ.o J=.tup [.list [],.map es])(inv:List D→List D→Prop)(h0:inv [] (lo.map ρ.o))
 (step:∀done x rest vo,(done++x::rest).Perm (iu (.map es))→inv done vo→aN T a ((ρ.put ps (cK.map x.tget) lo vo).setO J (.tup [.list (done++[x]),.map es])) (fun y=>∃ρ',y=.next ρ'∧inv (done++[x]) (lo.map ρ'.o)))
 (last:∃vo,(∀done,done.Perm (iu (.map es))→∀mY,inv done mY→mY=vo)∧Q (.next (ρ.put [] [] lo vo))):aN T (.meach J ps cK lo a) ρ Q:=by
 obtain⟨vo,hl,hQ⟩:=last;have key:∀(xs done:List D) (vs:List D),(done++xs).Perm (iu (.map es))→inv done vs→∃n0,∀n,n0≤n→lN (a.ev (T n) n) ρ J (.map es) ps cK lo xs done vs=some vo:=by
  intro xs
  induction xs with
  |nil=>intro done vs hp hi;exact⟨0,fun n _=>by rw[hl done (by simpa using hp) vs hi];rfl⟩
  |cons x xs ih=>
   intro done vs hp hi;obtain⟨y,⟨ρ',rfl,df⟩,n0,hn⟩:=step done x xs vs hp hi;obtain⟨n1,h1⟩:=ih (done++[x]) _ (by simpa using hp) df;exact⟨max n0 n1,fun n hle=>by simp only[lN,hn n (by omega)];exact h1 n (by omega)⟩
 have nm:∀(L:List (List D)),(∀ys,ys∈L→ys.Perm (iu (.map es)))→∃n0,∀n,n0≤n→∀ys,ys∈L→lN (a.ev (T n) n) ρ J (.map es) ps cK lo ys [] (lo.map ρ.o)=some vo:=by
  intro L
  induction L with
  |nil=>intro _;exact⟨0,fun n _ ys hy=>by cases hy⟩
  |cons y L ih=>
   intro hL;obtain⟨n0,ga⟩:=ih fun ys hy=>hL ys (di _ hy);obtain⟨n1,h1⟩:=key y [] _ (by simpa using hL y (du ..)) h0;refine⟨max n0 n1,fun n hle ys hy=>?_⟩;rcases cC.1 hy with e|hy
   ·subst e;exact h1 n (by omega)
   ·exact ga n (by omega) ys hy
 obtain⟨L,hL⟩:=adC (iu (.map es));obtain⟨n0,hn⟩:=nm L fun ys hy=>(hL ys).1 hy;refine⟨_,hQ,n0,fun n hle=>?_⟩;simp only[PC.ev,xX];refine⟨vo,⟨by rw[he];rfl,fun ys hy=>?_⟩,rfl⟩;rw[he] at hy ⊢;exact hn n hle ys ((hL ys).2 hy)
theorem bounded {Q:Nat→Nat→Prop}:∀(L:Nat),(∀m,m≤L→∃n0,∀n,n0≤n→Q m n)→∃n0,∀n,n0≤n→∀m,m≤L→Q m n
 |0,h=>by
  obtain⟨n0,hn⟩:=h 0 (bl _)
  exact⟨n0,fun n hle m hm=>by obtain rfl:m=0:=by omega
                              exact hn n hle⟩
 |L+1,h=>by
  obtain⟨n0,hn⟩:=bounded L fun m hm=>h m (by omega);obtain⟨n1,h1⟩:=h (L+1) (bl _);refine⟨max n0 n1,fun n hle m hm=>?_⟩;by_cases e:m=L+1
  ·subst e;exact h1 n (by omega)
  ·exact hn n (by omega) m (by omega)
theorem ao.of_pc {tab:Nat→Option PC}{ext:Nat→Option (aR→List D→Option D)}{f:Nat}{pc:PC}{ds:List D}{d:D}(hx:ext f=none)(ht:tab f=some pc)(h:aN (dV tab ext) pc (kS ds) (fun x=>x=.ret d)):ao (dV tab ext) f ds d:=by
 obtain⟨x,rfl,n0,hn⟩:=h;refine⟨n0+1,fun n hle=>?_⟩;obtain⟨k,rfl⟩:∃k,n=k+1:=⟨n-1,by omega⟩
 simp[dV,hx,ht,hn k (by omega)]
theorem ao.of_ext {tab:Nat→Option PC}{ext:Nat→Option (aR→List D→Option D)}{f:Nat}{g:aR→List D→Option D}{ds:List D}{d:D}(hx:ext f=some g)(h:∃n0,∀n,n0≤n→g (dV tab ext n) ds=some d):ao (dV tab ext) f ds d:=by
 obtain⟨n0,hn⟩:=h;refine⟨n0+1,fun n hle=>?_⟩;obtain⟨k,rfl⟩:∃k,n=k+1:=⟨n-1,by omega⟩
 simp[dV,hx,hn k (by omega)]
def GR (T:cG)(xs:List D)(m:Nat):cG:=fun n=>yldΦ (T n) xs m
theorem ao.yld {T:cG}{xs:List D}{m f:Nat}{ds:List D}{d:D}(h:ao T f ds d)(hf:f≠m0):ao (GR T xs m) f ds d:=by
 obtain⟨n0,hn⟩:=h;exact⟨n0,fun n hle=>by simp[GR,yldΦ,hf,hn n hle]⟩
theorem ao.answer {T:cG}{xs l:List D}{m i:Nat}(hl:l=xs.take (i+1))(hi:i<xs.length)(hm:i≤m):ao (GR T xs m) m0 [.list l] (.v (.bool (decide (i<m)))):=by
 subst hl;refine⟨0,fun n _=>?_⟩;have h1:(xs.take (i+1)).length=i+1:=by rw[dU];omega
 simp only[GR,yldΦ,if_true,h1];rw[if_pos ⟨by omega,by omega,trivial⟩];rfl
theorem ao.of_it {tab:Nat→Option PC}{ext:Nat→Option (aR→List D→Option D)}{f:Nat}{pc:PC}{J k:Nat}{spec:List D→List D}{ds:List D}(hx:ext f=some (A1 pc J k spec))(hk:∀x,x∈spec ds→∃ds',x=.tup ds'∧ds'.length=k)
 (h:∀m,m≤(spec ds).length→aN (GR (dV tab ext) (spec ds) m) pc (Aj J ds) (fun x=>x=.ret (.list ((spec ds).take (m+1))))):ao (dV tab ext) f ds (.list (spec ds)):=by
 refine ao.of_ext hx ?_
 obtain⟨n0,hn⟩:=bounded (Q:=fun m n=>pc.ev (yldΦ (dV tab ext n) (spec ds) m) n (Aj J ds)=some (.ret (.list ((spec ds).take (m+1))))) (spec ds).length (fun m hm=>by
  obtain⟨x,rfl,n0,hn⟩:=h m hm;exact⟨n0,hn⟩)
 refine⟨n0,fun n hle=>?_⟩;unfold A1;rw[if_pos];exact⟨fun m hm=>⟨n,hn n hle m hm⟩,hk⟩
theorem ao.fnOK {C:Ctx}{tab:Nat→Option PC}{ext:Nat→Option (aR→List D→Option D)}(h:TabOK C tab ext){f:Nat}{s:Sig}{ds:List D}{d:D}(hs:C.sig f=some s)(hr:ao (dV tab ext) f ds d)(hm:qq s.mode=false:=by rfl):iz C f s ds d:=by
 obtain⟨n0,hn⟩:=hr;exact((W3 h n0).1 f ds d (hn n0 (bl _)) s hs).1 hm
def Le (Φ Ψ:aR):Prop:=∀f ds d,Φ f ds=some d→Ψ f ds=some d
theorem PI.run_mono {Φ Ψ:aR}(h:Le Φ Ψ){p:PI}{ρ ρ':Env}(hr:p.run Φ ρ=some ρ'):p.run Ψ ρ=some ρ':=by
 cases p with
 |setR t e=>exact hr
 |setO t e=>exact hr
 |chk e=>exact hr
 |call gs d f aa=>
  simp only[PI.run] at hr ⊢;cases hg:holds gs ρ<;>simp only[hg,cond_true,cond_false] at hr ⊢
  ·exact hr
  ·simp only[aC] at hr ⊢;obtain⟨x,hx,e⟩:=hr;exact⟨x,h _ _ _ hx,e⟩
 |callc gs d f aa=>
  simp only[PI.run] at hr ⊢;cases hg:holds gs ρ<;>simp only[hg,cond_true,cond_false] at hr ⊢
  ·exact hr
  ·split at hr
   ·simp only[aC] at hr ⊢;obtain⟨x,hx,e⟩:=hr;exact⟨x,h _ _ _ hx,e⟩
   ·cases hr
 |mcall j f aa=>
  simp only[PI.run,aC] at hr ⊢;obtain⟨x,hx,e⟩:=hr;exact⟨x,h _ _ _ hx,e⟩
theorem PI.runs_mono {Φ Ψ:aR}(h:Le Φ Ψ):∀{l:List PI} {ρ ρ':Env},PI.runs Φ l ρ=some ρ'→PI.runs Ψ l ρ=some ρ'
 |[],ρ,ρ',hr=>hr
 |p::l,ρ,ρ',hr=>by
  simp only[PI.runs,av] at hr ⊢;obtain⟨x,hx,e⟩:=hr;exact⟨x,PI.run_mono h hx,PI.runs_mono h e⟩
theorem aa8 {b c:Env→Option Out}(h:∀ρ x,b ρ=some x→c ρ=some x){ρ:Env}{lr lo:List Nat}:∀{n m:Nat} {vr vo:List D} {x:Out},n≤m→fR b ρ lr lo n vr vo=some x→fR c ρ lr lo m vr vo=some x
 |0,m,vr,vo,x,_,hr=>by simp[fR] at hr
 |n+1,m,vr,vo,x,hle,hr=>by
  obtain⟨m,rfl⟩:∃k,m=k+1:=⟨m-1,by omega⟩
  simp only[fR] at hr ⊢;cases hb:b (ρ.put lr vr lo vo) with
  |none=>rw[hb] at hr;cases hr
  |some y=>
   rw[h _ _ hb];rw[hb] at hr;cases y with
   |next ρ'=>exact aa8 h (by omega) hr
   |exit id ρ'=>exact hr
   |ret d=>exact hr
theorem X4 {b c:Env→Option Out}(h:∀ρ x,b ρ=some x→c ρ=some x){ρ:Env}{ps lo:List Nat}{rt:Option PE}:∀{xs vo:List D} {x:Out},gu b ρ ps lo rt xs vo=some x→gu c ρ ps lo rt xs vo=some x
 |[],vo,x,hr=>hr
 |y::xs,vo,x,hr=>by
  simp only[gu] at hr ⊢;cases hb:b (ρ.put ps (partsOf ps y) lo vo) with
  |none=>rw[hb] at hr;cases hr
  |some z=>
   rw[h _ _ hb];rw[hb] at hr;cases z with
   |next ρ'=>exact X4 h hr
   |exit id ρ'=>exact hr
   |ret d=>cases hr
theorem adB {b c:Env→Option Out}(h:∀ρ x,b ρ=some x→c ρ=some x){ρ:Env}{J:Nat}{es:D}{ps cK lo:List Nat}:∀{xs done vo mY:List D},lN b ρ J es ps cK lo xs done vo=some mY→lN c ρ J es ps cK lo xs done vo=some mY
 |[],_,_,_,hr=>hr
 |x::xs,done,vo,mY,hr=>by
  simp only[lN] at hr ⊢;split at hr
  ·rename_i ρ' hb;rw[h _ _ hb];exact adB h hr
  ·cases hr
theorem PC.ev_mono {Φ Ψ:aR}(h:Le Φ Ψ){n m:Nat}(hle:n≤m):∀{c:PC} {ρ:Env} {x:Out},c.ev Φ n ρ=some x→c.ev Ψ m ρ=some x:=by
 intro c
 induction c with
 |skip=>intro ρ x hr;exact hr
 |is l=>
  intro ρ x hr;simp only[PC.ev,aC] at hr ⊢;obtain⟨y,hy,e⟩:=hr;exact⟨y,PI.runs_mono h hy,e⟩
 |seq a b bo dz=>
  intro ρ x hr;simp only[PC.ev] at hr ⊢;cases ha:a.ev Φ n ρ with
  |none=>rw[ha] at hr;cases hr
  |some y=>rw[bo ha];rw[ha] at hr;cases y<;>first|exact dz hr|exact hr
 |ite c lr lo a b bo dz=>
  intro ρ x hr;simp only[PC.ev] at hr ⊢;cases hc:(c.ev ρ).b<;>simp only[hc,cond_true,cond_false] at hr ⊢
  ·cases ha:b.ev Φ n ρ with
   |none=>rw[ha] at hr;cases hr
   |some y=>rw[dz ha];rw[ha] at hr;exact hr
  ·cases ha:a.ev Φ n ρ with
   |none=>rw[ha] at hr;cases hr
   |some y=>rw[bo ha];rw[ha] at hr;exact hr
 |block id lr lo a bo=>
  intro ρ x hr;simp only[PC.ev] at hr ⊢;cases ha:a.ev Φ n ρ with
  |none=>rw[ha] at hr;cases hr
  |some y=>rw[bo ha];rw[ha] at hr;exact hr
 |loop lr lo a bo=>intro ρ x hr;exact aa8 (fun ρ x=>bo) hle hr
 |exit id=>intro ρ x hr;exact hr
 |ret e=>intro ρ x hr;exact hr
 |each e ps lo rt a bo=>intro ρ x hr;exact X4 (fun ρ x=>bo) hr
 |meach J ps cK lo a bo=>
  intro ρ x hr;simp only[PC.ev,xX] at hr ⊢;obtain⟨vo,⟨h1,h2⟩,rfl⟩:=hr;exact⟨vo,⟨h1,fun ys hy=>adB (fun ρ x=>bo) (h2 ys hy)⟩,rfl⟩
theorem Env.setR_r (ρ:Env)(t u:Nat)(d:D):(ρ.setR t d).r u=if u=t then d else ρ.r u:=by simp only[Env.setR,eZ]
theorem Env.setO_o (ρ:Env)(t u:Nat)(d:D):(ρ.setO t d).o u=if u=t then d else ρ.o u:=by simp only[Env.setO,eZ]
theorem Env.join_r (ρ ρ':Env)(lr lo:List Nat)(u:Nat):(ρ.join lr lo ρ').r u=if u∈lr then ρ'.r u else ρ.r u:=by simp only[Env.join,Env.put,tT]
theorem Env.join_o (ρ ρ':Env)(lr lo:List Nat)(u:Nat):(ρ.join lr lo ρ').o u=if u∈lo then ρ'.o u else ρ.o u:=by simp only[Env.join,Env.put,tT]
theorem KQ (f:Nat→D)(i:Nat)(is:List Nat)(x:D)(xs:List D)(u:Nat):putL f (i::is) (x::xs) u=if u=i then x else putL f is xs u:=by simp only[putL,eZ]
theorem KR (f:Nat→D)(xs:List D)(u:Nat):putL f [] xs u=f u:=by cases xs<;>rfl
theorem am0 (g:Nat×Bool)(gs:List (Nat×Bool))(ρ:Env):holds (g::gs) ρ=((ρ.r g.1).b==g.2&&holds gs ρ):=rfl
theorem D.cells_none:D.none.cells=[.none]:=rfl
theorem D.tget_tup (x:List D)(i:Nat):(D.tup x).tget i=x.getD i .none:=rfl
theorem D.c_agg (x:List D)(i:Nat):(D.agg x).c i=x.getD i .none:=rfl
end Cx
