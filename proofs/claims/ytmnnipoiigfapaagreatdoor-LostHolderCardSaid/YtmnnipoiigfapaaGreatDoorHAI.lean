/-
  Shared texts of this claim.
-/
import Derived.Test.YtmnnipoiigfapaaGreatDoorHAH
import Derived.Below
import Derived.ChangeSame
import Derived.WalkKit
import Derived.ProofKit
import Derived.OpenShut
import Derived.Carry
import Derived.JoinedCond
set_option linter.unusedSimpArgs false
set_option linter.unusedVariables false
noncomputable section
namespace Cx
open Go Go.RowKit
def Wz (m:Nat)(s:Sig):Snap:=⟨s.args.map .dat++List.replicate (m-s.args.length) .none,[]⟩
def kL (ds:List D):Env:=⟨fun t=>ds.getD t .none,fun _=>.none⟩
def tY (C:Ctx)(fn:Func)(s:Sig)(ids:List Nat)(S0:Snap):Option PC:=
 match fn.body with
 |some c=>
  (comp C fn s fn.ntmps ids (KJ C fn.ntmps ids) false c S0).bind fun r=>
    match r.out with
    |none=>some r.pc
    |some S=>(xV C fn s (S.st ids)).map fun e=>.seq r.pc (.ret e)
 |none=>none
def M1 (m:Nat)(shs:List Sh)(obs:List (Nat×Ob))(ids:List Nat):Snap:=⟨shs++List.replicate (m-shs.length) .none,ids.map (ec obs)⟩
def HM (shs:List Sh)(obs:List (Nat×Ob))(ds:List D):Env:=mq obs ds (ds.drop shs.length)
def D1 (l:List Nat):Nat→List Sh→Bool
 |_,[]=>true
 |t,s::ss=>(nl s|| !fo l t)&&D1 l (t+1) ss
def Bp:List (Nat×Ob)→Nat→List PI
 |[],_=>[]
 |x::l,k=>Bp l (k+1)++[.setO x.1 (.r k)]
theorem ado {Φ:aQ}:∀(l:List (Nat×Ob)) (k:Nat) (ρ:Env) (ds:List D),(∀i,ρ.r (k+i)=ds.getD i .none)→(∀j,ρ.o j=.none)→PI.runs Φ (Bp l k) ρ=some ⟨ρ.r,fun j=>nq l ds j⟩
 |[],k,ρ,ds,h,ho=>by
  simp only[Bp,PI.runs]
  congr 1
  cases ρ with|mk r o=>congr 1;funext j;exact ho j
 |x::l,k,ρ,ds,h,ho=>by
  simp only[Bp,oM]
  rw[ado l (k+1) ρ ds.tail (fun i=>by
   have:=h (i+1);rw[vU,BP 1 i,this];cases ds<;>simp) ho]
  simp only[j9,PI.runs,PI.run,PE.ev,Env.setO]
  congr 1
  congr 1
  funext j;rw[eV];have h0:=h 0;simp only[iw] at h0;cases ds with
  |nil=>
   have e:∀m j,nq m [] j=D.none:=fun m j=>by cases m<;>rfl
   rw[h0];split<;>simp[e]
  |cons d ds=>
   simp only[nq,List.tail_cons];by_cases hj:j=x.1
   ·subst hj;rw[if_pos rfl,gE,h0];rfl
   ·rw[if_neg hj,ej (fun e=>hj e.symm)];rfl
theorem aq1 {Φ:aQ}(shs:List Sh)(obs:List (Nat×Ob))(ds:List D):PI.runs Φ (Bp obs shs.length) (kL ds)=some (HM shs obs ds):=by
 rw[ado obs shs.length (kL ds) (ds.drop shs.length) (fun i=>by simp[kL,aJ]) (fun j=>rfl)];rfl
def Gi (fn:Func):List Nat:=match fn.body with|some c=>cv c|none=>[]
def uX:List (Nat×Ob)→Bool
 |[]=>true
 |x::l=>(match x.2 with|.tr=>false|_=>true)&&uX l
def lZ (C:Ctx)(fn:Func)(s:Sig)(ids:List Nat):Option PC:=
 match C.yl with
 |none=>
  match s.mode with
  |.ob shs obs=>bif Nat.ble shs.length fn.ntmps&&D1 (Gi fn) 0 shs&&shs.all th&&uX obs then(tY C fn s ids (M1 fn.ntmps shs obs ids)).map fun pc=>.seq (.is (Bp obs shs.length)) pc else none
  |_=>bif Nat.ble s.args.length fn.ntmps then tY C fn s ids (Wz fn.ntmps s) else none
 |some _=>none
theorem Zk:∀(ids:List Nat) (j:Nat),dw ids [] j=.dead
 |[],_=>rfl
 |_::_,_=>rfl
theorem MJ {C:Ctx}{Φ:aQ}(be:dx C)(hΦ:di C Φ)(fE:gk C Φ){fn:Func}{s:Sig}{ids:List Nat}{S0:Snap}{pc:PC}{c:Code}(hb:fn.body=some c)(hc:tY C fn s ids S0=some pc){w0:World}{σ0:Base}(ls:σ0.fin)(hC:CtxOK C σ0)(hY:pf C Φ w0 σ0)
 {N:Nat} {ρ:Env} {d:D} {a:Act} {w:World} (hn:a.tmps.size=fn.ntmps) (hg:Good C w0 σ0 (S0.st ids) ρ (fun _=>False) a w) (he:pc.ev Φ N ρ=some (.ret d)):
 c.wpIn (FR none) 0 C.P (fun e a' w'=>(e=.normal∨e=.ret)∧qy C w0 σ0 fn s d a'.tmps a'.defers w'∧SameBut (fun t=>t∈cv c) a a') a w:=by
 unfold tY at hc;rw[hb] at hc;simp only[av] at hc;obtain⟨r,hr,hc⟩:=hc;have OE:=fun x hx=>afM (fn:=fn) (s:=s) (N:=N) fE (aqB (n:=fn.ntmps) (ids:=ids) be hΦ) c false S0 r hr none w0 σ0 (fun t=>t∈cv c) ρ x a w (fun _=>⟨rfl,ls⟩) hC hY (fun _ h=>h) hn hg hx;split at hc
 ·rename_i kl;cases hc;refine wpIn_mono (OE (.ret d) he) fun e a' w' ho=>?_;cases e with
  |normal=>obtain⟨_,_,h,_⟩:=ho;cases h
  |exit id=>obtain⟨_,_,h,_⟩:=ho;cases h
  |ret=>obtain⟨d',h,h2⟩:=ho;cases h;exact⟨.inr rfl,h2⟩
  |_=>exact ho.elim
 ·rename_i S kl;simp only[aA] at hc;obtain⟨pe,nf,rfl⟩:=hc;simp only[PC.ev] at he;split at he
  ·rename_i ρ1 h1;cases he;refine wpIn_mono (OE (.next ρ1) h1) fun e a' w' ho=>?_;cases e with
   |normal=>
    obtain⟨ρ2,S2,e1,e2,pQ,gL⟩:=ho;cases e1;rw[kl] at e2;cases e2;obtain⟨σ2,own,hv,hi⟩:=gL;exact⟨.inl rfl,Inv.retD hC (fun _=>rfl) ls nf _ hi rfl,pQ⟩
   |exit id=>obtain⟨_,_,h,_⟩:=ho;cases h
   |ret=>obtain⟨d',h,h2⟩:=ho;cases h
   |_=>exact ho.elim
  ·rename_i ay;refine wpIn_mono (OE (.ret d) he) fun e a' w' ho=>?_;cases e with
   |normal=>obtain⟨_,_,h,_⟩:=ho;cases h
   |exit id=>obtain⟨_,_,h,_⟩:=ho;cases h
   |ret=>obtain⟨d',h,h2⟩:=ho;cases h;exact⟨.inr rfl,h2⟩
   |_=>exact ho.elim
theorem qy.leaves {C:Ctx}{w0:World}{σ0:Base}{fn:Func}{s:Sig}{d:D}{tmps:Array Value}{R:Ending→World→Prop}(hR:∀w',LD C w0 σ0 fn s d {tmps:=tmps,defers:=[]} w'→∃v,(results fn tmps).run C.P w'=.ok v w'∧R (.returned v) w'):
 ∀(ds:List Deferred) (w:World),qy C w0 σ0 fn s d tmps ds w→LeavesInM (FR none) 0 C.P fn tmps R ds .returning w
 |[],w,h=>hR w h
 |x::ds,w,⟨D,h1,h2,h3⟩=>⟨by simp,.inl ⟨D,_,h1,run_takeDeferred h2,qy.leaves hR ds _ h3⟩⟩
theorem ag1 {C:Ctx}{σ:Im}{w:World}{args:Array Value}{ds:List D}{s:Sig}{m:Nat}{ids:List Nat}(aB:σ.ok w)(ha:oU C σ s.args args.toList ds):
 Good C w (Base.mk0 σ w.heap.size) ((Wz m s).st ids) (kL ds) (fun _=>False) {tmps:=args++Array.replicate (m-args.size) undef,defers:=[]} w:=by
 obtain⟨h1,h2,h3⟩:=ha;have aK:args.size=s.args.length:=by simpa using h1
 refine⟨σ,fun _=>none,fun _=>undef,trivial,aB,.refl σ,fun _ k e=>(aB.m k _ e).lt,fun _ _ _ h=>.inl h,fun _ _ h=>.inl h,.refl _ _,bk _,(fun k j h=>by cases h),fun t=>?_,fun j=>?_,fun t gs s' e=>absurd e (Snap.noOpt _ _ t gs s'),
  .none,fun _=>False,fun _=>False,⟨⟨fun _=>id,fun _=>id⟩,(fun k j h=>by cases h),fun _ _ _ _=>id,fun _ _ _=>id,fun _ _ _=>id⟩,fun j hj=>?_⟩
 ·show aH C _ _ σ _ (cA ((s.args.map Sh.dat++List.replicate (m-s.args.length) Sh.none).getD t .none)) _ _;rw[aJ];by_cases ht:t<s.args.length
  ·rw[jF (by simpa using ht),cC,bA ht];simp only[ka,iz,cA];have:=h3 t _ (bA ht);have e1:(args++Array.replicate (m-args.size) undef).getD t undef=args.toList.getD t undef:=by
        simp only[dU,aJ];rw[U7 (by omega)];simp
   show aH C _ _ σ _ (.dat _) ((args++Array.replicate (m-args.size) undef).getD t undef) (ds.getD t .none);rw[e1];exact this
  ·rw[kI (by simpa using ht),Vq];split<;>trivial
 ·show cn C _ _ σ _ _ w _ j (dw ids [] j);rw[Zk];trivial
 ·change dw ids [] j=.tr at hj;rw[Zk] at hj;cases hj
theorem MK {C:Ctx}{Φ:aQ}(be:dx C)(hΦ:di C Φ)(fE:gk C Φ){f:Nat}{fn:Func}{s:Sig}{ids:List Nat}{pc:PC}(hf:C.P.funcs[f]?=some fn)(hc:lZ C fn s ids=some pc){N:Nat}{ds:List D}{d:D}(cS:pW s.mode=false)
 (he:pc.ev Φ N (kL ds)=some (.ret d)):iv C f s ds d:=by
 intro σ w args aB hC ha;unfold lZ at hc;split at hc
 case h_2=>cases hc
 rename_i kq;split at hc
 case h_1=>rename_i e;rw[e] at cS;cases cS
 cases hle:Nat.ble s.args.length fn.ntmps<;>simp only[hle,cond_true,cond_false] at hc
 ·cases hc
 have Dq:=jI hle;have aK:args.size=s.args.length:=by simpa using ha.1
 cases hb:fn.body with
 |none=>unfold tY at hc;rw[hb] at hc;cases hc
 |some c=>
 refine(callsIn_wide (n:=0)).1 (callsIn_of_wp_marks (F:=FR none) hf hb trivial ?_);have hg:=ag1 (C:=C) (m:=fn.ntmps) (ids:=ids) aB ha;have hn:(args++Array.replicate (fn.ntmps-args.size) undef).size=fn.ntmps:=by simp;omega
 refine wpIn_mono (MJ be hΦ fE hb hc (σ0:=Base.mk0 σ w.heap.size) trivial hC (fun J ys e=>by rw[kq] at e;cases e) hn hg he) fun e a' w' ho=>?_
 have main:=qy.leaves (R:=fun e w'=>∃v σ',e=.returned v∧σ.le σ'∧σ'.ok w'∧Below w.heap.size w w'∧
  (∀k o x,σ'.c k o=some x→σ.c k o=some x∨w.heap.size≤k)∧(∀k x,σ'.m k=some x→σ.m k=some x∨w.heap.size≤k)∧lW C s σ' w w' v d) (fun w2 DJ=>by
  obtain⟨v,σ',_,h2,h3,h4,h5,h6,h7,h8⟩:=DJ;exact⟨v,h2,v,σ',rfl,h3,h4,h5,h6,h7,h8⟩) _ _ ho.2.1
 rcases ho.1 with rfl|rfl<;>exact main
def Base.mkO (σ:Im)(own:Nat→Option Nat)(w:World)(cx:Nat→Prop):Base:=
 {σ with
  B:=0
  fin:=True
  F:=fun _ fx kf w'=>(∀k,fx k↔(k<w.heap.size∧own k=none))∧(∀k,kf k↔(fx k∧cx k))∧w.heap.size≤w'.heap.size∧∀k,fx k→w'.heap[k]?=w.heap[k]?
  lt:=fun t' fx cx w' h k hk=>vV ((h.1 k).1 hk).1 h.2.2.1
  sub:=fun t' fx cx w' h k hk=>((h.2.1 k).1 hk).1
  keep:=fun t' fx cx w' kF h hb hs=>⟨h.1,h.2.1,iy h.2.2.1 hb.size,fun k hk=>(hs k hk).trans (h.2.2.2 k hk)⟩}
theorem YM {l:List Nat}:∀{shs:List Sh} {k:Nat},D1 l k shs=true→∀(t:Nat) (s:Sh),shs[t]?=some s→nl s=false→(k+t)∉l
 |[],k,_,t,s,h,_=>by simp at h
 |x::shs,k,hk,t,s,h,hd=>by
  simp only[D1,ao,gC,gS] at hk;cases t with
  |zero=>
   simp at h;subst h;rcases hk.1 with h1|h1
   ·rw[hd] at h1;cases h1
   ·intro hm;rw[iw] at hm;rw[(pX _ _).2 hm] at h1;cases h1
  |succ t=>
   simp at h;have:=YM hk.2 t s h hd
   rwa [vU,BP 1 t] at this
theorem Pm (obs:List (Nat×Ob))(j:Nat):∀ids:List Nat,dw ids (ids.map (ec obs)) j=.dead∨dw ids (ids.map (ec obs)) j=ec obs j
 |[]=>.inl rfl
 |i::is=>by
  simp only[gU,dw];cases hb:Nat.beq i j
  ·exact Pm obs j is
  ·right;rw[az hb];rfl
theorem ZX:∀{l:List (Nat×Ob)},uX l=true→∀x,x∈l→x.2≠.tr
 |[],_,x,hx=>by cases hx
 |y::l,h,x,hx=>by
  simp only[uX,ao] at h;rcases cD.1 hx with rfl|hx
  ·intro e;rw[e] at h;cases h.1
  ·exact ZX h.2 x hx
theorem ZY:∀{l:List (Nat×Ob)},uX l=true→∀j,ec l j≠.tr
 |[],_,j,e=>by cases e
 |x::l,h,j,e=>by
  simp only[uX,ao] at h;simp only[ec] at e;cases hb:Nat.beq x.1 j<;>simp only[hb,cond_true,cond_false] at e
  ·exact ZY h.2 j e
  ·have h1:=h.1;rw[e] at h1;cases h1
theorem ag0 {C:Ctx}{σ:Im}{own:Nat→Option Nat}{hv:Nat→Value}{w w0:World}{args:Array Value}{cx:Nat→Prop}{shs:List Sh}{obs:List (Nat×Ob)}{ds:List D}{m:Nat}{ids:List Nat}(hN:w0.heap.size≤w.heap.size)(C6:Below 0 w0 w)(aB:σ.ok w)(bp:∀k,σ.m k≠some cZ)(aK:args.size=shs.length)
 (cm:∀k j,own k=some j→w0.heap.size≤k∧k<w.heap.size∧(∀o,σ.c k o=none)∧σ.m k=none) (kN:∀k,cx k→k<w.heap.size∧own k=none∧(∀o,σ.c k o=none)∧σ.m k=none) (sS:uX obs=true) (fi:shs.all th=true)
 (h1:∀t,aH C (fN shs obs) (HM shs obs ds) σ hv (shs.getD t .none) (args.getD t undef) (ds.getD t .none)) (h2:∀j,cn C (fN shs obs) (HM shs obs ds) σ own hv w w0.heap.size j (ec obs j)):
 Good C w0 (Base.mkO σ own w cx) ((M1 m shs obs ids).st ids) (HM shs obs ds) (fun _=>False) {tmps:=args++Array.replicate (m-args.size) undef,defers:=[]} w:=by
 have qP:Compat (fN shs obs) hv ((M1 m shs obs ids).st ids) hv:=⟨fun _=>bk _,fun _ _=>rfl⟩
 refine⟨σ,own,hv,trivial,aB,.refl σ,fun _ k e=>absurd e (bp k),fun _ _ _ h=>.inl h,fun _ _ h=>.inl h,C6,nK _,cm,fun t=>?_,fun j=>?_,fun t gs s' e=>absurd e (Snap.noOpt _ _ t gs s'),
  .none,(fun k=>k<w.heap.size∧own k=none),cx,⟨⟨fun _=>Iff.rfl,fun k=>⟨fun h=>⟨⟨(kN k h).1,(kN k h).2.1⟩,h⟩,fun h=>h.2⟩,bk _,fun _ _=>rfl⟩,(fun k j h hf=>by rw[hf.2] at h;cases h),(fun k o x e hc=>by rw[(kN k hc).2.2.1 o] at e;cases e),(fun k x e hc=>by rw[(kN k hc).2.2.2] at e;cases e),fun k e=>absurd e (bp k)⟩,fun j hj=>?_⟩
 ·show aH C _ _ σ _ (cA ((shs++List.replicate (m-shs.length) Sh.none).getD t .none)) _ _;refine Ld ?_;rw[aJ];by_cases ht:t<shs.length
  ·rw[jF ht];have:=h1 t;rw[aJ (l:=shs)] at this;have e1:(args++Array.replicate (m-args.size) undef).getD t undef=args.getD t undef:=by
        simp only[dU];rw[U7 (by omega)]
   show aH C _ _ σ _ _ ((args++Array.replicate (m-args.size) undef).getD t undef) (ds.getD t .none);rw[e1];refine aH.mono' (.refl σ) qP (fun gs s' e=>?_) this;have hp:=bJ.1 fi _ (de ht);rw[bA ht] at e;simp only[iz] at e;rw[e] at hp;cases hp
  ·rw[kI (by omega),Vq];split<;>trivial
 ·show cn C _ _ σ _ _ w _ j (dw ids (ids.map (ec obs)) j);rcases Pm obs j ids with e|e
  ·rw[e];trivial
  ·rw[e];exact(h2 j).mono (.refl σ) qP rfl rfl (fun k hk=>⟨hk,rfl⟩)
 ·change dw ids (ids.map (ec obs)) j=.tr at hj;rcases Pm obs j ids with e|e
  ·rw[e] at hj;cases hj
  ·rw[e] at hj;exact absurd hj (ZY sS j)
def HJ (w:World)(N:Nat):World:={w with heap:=w.heap.extract 0 N}
theorem afG {C:Ctx}{Φ:aQ}(be:dx C)(hΦ:di C Φ)(fE:gk C Φ){f:Nat}{fn:Func}{s:Sig}{ids:List Nat}{pc:PC}(hf:C.P.funcs[f]?=some fn)(hc:lZ C fn s ids=some pc){N:Nat}{ds:List D}{d:D}{shs:List Sh}{obs:List (Nat×Ob)}(cS:s.mode=.ob shs obs)
 (he:pc.ev Φ N (kL ds)=some (.ret d)):gD C f shs obs s.res ds d:=by
 unfold lZ at hc;split at hc
 case h_2=>cases hc
 rename_i kq;rw[cS] at hc;simp only at hc;cases hle:(Nat.ble shs.length fn.ntmps&&D1 (Gi fn) 0 shs&&shs.all th&&uX obs)<;>simp only[hle,cond_true,cond_false] at hc
 ·cases hc
 simp only[ao] at hle;obtain⟨⟨⟨l1,l2⟩,l3⟩,l4⟩:=hle;refine gD.of (ZX l4) ?_;intro B σ own hv w args cx _ aB hC bp hB aK cm kN h1 h2;simp only[aA] at hc;obtain⟨pc,hc,rfl⟩:=hc;simp only[PC.ev,aq1,ka] at he;have Dq:=jI l1;cases hb:fn.body with
 |none=>unfold tY at hc;rw[hb] at hc;cases hc
 |some c=>
 have bx:Gi fn=cv c:=by unfold Gi;rw[hb]
 rw[bx] at l2;refine(callsIn_wide (n:=0)).1 (callsIn_of_wp_marks (F:=FR none) hf hb trivial ?_);have q7:(HJ w B).heap.size=B:=by simp[HJ];omega
 have C6:Below 0 (HJ w B) w:=⟨rfl,rfl,rfl,by rw[q7];exact hB,fun k hk=>by omega⟩
 have hg:=ag0 (C:=C) (m:=fn.ntmps) (ids:=ids) (w0:=HJ w B) (cx:=cx) (by rw[q7];exact hB) C6 aB bp aK (by rw[q7];exact cm) kN l4 l3 h1 (by rw[q7];exact h2);have hn:(args++Array.replicate (fn.ntmps-args.size) undef).size=fn.ntmps:=by simp;omega
 refine wpIn_mono (MJ be hΦ fE hb hc (σ0:=Base.mkO σ own w cx) trivial hC (fun J ys e=>by rw[kq] at e;cases e) hn hg he) fun e a' w' ho=>?_;obtain⟨gJ,DJ,jq⟩:=ho
 have main:=qy.leaves (R:=fun e w'=>∃v σ' own' hv' dr os,e=.returned v∧d=.tup (dr::os)∧os.length=obs.length∧σ.le σ'∧σ'.ok w'∧Below 0 w w'∧
  (∀k,k<w.heap.size→own k=none→w'.heap[k]?=w.heap[k]?)∧
  (∀k o x,σ'.c k o=some x→(σ.c k o=some x∨B≤k)∧¬cx k)∧(∀k x,σ'.m k=some x→(σ.m k=some x∨B≤k)∧¬cx k)∧(∀k,σ'.m k=some cZ→B≤k→k<w.heap.size→own k≠none)∧
  (∀k j,own' k=some j→B≤k∧k<w'.heap.size∧(∀o,σ'.c k o=none)∧σ'.m k=none∧(k<w.heap.size→own k≠none))∧
  (∀(t:Nat) (sh:Sh),shs[t]?=some sh→nl sh=false→aH C (fN shs obs) (mq obs ds os) σ' hv' sh (args.getD t undef) (ds.getD t .none))∧
  (∀j,cn C (fN shs obs) (mq obs ds os) σ' own' hv' w' B j (ec obs j))∧Rep C.cap σ' s.res v dr) (fun w2 hr=>by
  obtain⟨v,σ',⟨own',t,fx,kf,dg,_,IQ⟩,ak,jQ,Og,C4,da,cR,_⟩:=hr;obtain⟨hv',dr,os,e1,e2,e3,e4,e5,e6⟩:=IQ shs obs cS;obtain⟨f1,f2,f3,f4⟩:=dg.F;have Xt:∀k,cx k→kf k:=fun k hk=>(f2 k).2 ⟨(f1 k).2 ⟨(kN k hk).1,(kN k hk).2.1⟩,hk⟩;rw[q7] at da cR e3 e5
  refine⟨v,ak,v,σ',own',hv',dr,os,rfl,e1,e2,jQ,Og,⟨C4.os,C4.tape,C4.output,f3,fun k hk=>by omega⟩,fun k hk hn=>f4 k ((f1 k).2 ⟨hk,hn⟩),fun k o x e=>⟨da k o x e,fun hk=>dg.c k o x e (Xt k hk)⟩,fun k x e=>⟨cR k x e,fun hk=>dg.m k x e (Xt k hk)⟩,
   fun k e Nj hk hn=>dg.d k e (by rw[q7];exact Nj) ((f1 k).2 ⟨hk,hn⟩),fun k j hk=>?_,fun t sh hs hd=>?_,fun j=>?_,e6⟩
  ·obtain⟨g1,g2,g3,g4⟩:=e3 k j hk;exact⟨g1,g2,g3,g4,fun ah hn=>dg.own k j hk ((f1 k).2 ⟨ah,hn⟩)⟩
  ·have:=e4 t sh hs hd (ds.getD t .none);have ah:t<shs.length:=(eC.1 hs).1;have m8:t∉cv c:=by have:=YM l2 t sh hs hd;simpa using this
   have cu:a'.tmps.getD t undef=args.getD t undef:=by
        rw[jq.get t m8];simp only[dU];rw[U7 (by omega)]
   simp only at this;rw[cu] at this;have hp:=bJ.1 l3 _ (lV hs);exact aH.mono' (.refl σ') ⟨fun _=>bk _,fun _ _=>rfl⟩ (fun gs s' e=>by rw[e] at hp;cases hp) this
  ·exact cn.mono (S:=fN shs obs) (S':=fN shs obs) (ρ:=mq obs [] os) (ρ':=mq obs ds os) (hv:=hv') (hv':=hv') (own:=own') (own':=own') (w:=w2) (w':=w2) (.refl σ') ⟨fun _=>bk _,fun _ _=>rfl⟩ rfl rfl (fun k hk=>⟨hk,rfl⟩) (e5 j)) _ _ DJ
 rcases gJ with rfl|rfl<;>exact main
def Wy (m:Nat)(cts:List Ty)(J:Nat)(ids:List Nat):Snap:=⟨.yv::(cts.map .dat++List.replicate (m-(cts.length+1)) .none),ids.map fun j=>bif Nat.beq j J then .tr else .dead⟩
def zC (J:Nat)(ds:List D):Env:=⟨fun t=>(D.none::ds).getD t .none,fun j=>bif Nat.beq j J then .list [] else .none⟩
def Ci (C:Ctx)(fn:Func)(cts ys:List Ty)(J:Nat)(ids:List Nat):Option PC:=
 match C.yl,C.sig mO,C.cap mO with
 |none,none,none=>bif Nat.ble (cts.length+1) fn.ntmps then tY {C with yl:=some (J,ys)} fn ⟨[],.tup [],.it J⟩ ids (Wy fn.ntmps cts J ids) else none
 |_,_,_=>none
open Classical in
def yldΦ (Φ:aQ)(xs:List D)(m:Nat):aQ:=fun f ds=>
 if f=mO then(match ds with|[.list l]=>if 0<l.length∧l.length≤m+1∧l=xs.take l.length then some (.v (.bool (decide (l.length≤m)))) else none|_=>none)
 else Φ f ds
theorem yldΦ_at {Φ:aQ}{xs l ds:List D}{d:D}{m:Nat}(h:yldΦ Φ xs m mO [.list (l++[.tup ds])]=some d):l.length≤m∧l=xs.take l.length∧xs[l.length]?=some (.tup ds)∧l++[.tup ds]=xs.take (l.length+1)∧d=.v (.bool (decide (l.length<m))):=by
 simp only[yldΦ,if_true] at h;split at h
 ·rename_i hc;obtain⟨h1,h2,h3⟩:=hc;simp only[jG,nI,yj,gF] at h2 h3 h;have hx:xs[l.length]?=some (.tup ds):=by
   have:(xs.take (l.length+1))[l.length]?=some (.tup ds):=by rw[←h3];simp
   rw[eW] at this;simpa using this
  have hl:l=xs.take l.length:=by
   have:=congrArg (List.take l.length) h3;simpa [Vv] using this
  refine⟨by omega,hl,hx,h3,?_⟩;cases h
  congr 2
 ·cases h
theorem di.yl {C:Ctx}{Φ:aQ}(h:di C Φ){y:Option (Nat×List Ty)}{v:Value}{xs:List D}{m:Nat}(hs:C.sig mO=none):di {C with yl:=y,yv:=v} (yldΦ Φ xs m):=by
 intro f ds d e s eI;have ay:f≠mO:=fun e'=>by subst e';change C.sig mO=some s at eI;rw[hs] at eI;cases eI
 simp only[yldΦ,if_neg ay] at e;obtain⟨h1,h2⟩:=h f ds d e s eI;exact⟨fun hm σ w args aB hC ha=>h1 hm σ w args aB ⟨hC.glob⟩ ha,fun shs obs hm=>(h2 shs obs hm).ctx rfl rfl rfl⟩
theorem lT.yl {C:Ctx}{y:Option (Nat×List Ty)}{v:Value}{f:Nat}{cts ys:List Ty}{ds xs:List D}(h:lT C f cts ys ds xs):lT {C with yl:=y,yv:=v} f cts ys ds xs:=
 fun σ w yv vs F fx cx m aB hC=>h σ w yv vs F fx cx m aB ⟨hC.glob⟩
theorem gk.yl {C:Ctx}{Φ:aQ}(h:gk C Φ){y:Option (Nat×List Ty)}{v:Value}{xs:List D}{m:Nat}(hs:C.cap mO=none):gk {C with yl:=y,yv:=v} (yldΦ Φ xs m):=by
 intro f cs ys hc hi;have ay:f≠mO:=fun e'=>by subst e';change C.cap mO=some cs at hc;rw[hs] at hc;cases hc
 obtain⟨h1,h2⟩:=h f cs ys hc hi;refine⟨h1,fun ds d e=>?_⟩;simp only[yldΦ,if_neg ay] at e;obtain⟨xs,e1,e2,e3⟩:=h2 ds d e;exact⟨xs,e1,e2,e3.yl⟩
def Vh (Φ:aQ)(pc:PC)(J:Nat)(ds xs:List D):Prop:=∀m,m≤xs.length→∃N,pc.ev (yldΦ Φ xs m) N (zC J ds)=some (.ret (.list (xs.take (m+1))))
theorem agZ {C:Ctx}{σ:Im}{σ0:Base}{w:World}{yv:Value}{vs:List Value}{ds:List D}{cts ys:List Ty}{J m:Nat}{ids:List Nat}(aB:σ.ok w)(ha:oU C σ cts vs ds)(hm:cts.length+1≤m)(kq:C.yl=some (J,ys))(DU:C.yv=yv)
 (h0:σ0.toIm=σ) (hB:σ0.B=0) {fx cx:Nat→Prop} (hF:σ0.F (.list []) fx cx w) (iM:∀k o x,σ.c k o=some x→¬cx k) (nX:∀k x,σ.m k=some x→¬cx k):
 Good C w σ0 ((Wy m cts J ids).st ids) (zC J ds) (fun _=>False) {tmps:=#[yv]++vs.toArray++Array.replicate (m-(vs.length+1)) undef,defers:=[]} w:=by
 obtain⟨h1,h2,h3⟩:=ha
 refine⟨σ,fun _=>none,fun _=>undef,trivial,aB,by rw[h0];exact .refl σ,fun _ k e=>by rw[h0] at e;exact(aB.m k _ e).lt,fun _ _ _ h=>by rw[h0];exact .inl h,fun _ _ h=>by rw[h0];exact .inl h,.refl _ _,by omega,(fun k j h=>by cases h),fun t=>?_,fun j=>?_,fun t gs s' e=>absurd e (Snap.noOpt _ _ t gs s'),
  .list [],fx,cx,⟨hF,(fun k j h=>by cases h),iM,nX,fun k e hk=>by have:=(aB.m k _ e).lt;omega⟩,fun j hj=>?_⟩
 ·show aH C _ _ σ _ (cA ((Sh.yv::(cts.map Sh.dat++List.replicate (m-(cts.length+1)) Sh.none)).getD t .none)) ((#[yv]++vs.toArray++Array.replicate (m-(vs.length+1)) undef).getD t undef) ((D.none::ds).getD t .none);have ea:((#[yv]++vs.toArray++Array.replicate (m-(vs.length+1)) undef).getD t undef)=(yv::(vs++List.replicate (m-(vs.length+1)) undef)).getD t undef:=by
   rw[dU,←BE,aJ];simp
  rw[ea];cases t with
  |zero=>simp only[tN,cA];exact DU.symm
  |succ t=>
   simp only[BL];rw[aJ];by_cases ht:t<cts.length
   ·rw[jF (by simpa using ht),cC,bA ht];simp only[ka,iz,cA];have:=h3 t _ (bA ht);have e1:(vs++List.replicate (m-(vs.length+1)) undef).getD t undef=vs.getD t undef:=by
     simp only[aJ];rw[jF (by omega)]
    show aH C _ _ σ _ (.dat _) _ (ds.getD t .none);rw[e1];exact this
   ·rw[kI (by simpa using ht),Vq];split<;>trivial
 ·show cn C _ _ σ _ _ w _ j (dw ids (ids.map fun j=>bif Nat.beq j J then .tr else .dead) j);refine xn _ (fun ob=>cn C _ _ σ _ _ w _ j ob) trivial j ?_ ids;cases Nat.beq j J<;>trivial
 ·change dw ids (ids.map fun j=>bif Nat.beq j J then .tr else .dead) j=.tr at hj
  have hb:=xn (fun j=>bif Nat.beq j J then Ob.tr else .dead) (fun ob=>ob=.tr→Nat.beq j J=true) (fun e=>by cases e) j (fun e=>by
   cases hb:Nat.beq j J
   ·rw[hb] at e;cases e
   ·rfl) ids hj
  have:=az hb;subst this;refine⟨⟨ys,kq⟩,?_⟩;show(bif Nat.beq j j then D.list [] else .none)=_;rw[gE];rfl
theorem afH {C:Ctx}{Φ:aQ}(be:dx C)(hΦ:di C Φ)(fE:gk C Φ){f:Nat}{fn:Func}{cts ys:List Ty}{J:Nat}{ids:List Nat}{pc:PC}(hf:C.P.funcs[f]?=some fn)(hc:∀yv,Ci {C with yv:=yv} fn cts ys J ids=some pc){ds xs:List D}
 (hr:Vh Φ pc J ds xs):lT C f cts ys ds xs:=by
 intro σ w yv vs F fx cx m aB hC ha hm ah bS wP hF iM nX O2;have hc:=hc yv;unfold Ci at hc;split at hc
 case h_2=>cases hc
 rename_i kq hsy hcy;cases hle:Nat.ble (cts.length+1) fn.ntmps<;>simp only[hle,cond_true,cond_false] at hc
 ·cases hc
 have Dq:=jI hle;obtain⟨N,he⟩:=hr m hm;cases hb:fn.body with
 |none=>unfold tY at hc;rw[hb] at hc;cases hc
 |some c=>
 refine(callsIn_wide (n:=0)).1 (callsIn_of_wp_marks (F:=FR none) hf hb trivial ?_);obtain⟨σ0,hσ0⟩:∃σ0:Base,σ0={σ with B:=0,fin:=True,F:=fun t fx cx w=>(∃l,t=.list l)∧F t fx cx w,lt:=fun t fx cx w h=>ah t fx cx w h.2,sub:=fun t fx cx w h=>bS t fx cx w h.2,keep:=fun t fx cx w w' h hb hs=>⟨h.1,wP t fx cx w w' h.2 hb hs⟩}:=⟨_,rfl⟩
 have e1:σ0.toIm=σ:=by rw[hσ0]
 have e2:σ0.B=0:=by rw[hσ0]
 have e3:σ0.fin:=by rw[hσ0];trivial
 have e4:∀t fx cx w,σ0.F t fx cx w↔(∃l,t=.list l)∧F t fx cx w:=fun t fx cx w=>by rw[hσ0]
 have hg:=agZ (C:={C with yl:=some (J,ys),yv:=yv}) (σ0:=σ0) (w:=w) (yv:=yv) (vs:=vs) (ds:=ds) (cts:=cts) (ys:=ys) (J:=J) (m:=fn.ntmps) (ids:=ids) aB ha Dq rfl rfl e1 e2 ((e4 _ _ _ _).2 ⟨⟨_,rfl⟩,hF⟩) iM nX;have aK:(#[yv]++vs.toArray).size=vs.length+1:=by simp<;>omega
 have IX:vs.length=cts.length:=ha.1;have hY:pf {C with yl:=some (J,ys),yv:=yv} (yldΦ Φ xs m) w σ0:=by
  intro J' ys' e;cases e;refine⟨e2,fun t fx cx w h=>((e4 _ _ _ _).1 h).1,fun j6 ds' d hd fx cx w1 σ1 args zO akK wG uv Dr da cR=>?_⟩;obtain⟨g1,g2,g3,g4,rfl⟩:=yldΦ_at hd;rw[e1] at da cR;have:=O2 j6.length fx cx w1 σ1 args ds' g1 g3 (by rw[←g2];exact((e4 _ _ _ _).1 zO).2) akK wG uv Dr da cR;intro rd o a x aa ts K Q cd hv has hK;refine this rd o a x aa ts K Q cd hv has fun u w2 hu=>hK u w2 ?_;obtain⟨u1,u2,u3,m0,kf,u4,u5,u6⟩:=hu;refine⟨_,rfl,u1,u2,u3,m0,kf,(e4 _ _ _ _).2 ⟨⟨_,rfl⟩,?_⟩,u5,u6⟩;rw[g4];exact u4
 have hn:(#[yv]++vs.toArray++Array.replicate (fn.ntmps-(vs.length+1)) undef).size=fn.ntmps:=by simp;omega
 rw[aK];refine wpIn_mono (MJ (C:={C with yl:=some (J,ys),yv:=yv}) be (hΦ.yl hsy) (fE.yl hcy) hb hc (σ0:=σ0) e3 (by rw[e1];exact⟨hC.glob⟩) hY hn hg he) fun e a' w' ho=>?_
 have main:=qy.leaves (R:=fun e w'=>(∃v,e=.returned v)∧∃fx cx,F (.list (xs.take (m+1))) fx cx w') (fun w2 DJ=>by
  obtain⟨v,σ',⟨own,t,fx,cx,h1,ht,_⟩,h2,_⟩:=DJ;refine⟨v,h2,⟨v,rfl⟩,fx,cx,?_⟩;rw[ht J rfl];exact((e4 _ _ _ _).1 h1.F).2) _ _ ho.2.1
 rcases ho.1 with rfl|rfl<;>exact main
def dV (tab:Nat→Option PC)(ext:Nat→Option (aQ→List D→Option D)):Nat→aQ
 |0=>fun _ _=>none
 |n+1=>fun f ds=>
  match ext f with
  |some g=>g (dV tab ext n) ds
  |none=>
   match tab f with
   |some pc=>(match pc.ev (dV tab ext n) n (kL ds) with|some (.ret d)=>some d|_=>none)
   |none=>none
theorem iv.hint {C:Ctx}{fr nh:List Nat}{f:Nat}{s:Sig}{ds:List D}{d:D}(h:iv C f s ds d):iv {C with fr:=fr,nh:=nh} f s ds d:=
 fun σ w args aB hC ha=>h σ w args aB ⟨hC.glob⟩ ha
theorem iv.unhint {C:Ctx}{fr nh:List Nat}{f:Nat}{s:Sig}{ds:List D}{d:D}(h:iv {C with fr:=fr,nh:=nh} f s ds d):iv C f s ds d:=
 fun σ w args aB hC ha=>h σ w args aB ⟨hC.glob⟩ ha
theorem lT.hint {C:Ctx}{fr nh:List Nat}{f:Nat}{cts ys:List Ty}{ds xs:List D}(h:lT C f cts ys ds xs):lT {C with fr:=fr,nh:=nh} f cts ys ds xs:=
 fun σ w yv vs F fx cx m aB hC=>h σ w yv vs F fx cx m aB ⟨hC.glob⟩
theorem lT.unhint {C:Ctx}{fr nh:List Nat}{f:Nat}{cts ys:List Ty}{ds xs:List D}(h:lT {C with fr:=fr,nh:=nh} f cts ys ds xs):lT C f cts ys ds xs:=
 fun σ w yv vs F fx cx m aB hC=>h σ w yv vs F fx cx m aB ⟨hC.glob⟩
theorem gD.hint {C:Ctx}{fr nh:List Nat}{f:Nat}{shs:List Sh}{obs:List (Nat×Ob)}{res:Ty}{ds:List D}{d:D}(h:gD C f shs obs res ds d):gD {C with fr:=fr,nh:=nh} f shs obs res ds d:=h.ctx rfl rfl rfl
theorem gD.unhint {C:Ctx}{fr nh:List Nat}{f:Nat}{shs:List Sh}{obs:List (Nat×Ob)}{res:Ty}{ds:List D}{d:D}(h:gD {C with fr:=fr,nh:=nh} f shs obs res ds d):gD C f shs obs res ds d:=gD.ctx (C':=C) h rfl rfl rfl
theorem di.hint {C:Ctx}{fr nh:List Nat}{Φ:aQ}(h:di C Φ):di {C with fr:=fr,nh:=nh} Φ:=
 fun f ds d e s hs=>⟨fun hm=>((h f ds d e s hs).1 hm).hint,fun shs obs hm=>((h f ds d e s hs).2 shs obs hm).hint⟩
theorem gk.hint {C:Ctx}{fr nh:List Nat}{Φ:aQ}(h:gk C Φ):gk {C with fr:=fr,nh:=nh} Φ:=
 fun f cs ys hc hi=>let⟨h1,h2⟩:=h f cs ys hc hi;⟨h1,fun ds d e=>let⟨xs,e1,e2,e3⟩:=h2 ds d e;⟨xs,e1,e2,e3.hint⟩⟩
theorem dx.hint {C:Ctx}{fr nh:List Nat}(h:dx C):dx {C with fr:=fr,nh:=nh}:=h
def Li (C:Ctx)(f:Nat)(s:Sig)(ds:List D)(d:D):Prop:=(pW s.mode=false→iv C f s ds d)∧∀shs obs,s.mode=.ob shs obs→gD C f shs obs s.res ds d
structure TabOK (C:Ctx) (tab:Nat→Option PC) (ext:Nat→Option (aQ→List D→Option D)):Prop where
 clos:dx C
 its:∀f cs ys,C.cap f=some cs→mf cs.args cs.res=some ys→tab f=none∧∃fn,C.P.funcs[f]?=some fn∧fn.body.isSome=true∧(fn.name== "runtime.NumGoroutine")=false
 tab:∀f pc,ext f=none→tab f=some pc→∃fn s ids fr nh,C.P.funcs[f]?=some fn∧C.sig f=some s∧lZ {C with fr:=fr,nh:=nh} fn s ids=some pc
 ext:∀f g,ext f=some g→∀Φ,di C Φ→gk C Φ→∀ds d,g Φ ds=some d→(∀s,C.sig f=some s→Li C f s ds d)∧
  ∀cs ys,C.cap f=some cs→mf cs.args cs.res=some ys→∃xs,d=.list xs∧(∀x,x∈xs→∃ds',x=.tup ds'∧ds'.length=ys.length)∧lT C f cs.caps ys ds xs
theorem VA {C:Ctx}{tab:Nat→Option PC}{ext:Nat→Option (aQ→List D→Option D)}(h:TabOK C tab ext):∀n,di C (dV tab ext n)∧gk C (dV tab ext n)
 |0=>⟨fun f ds d e=>by simp[dV] at e,fun f cs ys hc hi=>⟨(h.its f cs ys hc hi).2,fun ds d e=>by simp[dV] at e⟩⟩
 |n+1=>by
  obtain⟨ih,me⟩:=VA h n;refine⟨fun f ds d e=>?_,fun f cs ys hc hi=>⟨(h.its f cs ys hc hi).2,fun ds d e=>?_⟩⟩
  ·simp only[dV] at e;split at e
   ·rename_i g hg;exact(h.ext f g hg _ ih me ds d e).1
   ·rename_i hx;split at e
    ·rename_i pc ae;split at e
     ·rename_i d' he;cases e;obtain⟨fn,s,ids,fr,nh,h1,h2,h3⟩:=h.tab f pc hx ae;intro s' eI;rw[h2] at eI;cases eI
      exact⟨fun hm=>(MK (C:={C with fr:=fr,nh:=nh}) (dx.hint h.clos) (di.hint ih) (gk.hint me) h1 h3 hm he).unhint,
       fun shs obs hm=>(afG (C:={C with fr:=fr,nh:=nh}) (dx.hint h.clos) (di.hint ih) (gk.hint me) h1 h3 hm he).unhint⟩
     ·cases e
    ·cases e
  ·simp only[dV] at e;split at e
   ·rename_i g hg;exact(h.ext f g hg _ ih me ds d e).2 cs ys hc hi
   ·rw[(h.its f cs ys hc hi).1] at e;cases e
def aeh (Φ:aQ)(pc:PC)(J k:Nat)(ds xs:List D):Prop:=Vh Φ pc J ds xs∧∀x,x∈xs→∃ds',x=.tup ds'∧ds'.length=k
open Classical in
def DY (pc:PC)(J k:Nat)(spec:List D→List D):aQ→List D→Option D:=fun Φ ds=>if aeh Φ pc J k ds (spec ds) then some (.list (spec ds)) else none
theorem alY {C:Ctx}{Φ:aQ}(be:dx C)(hΦ:di C Φ)(fE:gk C Φ){f:Nat}{fn:Func}{cts ys:List Ty}{J k:Nat}{ids fr nh:List Nat}{pc:PC}(hf:C.P.funcs[f]?=some fn)(hc:∀yv,Ci {C with fr:=fr,nh:=nh,yv:=yv} fn cts ys J ids=some pc){spec:List D→List D}
 {ds:List D} {d:D} (h:DY pc J k spec Φ ds=some d) (hk:k=ys.length):∃xs,d=.list xs∧(∀x,x∈xs→∃ds',x=.tup ds'∧ds'.length=ys.length)∧lT C f cts ys ds xs:=by
 unfold DY at h;split at h
 ·rename_i hs;cases h;subst hk;exact⟨_,rfl,hs.2,(afH (C:={C with fr:=fr,nh:=nh}) (dx.hint be) (di.hint hΦ) (gk.hint fE) hf hc hs.1).unhint⟩
 ·cases h
def bH {α:Type}:List (Nat×α)→Nat→Option α
 |[],_=>none
 |x::l,f=>bif Nat.beq x.1 f then some x.2 else bH l f
def FT {α:Type}(R:Nat→α→Prop):List (Nat×α)→Prop
 |[]=>True
 |x::l=>R x.1 x.2∧FT R l
theorem Pn {α:Type}{R:Nat→α→Prop}:∀{l:List (Nat×α)},FT R l→∀f x,bH l f=some x→R f x
 |[],_,f,x,h=>by cases h
 |y::l,⟨h1,h2⟩,f,x,h=>by
  simp only[bH] at h;cases hb:Nat.beq y.1 f<;>simp only[hb,cond_true,cond_false] at h
  ·exact Pn h2 f x h
  ·cases h;rw[←cW hb];exact h1
def Sn (P:Program):List (Nat×Sig)→Bool
 |[]=>true
 |x::l=>(match P.funcs[x.1]? with|some fn=>fn.body.isSome&& !(fn.name== "runtime.NumGoroutine")|none=>false)&&Sn P l
theorem adL {P:Program}:∀{l:List (Nat×Sig)},Sn P l=true→∀f s,bH l f=some s→∃fn,P.funcs[f]?=some fn∧fn.body.isSome=true∧(fn.name== "runtime.NumGoroutine")=false
 |[],_,f,s,h=>by cases h
 |y::l,hl,f,s,h=>by
  simp only[Sn,ao] at hl;simp only[bH] at h;cases hb:Nat.beq y.1 f<;>simp only[hb,cond_true,cond_false] at h
  ·exact adL hl.2 f s h
  ·rw[←cW hb];have h1:=hl.1;split at h1
   ·rename_i fn e;simp only[ao,gS] at h1;exact⟨fn,e,h1.1,h1.2⟩
   ·cases h1
def Sc (a b:Sig):Bool:=Ty.beqs a.args b.args&&Ty.beq a.res b.res&&(match a.mode,b.mode with|.dat,.dat=>true|_,_=>false)
theorem aq5 {a b:Sig}(h:Sc a b=true):a=b:=by
 obtain⟨a1,a2,a3⟩:=a;obtain⟨b1,b2,b3⟩:=b;simp only[Sc,ao] at h;rw[Ty.beqs_eq _ _ h.1.1,Ty.beq_eq _ _ h.1.2];cases a3<;>cases b3<;>first|rfl|(have:=h.2;cases this)
def FI (P:Program)(f:Nat):Bool:=match P.funcs[f]? with|some fn=>fn.body.isSome&& !(fn.name== "runtime.NumGoroutine")|none=>false
theorem arA {P:Program}{f:Nat}(h:FI P f=true):∃fn,P.funcs[f]?=some fn∧fn.body.isSome=true∧(fn.name== "runtime.NumGoroutine")=false:=by
 unfold FI at h;split at h
 ·rename_i fn e;simp only[ao,gS] at h;exact⟨fn,e,h.1,h.2⟩
 ·cases h
def MA (P:Program)(sig:List (Nat×Sig))(pcs:List Nat):List (Nat×CSig)→Bool
 |[]=>true
 |x::l=>(match mf x.2.args x.2.res with
   |none=>(match bH sig x.1 with|some s=>Sc s ⟨x.2.args++x.2.caps,x.2.res,.dat⟩|none=>false)
   |some _=> !fo pcs x.1&&FI P x.1)&&MA P sig pcs l
theorem V1 {P:Program}{sig:List (Nat×Sig)}{pcs:List Nat}:∀{l:List (Nat×CSig)},MA P sig pcs l=true→∀f cs,bH l f=some cs→
 (mf cs.args cs.res=none→bH sig f=some ⟨cs.args++cs.caps,cs.res,.dat⟩)∧∀ys,mf cs.args cs.res=some ys→fo pcs f=false∧FI P f=true
 |[],_,f,cs,h=>by cases h
 |x::l,hl,f,cs,h=>by
  simp only[MA,ao] at hl;simp only[bH] at h;cases hb:Nat.beq x.1 f<;>simp only[hb,cond_true,cond_false] at h
  ·exact V1 hl.2 f cs h
  ·cases h;rw[←cW hb];have h1:=hl.1;refine⟨fun e=>?_,fun ys e=>?_⟩
   ·rw[e] at h1;simp only at h1;split at h1
    ·rename_i s hs;rw[hs,aq5 h1]
    ·cases h1
   ·rw[e] at h1;simpa using h1
theorem Zh {α:Type}:∀{l:List (Nat×α)} {f:Nat},fo (l.map (·.1)) f=false→bH l f=none
 |[],f,_=>rfl
 |x::l,f,h=>by
  simp only[gU,fo,List.any_cons,Vd] at h;simp only[bH];have hb:Nat.beq x.1 f=false:=by
   cases e:Nat.beq x.1 f
   ·rfl
   ·rw[az e,gE] at h;cases h.1
  rw[hb];exact Zh (l:=l) h.2
def aem (Φ:aQ)(pa pb:PC)(ds:List D)(d:D):Prop:=(∃N xs,pa.ev Φ N (kL ds)=some (.ret (.list xs))∧xs≠[]∧d=.list xs)∨∃N,pb.ev Φ N (kL ds)=some (.ret (.list []))∧d=.list []
open Classical in
def Aw (pa pb:PC)(spec:List D→D):aQ→List D→Option D:=fun Φ ds=>if aem Φ pa pb ds (spec ds) then some (spec ds) else none
theorem aoe {C:Ctx}{Φ:aQ}(be:dx C)(hΦ:di C Φ)(fE:gk C Φ){f:Nat}{fn:Func}{args:List Ty}{e:Ty}{ids alQ fr nh WY ZW:List Nat}{pa pb:PC}(hf:C.P.funcs[f]?=some fn)(ha:lZ {C with fr:=fr,nh:=nh} fn ⟨args,.slice e,.dat⟩ ids=some pa)
 (hb:lZ {C with fr:=WY,nh:=ZW} fn ⟨args,.nils .bool,.dat⟩ alQ=some pb) {spec:List D→D} {ds:List D} {d:D} (h:Aw pa pb spec Φ ds=some d):iv C f ⟨args,.nsl e,.dat⟩ ds d:=by
 unfold Aw at h;split at h
 case isFalse=>cases h
 rename_i hs;cases h;rcases hs with⟨N,xs,h1,h2,h3⟩|⟨N,h1,h2⟩
 ·rw[h3];have:=(MK (C:={C with fr:=fr,nh:=nh}) (dx.hint be) (di.hint hΦ) (gk.hint fE) hf ha (N:=N) rfl h1).unhint;intro σ w aa aB hC iL;refine(this σ w aa aB hC iL).mono fun en w' hh=>?_;obtain⟨v,σ',g1,g2,g3,g4,g5,g6,g7⟩:=hh;refine⟨v,σ',g1,g2,g3,g4,g5,g6,?_⟩;change Rep C.cap σ' (.slice e) v (.list xs) at g7;show Rep C.cap σ' (.nsl e) v (.list xs);generalize hd:D.list xs=dd at g7;cases g7 with
  |nil=>injection hd with hd;exact absurd hd h2
  |emp=>injection hd with hd;exact absurd hd h2
  |slice _ k o n c j6 vs a1 a2 a3 a4 a5=>exact .nsl e k o n c j6 (.slice e k o n c j6 vs a1 a2 a3 a4 a5) (by injection hd with hd;rw[←hd];exact h2)
 ·rw[h2];have:=(MK (C:={C with fr:=WY,nh:=ZW}) (dx.hint be) (di.hint hΦ) (gk.hint fE) hf hb (N:=N) rfl h1).unhint;intro σ w aa aB hC iL;refine(this σ w aa aB hC iL).mono fun en w' hh=>?_;obtain⟨v,σ',g1,g2,g3,g4,g5,g6,g7⟩:=hh;refine⟨v,σ',g1,g2,g3,g4,g5,g6,?_⟩;change Rep C.cap σ' (.nils .bool) v (.list []) at g7;show Rep C.cap σ' (.nsl e) v (.list []);generalize D.list []=dd at g7;cases g7;exact .nsl0 e
end Cx
namespace Cx
open Go Go.RowKit Go.ChangeShapes Go.WideShapes
def nk (w:World):Im:=
 ⟨fun k o=>w.cell? ⟨k,o,none⟩,fun _=>none⟩
theorem alS (w:World):(nk w).ok w:=by
 exact⟨fun k o v h=>h,fun k es h=>by cases h⟩
def Bl (P:Program)(r:TypeId→Option Ty):List Field→Nat→Option (List Ty)
 |[],_=>some []
 |f::fs,off=>(r f.type).bind fun ft=>
  bif Nat.beq f.offset off&&Nat.beq (P.cellsOf f.type) ft.flat.length then(Bl P r fs (off+ft.flat.length)).map (ft.flat++·) else none
def gg (P:Program):Nat→TypeId→Option Ty
 |0,_=>none
 |n+1,t=>
  match P.underlying t with
  |some .bool=>some .bool
  |some (.int k)=>some (.int k)
  |some .string=>some .str
  |some (.slice e)=>bif sZ P e then some (.slice .trm) else(gg P n e).bind fun te=>bif Nat.beq (P.cellsOf e) te.flat.length&&Nat.ble 1 te.flat.length then some (.slice te) else none
  |some (.struct fs)=>(Bl P (gg P n) fs.toList 0).bind fun ts=>bif Nat.beq (P.cellsOf t) ts.length then some (.agg ts) else none
  |_=>none
theorem alX {P:Program}{e:TypeId}(h:sZ P e=true)(n:Nat):gg P (n+2) e=some .trmA∧P.cellsOf e=3:=by
 unfold sZ at h;split at h
 case h_2=>cases h
 rename_i fs hu;split at h
 case h_2=>cases h
 rename_i f0 f1 f2 sL;simp only[ao] at h;obtain⟨⟨⟨⟨⟨⟨⟨⟨⟨h0,h1⟩,h2⟩,o0⟩,o1⟩,o2⟩,c0⟩,c1⟩,c2⟩,c3⟩:=h;split at h0
 case h_2=>cases h0
 rename_i u0;split at h1
 case h_2=>cases h1
 rename_i u1;split at h2
 case h_2=>cases h2
 rename_i e' u2;obtain rfl:=az h2;have r0:gg P (n+1) f0.type=some (.int .i64):=by simp[gg,u0]
 have r1:gg P (n+1) f1.type=some (.int .i64):=by simp[gg,u1]
 have ht:sZ P e'=true:=by
  unfold sZ;rw[hu];simp only[sL];simp[u0,u1,u2,az o0,az o1,az o2,az c0,az c1,az c2,az c3]
 have r2:gg P (n+1) f2.type=some (.slice .trm):=by simp[gg,u2,ht]
 refine⟨?_,az c3⟩;show gg P (n+1+1) e'=_;rw[gg,hu];simp only[sL,Bl,r0,r1,r2,j9,Ty.flat,nI,yj,o0,c0,Bool.and_self,cond_true];simp[az o1,az o2,az c1,az c2,az c3,Ty.trmA]
theorem RW {P:Program}{n:Nat}{t:TypeId}{ty:Ty}(h:gg P n t=some ty):ty.rowT=true∨ty.one=true:=by
 cases n with
 |zero=>simp[gg] at h
 |succ n=>
  simp only[gg] at h;split at h
  ·cases h;exact .inr rfl
  ·cases h;exact .inr rfl
  ·cases h;exact .inr rfl
  ·rename_i e _;cases ht:sZ P e<;>simp only[ht,cond_true,cond_false] at h
   ·simp only[av] at h;obtain⟨te,_,h⟩:=h;cases hb:(Nat.beq (P.cellsOf e) te.flat.length&&Nat.ble 1 te.flat.length)<;>simp only[hb,cond_true,cond_false] at h
    ·cases h
    ·cases h;exact .inr rfl
   ·cases h;exact .inr rfl
  ·rename_i fs _;simp only[av] at h;obtain⟨ts,_,h⟩:=h;cases hb:Nat.beq (P.cellsOf t) ts.length<;>simp only[hb,cond_true,cond_false] at h
   ·cases h
   ·cases h;exact .inl rfl
  ·cases h
def mT (cap:Nat→Option CSig)(σ:Im)(ts:List Ty)(cs:List Value)(ds:List D):Prop:=
 cs.length=ts.length∧ds.length=ts.length∧∀(i:Nat) (u:Ty),ts[i]?=some u→Rep cap σ u (cs.getD i undef) (ds.getD i .none)∧u.one=true
theorem mT.one {cap:Nat→Option CSig}{σ:Im}{t:Ty}{v:Value}{d:D}(h:Rep cap σ t v d)(ht:t.one=true):mT cap σ [t] [v] [d]:=
 ⟨rfl,rfl,fun i u hu=>by
   cases i with
   |zero=>simp at hu;subst hu;exact⟨h,ht⟩
   |succ i=>simp at hu⟩
theorem mT.append {cap:Nat→Option CSig}{σ:Im}{ts us:List Ty}{cs vs:List Value}{ds es:List D}(h:mT cap σ ts cs ds)(k:mT cap σ us vs es):mT cap σ (ts++us) (cs++vs) (ds++es):=by
 obtain⟨h1,h2,h3⟩:=h;obtain⟨k1,k2,k3⟩:=k;refine⟨by simp[h1,k1],by simp[h2,k2],fun i u hu=>?_⟩;by_cases hi:i<ts.length
 ·rw[jF hi] at hu;have:=h3 i u hu;rw[aJ,aJ,jF (by omega),jF (by omega)];rw[aJ,aJ] at this;exact this
 ·rw[kI (by omega)] at hu;have:=k3 _ u hu;rw[aJ,aJ,kI (by omega),kI (by omega),h1,h2];rw[aJ,aJ] at this;exact this
def Wg (ag:Bool)(ds:List D):D:=if ag then .agg ds else ds.getD 0 .none
theorem ahu (t:Ty):t.flat.length=t.size:=by cases t<;>rfl
theorem Rep.ofRow {cap:Nat→Option CSig}{σ:Im}{t:Ty}{cs:List Value}{ds:List D}(hZ:t.rowT=true∨t.one=true)(h:mT cap σ t.flat cs ds):Rep cap σ t (Cx.rowOf t.rowT cs) (Wg t.rowT ds):=by
 obtain⟨h1,h2,h3⟩:=h;cases t with
 |agg ts=>exact .agg ts cs ds h1 h2 (fun i u hu=>(h3 i u hu).1) (fun i u hu=>(h3 i u hu).2)
 |trm=>simp[Ty.rowT,Ty.one] at hZ
 |_=>exact(h3 0 _ rfl).1
theorem aqO {cap:Nat→Option CSig}{σ:Im}{t:Ty}{cs:List Value}{ds:List D}(hZ:t.rowT=true∨t.one=true)(h:mT cap σ t.flat cs ds){j:Nat}{u:Value}(hj:(rowOf t.rowT cs).cells[j]?=some u):cs[j]?=some u:=by
 obtain⟨h1,h2,h3⟩:=h;cases t with
 |agg ts=>simpa [rowOf,Ty.rowT,Value.cells] using hj
 |trm=>simp[Ty.rowT,Ty.one] at hZ
 |_=>
  have h4:=h3 0 _ rfl;have h5:=(h4.1.oneCell h4.2).1;simp only[rowOf,Ty.rowT,vN,if_false] at hj;rw[h5] at hj;cases j with
  |zero=>
   simp only[F1,Lq,aU] at hj
   match cs,h1 with
   |[c],_=>simpa using hj
  |succ j=>simp at hj
section
variable {H:Type} {enc:TypeId×Value→H} {P:Program} {w:World} {base:Nat} {held:Bool} {cap:Nat→Option CSig}
theorem adZ {k:IntKind}{n:Int}(h:(Lit.int k n).wf=true):k.min≤n∧n≤k.max:=by
 simpa [Lit.wf] using h
theorem acV {n m:Nat}(ih:∀(t:TypeId) (cs:List Value) (x:DataW H×List MemPlace) (ty:Ty),DataW.trod enc P w base (fun _=>true) held n t cs=some x→gg P m t=some ty→∃ds,mT cap (nk w) ty.flat cs ds):
 ∀(fs:List Field) (off:Nat) (cs:List Value) (ts:List Ty),Bl P (gg P m) fs off=some ts→cs.length=off+ts.length→
  (∀f,f∈fs→∃x,DataW.trod enc P w base (fun _=>true) held n f.type ((cs.drop f.offset).take (P.cellsOf f.type))=some x)→∃ds,mT cap (nk w) ts (cs.drop off) ds
 |[],off,cs,ts,h,hl,_=>by
  simp only[Bl,aU] at h;subst h;have:cs.drop off=[]:=by simp at hl ⊢;omega
  rw[this];exact⟨[],rfl,rfl,fun i u hu=>by simp at hu⟩
 |f::fs,off,cs,ts,h,hl,hx=>by
  simp only[Bl,av] at h;obtain⟨ft,hft,h⟩:=h;cases hb:(Nat.beq f.offset off&&Nat.beq (P.cellsOf f.type) ft.flat.length)<;>simp only[hb,cond_true,cond_false] at h
  ·cases h
  simp only[aA] at h;obtain⟨us,hus,rfl⟩:=h;simp only[ao] at hb;have e1:=cW hb.1;have e2:=cW hb.2;obtain⟨x,om⟩:=hx f (dq ..);rw[e1,e2] at om;obtain⟨Cn,iP⟩:=ih _ _ _ _ om hft;simp only[jG] at hl;obtain⟨ds2,l9⟩:=acV ih fs (off+ft.flat.length) cs us hus (by omega) fun g hg=>hx g (dj _ hg);refine⟨Cn++ds2,?_⟩;have:=iP.append l9;rw[←List.drop_drop,Lw] at this;exact this
theorem atW:∀(n m:Nat) (t:TypeId) (cs:List Value) (x:DataW H×List MemPlace) (ty:Ty),DataW.trod enc P w base (fun _=>true) held n t cs=some x→gg P m t=some ty→∃ds,mT cap (nk w) ty.flat cs ds:=by
 intro n
 induction n with
 |zero=>intro m t cs x ty h;simp[DataW.trod] at h
 |succ n ih=>
  intro m t cs x ty h bh;cases m with
  |zero=>simp[gg] at bh
  |succ m=>
   simp only[gg] at bh;split at bh
   ·rename_i hu;cases bh;obtain⟨b,rfl,_⟩:=DataW.trod_bool hu h;exact⟨_,.one (.bool b) rfl⟩
   ·rename_i k hu;cases bh;obtain⟨z,rfl,_,hw⟩:=DataW.trod_int hu h;exact⟨_,.one (.int k z (adZ hw).1 (adZ hw).2) rfl⟩
   ·rename_i hu;cases bh;obtain⟨s,rfl,_,hs⟩:=DataW.trod_string hu h;exact⟨_,.one (.str s hs) rfl⟩
   ·rename_i e hu;have w9:∃(m':Nat) (te vC:Ty),gg P m' e=some te∧P.cellsOf e=te.flat.length∧1≤te.flat.length∧ty=.slice vC∧vC.unf=te:=by
     cases ht:sZ P e<;>simp only[ht,cond_true,cond_false] at bh
     ·simp only[av] at bh;obtain⟨te,w9,bh⟩:=bh;cases hb:(Nat.beq (P.cellsOf e) te.flat.length&&Nat.ble 1 te.flat.length)<;>simp only[hb,cond_true,cond_false] at bh
      ·cases bh
      cases bh;simp only[ao] at hb;exact⟨m,te,te,w9,cW hb.1,jI hb.2,rfl,Ty.unf_ro (RW w9)⟩
     ·cases bh;obtain⟨k1,k2⟩:=alX ht 0;exact⟨2,.trmA,.trm,k1,k2,by decide,rfl,rfl⟩
    obtain⟨m',te,vC,w9,e1,e2,rfl,nj⟩:=w9;have hZ:=RW w9;rcases DataW.trod_slice hu h with⟨rfl,_⟩|⟨a,len,cp,elems,rest,n',jR,rfl,_,hba,hl,hm,hlen,jk,uL,_⟩
    ·exact⟨_,.one (.nil vC) rfl⟩
    ·cases jR;obtain⟨hrl,uH⟩:=uL rfl
     have pM:∀i,i<cp→∃ci y,w.cells? base (a.add (i*P.cellsOf e)) (P.cellsOf e)=some ci∧DataW.trod enc P w base (fun _=>true) held n e ci=some y:=by
      intro i hi
      have gr:∃y,(w.cells? base (a.add (i*P.cellsOf e)) (P.cellsOf e)).bind (DataW.trod enc P w base (fun _=>true) held n e)=some y:=by
           by_cases wN:i<len
           ·rw[jk i wN];exact⟨_,bA (by omega)⟩
           ·have:=uH (i-len) (by omega);rw[show len+(i-len)=i by omega] at this;rw[this];exact⟨_,bA (by omega)⟩
      obtain⟨y,hy⟩:=gr;rw[av] at hy;obtain⟨ci,h1,h2⟩:=hy;exact⟨ci,y,h1,h2⟩
     by_cases C7:cp=0
     ·subst C7;have:len=0:=by omega
      subst this;exact⟨_,.one (.emp vC a) rfl⟩
     ·have Yk:a.spot=none:=by
           obtain⟨ci,y,h1,_⟩:=pM 0 (by omega);obtain⟨_,_,h3⟩:=World.cells?_some h1;have:=h3 0 (by omega);simp only[Nat.zero_mul,Addr.add,if_true] at this;unfold World.cell? at this;cases hs:a.spot with
           |none=>rfl
           |some s=>
            exfalso;have hl:ci.length=P.cellsOf e:=(World.cells?_some h1).2.1;split at this
            ·rw[hs] at this;simp at this;subst this;simp at hl;omega
            ·rw[eq_comm,List.getElem?_eq_none_iff] at this;omega
      obtain⟨k,o,s⟩:=a;simp only at Yk;subst Yk;have aO:∀i,∃p:List Value×List D,i<len→w.cells? base ((⟨k,o,none⟩:Addr).add (i*P.cellsOf e)) (P.cellsOf e)=some p.1∧mT cap (nk w) te.flat p.1 p.2:=by
           intro i;by_cases hi:i<len
           ·obtain⟨ci,y,h1,h2⟩:=pM i (by omega);obtain⟨ds,hr⟩:=ih m' _ _ _ _ h2 w9;exact⟨(ci,ds),fun _=>⟨h1,hr⟩⟩
           ·exact⟨([],[]),fun h=>absurd h hi⟩
      obtain⟨f,hf⟩:=Classical.axiomOfChoice aO;refine⟨_,.one (.slice vC k o len cp ((List.range len).map fun i=>Wg te.rowT (f i).2) (fun i=>rowOf te.rowT (f i).1) (by simp) hl hm (fun i x hx=>?_) (fun i j u hi hj=>?_)) rfl⟩
      ·rw[cC,aA] at hx;obtain⟨i',cw,rfl⟩:=hx;have ah:i<len:=by have:=(eC.1 cw).1;simpa using this
       rw[qw ah] at cw;cases cw;rw[nj];exact Rep.ofRow hZ (hf i ah).2
      ·obtain⟨h1,h2⟩:=hf i hi;have dz:=aqO hZ h2 hj;obtain⟨_,h4,h5⟩:=World.cells?_some h1;have fW:j<P.cellsOf e:=by rw[←h4];exact(eC.1 dz).1
       have:=h5 j fW;rw[dz] at this;show w.cell? ⟨k,o+i*vC.size+j,none⟩=some u;rw[←vC.unf_size,nj,←ahu,←e1,←this]
       congr 1
       simp only[Addr.add];split<;>split<;>simp_all
   ·rename_i fs hu;simp only[av] at bh;obtain⟨ts,IY,bh⟩:=bh;cases hb:Nat.beq (P.cellsOf t) ts.length<;>simp only[hb,cond_true,cond_false] at bh
    ·cases bh
    cases bh;obtain⟨xs,n',jR,_,hl,xe,hf⟩:=DataW.trod_struct hu h;cases jR
    have:=acV (ih m) fs.toList 0 cs ts IY (by rw[hl,cW hb];omega) (fun f hm=>by
     obtain⟨i,hi⟩:=yi hm;have cw:fs[i]?=some f:=by simpa using hi
     have h1:=hf i f cw;have ah:i<fs.size:=(gj.1 cw).1;exact⟨_,h1.trans (bA (by omega))⟩)
    show ∃ds,mT cap (nk w) ts cs ds;simpa using this
   ·cases bh
theorem Cf {base:Nat}{t:TypeId}{v:Value}(h:Cell.okWide P w .any base t v):v.cells=#[v]:=by
 cases v<;>first|rfl|(exfalso;simp only[Cell.okWide,Cell.ok] at h;revert h;cases P.underlying t with|none=>simp|some T=>cases T<;>simp)
theorem aeI {base base':Nat}{m:Nat}{t:TypeId}{v:Value}{d:DataW H}{ps:List MemPlace}{ty:Ty}(aB:Value.okWide P w .any base' t v)(h:DataW.Trod enc P w base (fun _=>true) held t v d ps)(bh:gg P m t=some ty):∃d,Rep cap (nk w) ty v d:=by
 obtain⟨fuel,h⟩:=h;obtain⟨ds,hr⟩:=atW (cap:=cap) fuel m t _ _ _ h bh;have bW:=Rep.ofRow (RW bh) hr;cases m with
 |zero=>simp[gg] at bh
 |succ m=>
  suffices hs:rowOf ty.rowT v.cells.toList=v by rw[hs] at bW;exact⟨_,bW⟩
  simp only[gg] at bh;unfold Value.okWide at aB;split at bh
  ·rename_i hu;cases bh;rw[hu] at aB;simp only at aB;rw[Cf aB];rfl
  ·rename_i hu;cases bh;rw[hu] at aB;simp only at aB;rw[Cf aB];rfl
  ·rename_i hu;cases bh;rw[hu] at aB;simp only at aB;rw[Cf aB];rfl
  ·rename_i e hu;cases ht:sZ P e<;>simp only[ht,cond_true,cond_false] at bh
   ·simp only[av] at bh;obtain⟨te,_,bh⟩:=bh;cases hb:(Nat.beq (P.cellsOf e) te.flat.length&&Nat.ble 1 te.flat.length)<;>simp only[hb,cond_true,cond_false] at bh
    ·cases bh
    cases bh;rw[hu] at aB;simp only at aB;rw[Cf aB];rfl
   ·cases bh;rw[hu] at aB;simp only at aB;rw[Cf aB];rfl
  ·rename_i fs hu;simp only[av] at bh;obtain⟨ts,_,bh⟩:=bh;cases hb:Nat.beq (P.cellsOf t) ts.length<;>simp only[hb,cond_true,cond_false] at bh
   ·cases bh
   cases bh;rw[hu] at aB;obtain⟨cs,rfl,_⟩:=aB;simp[rowOf,Ty.rowT,Value.cells]
  ·cases bh
def Fq (P:Program)(m:Nat):List TypeId→Option (List Ty)
 |[]=>some []
 |t::ts=>(gg P m t).bind fun x=>(Fq P m ts).map (x::·)
theorem VJ {base base' m:Nat}:∀(ts:List TypeId) (vs:List Value) (ds:List (DataW H)) (ps:List MemPlace) (fA:List Ty),DataW.TrodAll enc P w base (fun _=>true) held ts vs ds ps→Fq P m ts=some fA→
 (∀(j:Nat) t v,ts[j]?=some t→vs[j]?=some v→Value.okWide P w .any base' t v)→
 ∃es:List D,vs.length=fA.length∧es.length=fA.length∧∀(i:Nat) (t:Ty),fA[i]?=some t→Rep cap (nk w) t (vs.getD i undef) (es.getD i .none)
 |[],vs,ds,ps,fA,h,bh,_=>by
  simp only[Fq,aU] at bh;subst bh;cases vs with
  |nil=>exact⟨[],rfl,rfl,fun i t h=>by simp at h⟩
  |cons=>cases ds<;>exact h.elim
 |t::ts,vs,ds,ps,fA,h,bh,aB=>by
  simp only[Fq,av,aA] at bh;obtain⟨ty,aly,at0,alz,rfl⟩:=bh;cases vs with
  |nil=>cases ds<;>exact h.elim
  |cons v vs=>
   cases ds with
   |nil=>exact h.elim
   |cons d ds=>
    obtain⟨p,q,h1,h2,_⟩:=h;obtain⟨e,he⟩:=aeI (cap:=cap) (aB 0 t v rfl rfl) h1 aly;obtain⟨es,k1,k2,k3⟩:=VJ ts vs ds q at0 h2 alz (fun j t' v' hj hv=>aB (j+1) t' v' hj hv);refine⟨e::es,by simp[k1],by simp[k2],fun i u hu=>?_⟩;cases i with
    |zero=>simp at hu;subst hu;exact he
    |succ i=>simpa using k3 i u (by simpa using hu)
end
mutual
inductive DTy:Ty→D→Prop where
 |int (k:IntKind) (n:Int) (h1:k.min≤n) (h2:n≤k.max):DTy (.int k) (.v (.int k n))
 |bool (b:Bool):DTy .bool (.v (.bool b))
 |str (s:ByteArray) (h:s.size≤maxLen):DTy .str (.v (.string s))
 |slice (e:Ty) (xs:List D) (hm:xs.length≤maxLen) (h:∀x,x∈xs→DTy e.unf x):DTy (.slice e) (.list xs)
 |agg (ts:List Ty) (ds:List D) (h:DTys ts ds):DTy (.agg ts) (.agg ds)
 |other (t:Ty) (d:D) (h:match t with|.int _|.bool|.str|.slice _|.agg _=>False|_=>True):DTy t d
inductive DTys:List Ty→List D→Prop where
 |nil:DTys [] []
 |cons {t:Ty} {d:D} {ts:List Ty} {ds:List D} (h:DTy t d) (hs:DTys ts ds):DTys (t::ts) (d::ds)
end
theorem DTys.of_get:∀{ts:List Ty} {ds:List D},ds.length=ts.length→(∀(i:Nat) (t:Ty),ts[i]?=some t→DTy t (ds.getD i .none))→DTys ts ds
 |[],[],_,_=>.nil
 |t::ts,d::ds,hl,h=>.cons (h 0 t rfl) (DTys.of_get (by simpa using hl) fun i u hu=>by simpa using h (i+1) u (by simpa using hu))
 |[],_::_,hl,_=>by simp at hl
 |_::_,[],hl,_=>by simp at hl
theorem Rep.dty {cap:Nat→Option CSig}{σ:Im}{t:Ty}{v:Value}{d:D}(h:Rep cap σ t v d):DTy t d:=by
 induction h with
 |int k n h1 h2=>exact .int k n h1 h2
 |bool b=>exact .bool b
 |str s h=>exact .str s h
 |agg ts vs ds h1 h2 _ ho ih=>exact .agg ts ds (.of_get h2 ih)
 |nil e=>exact .slice e [] (by decide) (fun x hx=>by cases hx)
 |emp e a=>exact .slice e [] (by decide) (fun x hx=>by cases hx)
 |slice e k o n c xs vs hn hc hm _ hv ih=>
  refine .slice e xs (by omega) fun x hx=>?_;obtain⟨i,hi⟩:=yi hx;exact ih i x hi
 |_=>exact .other _ _ trivial
theorem al8 {H:Type}{enc:TypeId×Value→H}{C:Ctx}{f:Nat}{fn:Func}{sg:Sig}{spec:ChangeSpec}{tb:TypeId}{apart fresh handsOn again:Bool}(hl:laidOutB C.P=true)
 (uJ:Fq C.P 12 fn.params.toList=some sg.args) (ak3:fn.params.toList.all (fun t=>C.P.readableRec t&&decide (t<C.P.types.size))=true) (OR:spec.vars=[])
 (alj:∀ds:List (DataW H),ds.length=fn.params.size→(spec.fn H ds).results=[.lit (.bool true)]∧(spec.fn H ds).args=ds∧(spec.fn H ds).vars=[])
 (fI:fn.resultTypes=#[tb]) (Yp:C.P.underlying tb=some .bool) (kR:sg.mode=.dat) (uI:sg.res=.bool)
 (NZ:∀ds,DTys sg.args ds→iv C f sg ds (.v (.bool true)))
 (W:World) (uB:CtxOK C (nk W)) (base:Nat) (args:Array Value) (ds gs:List (DataW H)) (before:List MemPlace)
 (cu:∀(j:Nat) t v,fn.params[j]?=some t→args[j]?=some v→Value.okWide C.P W .any base t v)
 (hW:DataW.Whole enc C.P fn.params.toList spec.vars apart W args.toList ds gs before):
 Calls C.P f args W fun e W'=>∃v,e=.returned v∧spec.post enc C.P fn apart fresh handsOn again W args v W':=by
 have Ic:=hW;have ah:∀p∈before,p.block<W.heap.size:=fun p hp=>Ic.lt p hp;obtain⟨p,q,hA,hV,rfl,Dg,bp⟩:=hW;rw[OR] at hV;obtain⟨rfl,rfl⟩:=trodVars_none hV;obtain⟨es,k1,k2,k3⟩:=VJ (cap:=C.cap) (base':=base) fn.params.toList args.toList ds p sg.args hA uJ (fun j t v hj hv=>cu j t v (by simpa using hj) (by simpa using hv));have bh:DTys sg.args es:=.of_get k2 fun i t ht=>(k3 i t ht).dty
 have hlen:∀(ts:List TypeId) (vs:List Value) (ds:List (DataW H)) (ps:List MemPlace),DataW.TrodAll enc C.P W 0 (fun _=>true) true ts vs ds ps→ds.length=ts.length:=by
  intro ts
  induction ts with
  |nil=>intro vs ds ps h;cases vs<;>cases ds<;>first|rfl|exact h.elim
  |cons t ts ih=>
   intro vs ds ps h;cases vs with
   |nil=>cases ds<;>exact h.elim
   |cons v vs=>cases ds with
    |nil=>exact h.elim
    |cons d ds=>obtain⟨p,q,_,h2,_⟩:=h;simp[ih vs ds q h2]
 have NB:ds.length=fn.params.size:=by simpa using hlen _ _ _ _ hA
 obtain⟨s1,s2,s3⟩:=alj (ds++[]) (by simpa using NB);refine(NZ es bh (nk W) W args (alS W) uB ⟨k1,k2,k3⟩).mono fun e W' hh=>?_;obtain⟨v,σ',rfl,_,_,hb,_,_,hr⟩:=hh;refine⟨v,rfl,?_⟩;simp only[lW,kR,uI] at hr;obtain⟨b,rfl,wH⟩:=hr.bool_inv;cases wH
 have stays:∀(sp:Nat→Bool) (ts:List TypeId) (vs:List Value) (ds:List (DataW H)) (ps:List MemPlace),ts.all (fun t=>C.P.readableRec t&&decide (t<C.P.types.size))=true→(∀x∈ps,x.block<W.heap.size)→(∀x∈ps,sp x.block=true)→
  DataW.TrodAll enc C.P W 0 (fun _=>true) true ts vs ds ps→DataW.TrodAll enc C.P W' 0 sp true ts vs ds ps:=by
  intro sp ts
  induction ts with
  |nil=>intro vs ds ps _ _ _ h;cases vs<;>cases ds<;>first|exact h|exact h.elim
  |cons t ts ih=>
   intro vs ds ps ha sQ uL h;cases vs with
   |nil=>cases ds<;>exact h.elim
   |cons v vs=>cases ds with
    |nil=>exact h.elim
    |cons d ds=>
     obtain⟨p,q,h1,h2,rfl⟩:=h;simp only[qu,ao,decide_eq_true_eq] at ha
     exact⟨p,q,WideElems.Trod_stays hl ha.1.1 ha.1.2 h1 (fun x hx=>hb.same (sQ x (jH _ hx))) (fun x hx=>uL x (jH _ hx)),
      ih vs ds q (by simpa using ha.2) (fun x hx=>sQ x (j8 _ hx)) (fun x hx=>uL x (j8 _ hx)) h2,rfl⟩
 have XW:∀x∈p,x.block<W.heap.size:=fun x hx=>ah x (jH _ hx);have iL:=fun sp (h:∀x∈p,sp x.block=true)=>stays sp _ _ _ _ ak3 XW h hA;have uH:∀(b:Nat) (sp:Nat→Bool) (hd:Bool),DataW.TrodAll enc C.P W' b sp hd fn.resultTypes.toList ((Value.bool true).resultList fn.resultTypes.size) [.lit (.bool true)] []:=by
  intro b sp hd;rw[fI];exact trodAll_mk1 (shut_bool Yp true)
 refine⟨ds,[],p++[],[],p,[],Ic,?_,?_,?_,World.keptBut_mono (fun x hx=>⟨hx,?_⟩) (hb.frame (·∈p++[])),fun _=>?_⟩
 ·rw[s1];exact uH _ _ _
 ·rw[s2];simpa using iL _ (fun x hx=>by simpa using XW x hx)
 ·rw[s3,OR];rfl
 ·simpa using hx
 ·refine⟨ok_one fI rfl (okWide_bool_mk Yp true),_,[],([]++p)++[],⟨[]++p,[],trodAll_append (iL _ (fun _ _=>rfl)) (uH _ _ _),by rw[OR];exact rfl,rfl,?_,?_⟩,?_⟩
  ·intro b off hp;have aY:MemPlace.cell b off∈p++[]:=by simpa using hp
   rw[hb.frozen (ah _ aY)];exact Dg b off aY
  ·intro ha;simpa using bp ha
  ·intro x hx _;simpa using hx
end Cx
namespace Cx
open Go Go.RowKit
abbrev cI:=Nat→aQ
def aq (T:cI)(f:Nat)(ds:List D)(d:D):Prop:=∃n0,∀n,n0≤n→T n f ds=some d
def yh (T:cI)(l:List PI)(ρ:Env)(Q:Env→Prop):Prop:=∃ρ',Q ρ'∧∃n0,∀n,n0≤n→PI.runs (T n) l ρ=some ρ'
def aP (T:cI)(c:PC)(ρ:Env)(Q:Out→Prop):Prop:=∃x,Q x∧∃n0,∀n,n0≤n→c.ev (T n) n ρ=some x
theorem aP.mono {T:cI}{c:PC}{ρ:Env}{Q Q':Out→Prop}(h:aP T c ρ Q)(hq:∀x,Q x→Q' x):aP T c ρ Q':=by
 obtain⟨x,hx,n0,hn⟩:=h;exact⟨x,hq x hx,n0,hn⟩
theorem yh.nil {T:cI}{ρ:Env}{Q:Env→Prop}(h:Q ρ):yh T [] ρ Q:=⟨ρ,h,0,fun _ _=>rfl⟩
theorem yh.cons {T:cI}{p:PI}{l:List PI}{ρ ρ1:Env}{Q:Env→Prop}{n0:Nat}(h:∀n,n0≤n→p.run (T n) ρ=some ρ1)(k:yh T l ρ1 Q):yh T (p::l) ρ Q:=by
 obtain⟨ρ',hQ,n1,h1⟩:=k;exact⟨ρ',hQ,max n0 n1,fun n hn=>by simp[PI.runs,h n (by omega),h1 n (by omega)]⟩
def gP (T:cI):List PI→Env→(Env→Prop)→Prop
 |[],ρ,Q=>Q ρ
 |.setR t e::l,ρ,Q=>gP T l (ρ.setR t (e.ev ρ)) Q
 |.setO t e::l,ρ,Q=>gP T l (ρ.setO t (e.ev ρ)) Q
 |.chk e::l,ρ,Q=>(e.ev ρ).b=true∧gP T l ρ Q
 |.call gs dst f args::l,ρ,Q=>if holds gs ρ=true then ∃d,aq T f (PE.evs ρ args) d∧gP T l (ρ.setR dst d) Q else gP T l ρ Q
 |.callc gs dst e args::l,ρ,Q=>if holds gs ρ=true then ∃f caps d,e.ev ρ=.clo f caps∧aq T f (PE.evs ρ args++caps) d∧gP T l (ρ.setR dst d) Q else gP T l ρ Q
 |.mcall j f args::l,ρ,Q=>∃d,aq T f (PE.evs ρ args) d∧gP T l (ρ.setO j d) Q
theorem tH {T:cI}:∀{l:List PI} {ρ:Env} {Q:Env→Prop},gP T l ρ Q→yh T l ρ Q
 |[],ρ,Q,h=>.nil h
 |.setR t e::l,ρ,Q,h=>.cons (n0:=0) (fun _ _=>rfl) (tH h)
 |.setO t e::l,ρ,Q,h=>.cons (n0:=0) (fun _ _=>rfl) (tH h)
 |.chk e::l,ρ,Q,h=>.cons (n0:=0) (fun n _=>by simp[PI.run,h.1]) (tH h.2)
 |.call gs dst f args::l,ρ,Q,h=>by
  unfold gP at h;split at h
  ·rename_i hg;obtain⟨d,⟨n0,hn⟩,h⟩:=h;exact .cons (n0:=n0) (fun n hle=>by simp[PI.run,hg,hn n hle]) (tH h)
  ·rename_i hg;exact .cons (n0:=0) (fun n hle=>by simp[PI.run,hg]) (tH h)
 |.callc gs dst e args::l,ρ,Q,h=>by
  unfold gP at h;split at h
  ·rename_i hg;obtain⟨f,caps,d,he,⟨n0,hn⟩,h⟩:=h;exact .cons (n0:=n0) (fun n hle=>by simp[PI.run,hg,he,hn n hle]) (tH h)
  ·rename_i hg;exact .cons (n0:=0) (fun n hle=>by simp[PI.run,hg]) (tH h)
 |.mcall j f args::l,ρ,Q,h=>by
  obtain⟨d,⟨n0,hn⟩,h⟩:=h;exact .cons (n0:=n0) (fun n hle=>by simp[PI.run,hn n hle]) (tH h)
def kU (ρ:Env)(lr lo:List Nat)(Q:Out→Prop):Out→Prop
 |.next ρ'=>Q (.next (ρ.join lr lo ρ'))
 |x=>Q x
def lY (ρ:Env)(id:Nat)(lr lo:List Nat)(Q:Out→Prop):Out→Prop
 |.next ρ'=>Q (.next (ρ.join lr lo ρ'))
 |.exit bX ρ'=>if bX=id then Q (.next (ρ.join lr lo ρ')) else Q (.exit bX ρ')
 |.ret d=>Q (.ret d)
def gA (K:Env→Prop)(Q:Out→Prop):Out→Prop
 |.next ρ'=>K ρ'
 |.exit id ρ'=>Q (.exit id ρ')
 |.ret d=>Q (.ret d)
theorem aP.is {T:cI}{l:List PI}{ρ:Env}{Q:Out→Prop}(h:gP T l ρ fun ρ'=>Q (.next ρ')):aP T (.is l) ρ Q:=by
 obtain⟨ρ',hQ,n0,hn⟩:=tH h;exact⟨.next ρ',hQ,n0,fun n hle=>by simp[PC.ev,hn n hle]⟩
theorem aP.skip {T:cI}{ρ:Env}{Q:Out→Prop}(h:Q (.next ρ)):aP T .skip ρ Q:=⟨_,h,0,fun _ _=>rfl⟩
theorem aP.exit {T:cI}{ρ:Env}{id:Nat}{Q:Out→Prop}(h:Q (.exit id ρ)):aP T (.exit id) ρ Q:=⟨_,h,0,fun _ _=>rfl⟩
theorem aP.ret {T:cI}{ρ:Env}{e:PE}{Q:Out→Prop}(h:Q (.ret (e.ev ρ))):aP T (.ret e) ρ Q:=⟨_,h,0,fun _ _=>rfl⟩
theorem aP.seq {T:cI}{a b:PC}{ρ:Env}{Q:Out→Prop}(h:aP T a ρ (gA (fun ρ'=>aP T b ρ' Q) Q)):aP T (.seq a b) ρ Q:=by
 obtain⟨x,hx,n0,hn⟩:=h;cases x with
 |next ρ'=>
  obtain⟨y,hy,n1,h1⟩:=hx;exact⟨y,hy,max n0 n1,fun n hle=>by simp[PC.ev,hn n (by omega),h1 n (by omega)]⟩
 |exit id ρ'=>exact⟨_,hx,n0,fun n hle=>by simp[PC.ev,hn n hle]⟩
 |ret d=>exact⟨_,hx,n0,fun n hle=>by simp[PC.ev,hn n hle]⟩
theorem aP.ite {T:cI}{c:PE}{lr lo:List Nat}{a b:PC}{ρ:Env}{Q:Out→Prop}(h:if(c.ev ρ).b=true then aP T a ρ (kU ρ lr lo Q) else aP T b ρ (kU ρ lr lo Q)):aP T (.ite c lr lo a b) ρ Q:=by
 split at h
 all_goals
  rename_i hc;obtain⟨x,hx,n0,hn⟩:=h;cases x with
  |next ρ'=>exact⟨_,hx,n0,fun n hle=>by simp[PC.ev,hc,hn n hle]⟩
  |exit id ρ'=>exact⟨_,hx,n0,fun n hle=>by simp[PC.ev,hc,hn n hle]⟩
  |ret d=>exact⟨_,hx,n0,fun n hle=>by simp[PC.ev,hc,hn n hle]⟩
theorem aP.block {T:cI}{id:Nat}{lr lo:List Nat}{a:PC}{ρ:Env}{Q:Out→Prop}(h:aP T a ρ (lY ρ id lr lo Q)):aP T (.block id lr lo a) ρ Q:=by
 obtain⟨x,hx,n0,hn⟩:=h;cases x with
 |next ρ'=>exact⟨_,hx,n0,fun n hle=>by simp[PC.ev,hn n hle]⟩
 |exit bX ρ'=>
  simp only[lY] at hx;split at hx
  ·rename_i e;subst e;exact⟨_,hx,n0,fun n hle=>by simp[PC.ev,hn n hle]⟩
  ·rename_i e;exact⟨_,hx,n0,fun n hle=>by simp[PC.ev,hn n hle,ej e]⟩
 |ret d=>exact⟨_,hx,n0,fun n hle=>by simp[PC.ev,hn n hle]⟩
theorem aP.loop {T:cI}{lr lo:List Nat}{a:PC}{ρ:Env}{Q:Out→Prop}{α:Type}(inv:α→List D→List D→Prop)(uW:α→Nat)(s0:α)(h0:inv s0 (lr.map ρ.r) (lo.map ρ.o))
 (step:∀s vr vo,inv s vr vo→aP T a (ρ.put lr vr lo vo) (gA (fun ρ'=>∃s',uW s'<uW s∧inv s' (lr.map ρ'.r) (lo.map ρ'.o)) Q)):aP T (.loop lr lo a) ρ Q:=by
 have key:∀(m:Nat) (s:α) (vr vo:List D),uW s≤m→inv s vr vo→∃x,Q x∧∃n0,∀n k,n0≤n→n0≤k→fL (a.ev (T n) n) ρ lr lo k vr vo=some x:=by
  intro m
  induction m with
  |zero=>
   intro s vr vo hm hi;obtain⟨x,hx,n0,hn⟩:=step s vr vo hi;cases x with
   |next ρ'=>obtain⟨s',ah,_⟩:=hx;omega
   |exit id ρ'=>
    refine⟨_,hx,n0+1,fun n k hle hk=>?_⟩;obtain⟨k',rfl⟩:∃k',k=k'+1:=⟨k-1,by omega⟩
    simp[fL,hn n (by omega)]
   |ret d=>
    refine⟨_,hx,n0+1,fun n k hle hk=>?_⟩;obtain⟨k',rfl⟩:∃k',k=k'+1:=⟨k-1,by omega⟩
    simp[fL,hn n (by omega)]
  |succ m ih=>
   intro s vr vo hm hi;obtain⟨x,hx,n0,hn⟩:=step s vr vo hi;cases x with
   |next ρ'=>
    obtain⟨s',ah,cw⟩:=hx;obtain⟨y,hy,n1,h1⟩:=ih s' _ _ (by omega) cw;refine⟨y,hy,max n0 n1+1,fun n k hle hk=>?_⟩;obtain⟨k',rfl⟩:∃k',k=k'+1:=⟨k-1,by omega⟩
    simp[fL,hn n (by omega),h1 n k' (by omega) (by omega)]
   |exit id ρ'=>
    refine⟨_,hx,n0+1,fun n k hle hk=>?_⟩;obtain⟨k',rfl⟩:∃k',k=k'+1:=⟨k-1,by omega⟩
    simp[fL,hn n (by omega)]
   |ret d=>
    refine⟨_,hx,n0+1,fun n k hle hk=>?_⟩;obtain⟨k',rfl⟩:∃k',k=k'+1:=⟨k-1,by omega⟩
    simp[fL,hn n (by omega)]
 obtain⟨x,hx,n0,hn⟩:=key (uW s0) s0 _ _ (bk _) h0;exact⟨x,hx,n0,fun n hle=>by simp only[PC.ev];exact hn n n hle hle⟩
def su (ρ:Env)(lo:List Nat)(rt:Option PE)(K:List D→Prop)(Q:Out→Prop):Out→Prop
 |.next ρ'=>K (lo.map ρ'.o)
 |.exit id ρ'=>if id=cN then ∃e,rt=some e∧Q (.ret (e.ev (ρ.put [] [] lo (lo.map ρ'.o)))) else Q (.exit id (ρ.put [] [] lo (lo.map ρ'.o)))
 |.ret _=>False
theorem aP.each {T:cI}{e:PE}{ps lo:List Nat}{rt:Option PE}{a:PC}{ρ:Env}{Q:Out→Prop}(xs:List D)(he:(e.ev ρ).l=xs)(inv:Nat→List D→Prop)(h0:inv 0 (lo.map ρ.o))
 (step:∀k x vo,xs[k]?=some x→inv k vo→aP T a (ρ.put ps (partsOf ps x) lo vo) (su ρ lo rt (inv (k+1)) Q)) (done:∀vo,inv xs.length vo→Q (.next (ρ.put [] [] lo vo))):aP T (.each e ps lo rt a) ρ Q:=by
 have key:∀(r k:Nat) (vo:List D),k+r=xs.length→inv k vo→∃x,Q x∧∃n0,∀n,n0≤n→gn (a.ev (T n) n) ρ ps lo rt (xs.drop k) vo=some x:=by
  intro r
  induction r with
  |zero=>
   intro k vo hk hi;have:xs.drop k=[]:=by rw[Ll];omega
   obtain rfl:k=xs.length:=by omega
   exact⟨_,done vo hi,0,fun n _=>by rw[this];rfl⟩
  |succ r ih=>
   intro k vo hk hi;have ah:k<xs.length:=by omega
   rw[Lj ah];obtain⟨y,hy,n0,hn⟩:=step k xs[k] vo (bA ah) hi;cases y with
   |next ρ'=>
    obtain⟨z,hz,n1,h1⟩:=ih (k+1) _ (by omega) hy;exact⟨z,hz,max n0 n1,fun n hle=>by simp only[gn,hn n (by omega)];exact h1 n (by omega)⟩
   |exit id ρ'=>
    simp only[su] at hy;split at hy
    ·rename_i cG;obtain⟨e,h1,h2⟩:=hy;exact⟨_,h2,n0,fun n hle=>by subst cG;simp[gn,hn n hle,h1]⟩
    ·rename_i cG;exact⟨_,hy,n0,fun n hle=>by simp[gn,hn n hle,ej cG]⟩
   |ret d=>exact hy.elim
 obtain⟨x,hx,n0,hn⟩:=key xs.length 0 _ (by omega) h0;exact⟨x,hx,n0,fun n hle=>by simp only[PC.ev,he];exact hn n hle⟩
theorem abH {α:Type}:∀(l:List α),∃L:List (List α),∀ys,ys∈L↔ys.Perm l
 |[]=>⟨[[]],fun ys=>by simp⟩
 |x::l=>by
  obtain⟨L,hL⟩:=abH l;refine⟨L.flatMap fun ys=>(List.range (ys.length+1)).map fun i=>ys.take i++x::ys.drop i,fun zs=>?_⟩;simp only[mR,dM,bP];constructor
  ·rintro⟨ys,hy,i,_,rfl⟩;have h1:=(hL ys).1 hy;refine(List.perm_middle).trans (.cons x ?_);rw[Lw];exact h1
  ·intro h;have hx:x∈zs:=h.symm.subset (dq ..);obtain⟨s,t,rfl⟩:=Vk hx;refine⟨s++t,(hL _).2 ?_,s.length,by simp;omega,by simp⟩;exact(List.perm_cons x).1 ((List.perm_middle).symm.trans h)
theorem aP.meach {T:cI}{J:Nat}{ps cO lo:List Nat}{a:PC}{ρ:Env}{Q:Out→Prop}(es:List (D×D))(he:ρ.o J=.tup [.list [],.map es])(inv:List D→List D→Prop)(h0:inv [] (lo.map ρ.o))
 (step:∀done x rest vo,(done++x::rest).Perm (il (.map es))→inv done vo→aP T a ((ρ.put ps (cO.map x.tget) lo vo).setO J (.tup [.list (done++[x]),.map es])) (fun y=>∃ρ',y=.next ρ'∧inv (done++[x]) (lo.map ρ'.o)))
 (last:∃vo,(∀done,done.Perm (il (.map es))→∀mM,inv done mM→mM=vo)∧Q (.next (ρ.put [] [] lo vo))):aP T (.meach J ps cO lo a) ρ Q:=by
 obtain⟨vo,hl,hQ⟩:=last;have key:∀(xs done:List D) (vs:List D),(done++xs).Perm (il (.map es))→inv done vs→∃n0,∀n,n0≤n→lE (a.ev (T n) n) ρ J (.map es) ps cO lo xs done vs=some vo:=by
  intro xs
  induction xs with
  |nil=>intro done vs hp hi;exact⟨0,fun n _=>by rw[hl done (by simpa using hp) vs hi];rfl⟩
  |cons x xs ih=>
   intro done vs hp hi;obtain⟨y,⟨ρ',rfl,cw⟩,n0,hn⟩:=step done x xs vs hp hi;obtain⟨n1,h1⟩:=ih (done++[x]) _ (by simpa using hp) cw;exact⟨max n0 n1,fun n hle=>by simp only[lE,hn n (by omega)];exact h1 n (by omega)⟩
 have ls:∀(L:List (List D)),(∀ys,ys∈L→ys.Perm (il (.map es)))→∃n0,∀n,n0≤n→∀ys,ys∈L→lE (a.ev (T n) n) ρ J (.map es) ps cO lo ys [] (lo.map ρ.o)=some vo:=by
  intro L
  induction L with
  |nil=>intro _;exact⟨0,fun n _ ys hy=>by cases hy⟩
  |cons y L ih=>
   intro hL;obtain⟨n0,fT⟩:=ih fun ys hy=>hL ys (dj _ hy);obtain⟨n1,h1⟩:=key y [] _ (by simpa using hL y (dq ..)) h0;refine⟨max n0 n1,fun n hle ys hy=>?_⟩;rcases cD.1 hy with e|hy
   ·subst e;exact h1 n (by omega)
   ·exact fT n (by omega) ys hy
 obtain⟨L,hL⟩:=abH (il (.map es));obtain⟨n0,hn⟩:=ls L fun ys hy=>(hL ys).1 hy;refine⟨_,hQ,n0,fun n hle=>?_⟩;simp only[PC.ev,xE];refine⟨vo,⟨by rw[he];rfl,fun ys hy=>?_⟩,rfl⟩;rw[he] at hy ⊢;exact hn n hle ys ((hL ys).2 hy)
theorem bounded {Q:Nat→Nat→Prop}:∀(L:Nat),(∀m,m≤L→∃n0,∀n,n0≤n→Q m n)→∃n0,∀n,n0≤n→∀m,m≤L→Q m n
 |0,h=>by
  obtain⟨n0,hn⟩:=h 0 (bk _)
  exact⟨n0,fun n hle m hm=>by obtain rfl:m=0:=by omega
                              exact hn n hle⟩
 |L+1,h=>by
  obtain⟨n0,hn⟩:=bounded L fun m hm=>h m (by omega);obtain⟨n1,h1⟩:=h (L+1) (bk _);refine⟨max n0 n1,fun n hle m hm=>?_⟩;by_cases e:m=L+1
  ·subst e;exact h1 n (by omega)
  ·exact hn n (by omega) m (by omega)
theorem aq.of_pc {tab:Nat→Option PC}{ext:Nat→Option (aQ→List D→Option D)}{f:Nat}{pc:PC}{ds:List D}{d:D}(hx:ext f=none)(ht:tab f=some pc)(h:aP (dV tab ext) pc (kL ds) (fun x=>x=.ret d)):aq (dV tab ext) f ds d:=by
 obtain⟨x,rfl,n0,hn⟩:=h;refine⟨n0+1,fun n hle=>?_⟩;obtain⟨k,rfl⟩:∃k,n=k+1:=⟨n-1,by omega⟩
 simp[dV,hx,ht,hn k (by omega)]
theorem aq.of_ext {tab:Nat→Option PC}{ext:Nat→Option (aQ→List D→Option D)}{f:Nat}{g:aQ→List D→Option D}{ds:List D}{d:D}(hx:ext f=some g)(h:∃n0,∀n,n0≤n→g (dV tab ext n) ds=some d):aq (dV tab ext) f ds d:=by
 obtain⟨n0,hn⟩:=h;refine⟨n0+1,fun n hle=>?_⟩;obtain⟨k,rfl⟩:∃k,n=k+1:=⟨n-1,by omega⟩
 simp[dV,hx,hn k (by omega)]
def FP (T:cI)(xs:List D)(m:Nat):cI:=fun n=>yldΦ (T n) xs m
theorem aq.yld {T:cI}{xs:List D}{m f:Nat}{ds:List D}{d:D}(h:aq T f ds d)(hf:f≠mO):aq (FP T xs m) f ds d:=by
 obtain⟨n0,hn⟩:=h;exact⟨n0,fun n hle=>by simp[FP,yldΦ,hf,hn n hle]⟩
theorem aq.answer {T:cI}{xs l:List D}{m i:Nat}(hl:l=xs.take (i+1))(hi:i<xs.length)(hm:i≤m):aq (FP T xs m) mO [.list l] (.v (.bool (decide (i<m)))):=by
 subst hl;refine⟨0,fun n _=>?_⟩;have h1:(xs.take (i+1)).length=i+1:=by rw[dE];omega
 simp only[FP,yldΦ,if_true,h1];rw[if_pos ⟨by omega,by omega,trivial⟩];rfl
theorem aq.of_it {tab:Nat→Option PC}{ext:Nat→Option (aQ→List D→Option D)}{f:Nat}{pc:PC}{J k:Nat}{spec:List D→List D}{ds:List D}(hx:ext f=some (DY pc J k spec))(hk:∀x,x∈spec ds→∃ds',x=.tup ds'∧ds'.length=k)
 (h:∀m,m≤(spec ds).length→aP (FP (dV tab ext) (spec ds) m) pc (zC J ds) (fun x=>x=.ret (.list ((spec ds).take (m+1))))):aq (dV tab ext) f ds (.list (spec ds)):=by
 refine aq.of_ext hx ?_
 obtain⟨n0,hn⟩:=bounded (Q:=fun m n=>pc.ev (yldΦ (dV tab ext n) (spec ds) m) n (zC J ds)=some (.ret (.list ((spec ds).take (m+1))))) (spec ds).length (fun m hm=>by
  obtain⟨x,rfl,n0,hn⟩:=h m hm;exact⟨n0,hn⟩)
 refine⟨n0,fun n hle=>?_⟩;unfold DY;rw[if_pos];exact⟨fun m hm=>⟨n,hn n hle m hm⟩,hk⟩
theorem aq.fnOK {C:Ctx}{tab:Nat→Option PC}{ext:Nat→Option (aQ→List D→Option D)}(h:TabOK C tab ext){f:Nat}{s:Sig}{ds:List D}{d:D}(hs:C.sig f=some s)(hr:aq (dV tab ext) f ds d)(hm:pW s.mode=false:=by rfl):iv C f s ds d:=by
 obtain⟨n0,hn⟩:=hr;exact((VA h n0).1 f ds d (hn n0 (bk _)) s hs).1 hm
def Le (Φ Ψ:aQ):Prop:=∀f ds d,Φ f ds=some d→Ψ f ds=some d
theorem PI.run_mono {Φ Ψ:aQ}(h:Le Φ Ψ){p:PI}{ρ ρ':Env}(hr:p.run Φ ρ=some ρ'):p.run Ψ ρ=some ρ':=by
 cases p with
 |setR t e=>exact hr
 |setO t e=>exact hr
 |chk e=>exact hr
 |call gs d f aa=>
  simp only[PI.run] at hr ⊢;cases hg:holds gs ρ<;>simp only[hg,cond_true,cond_false] at hr ⊢
  ·exact hr
  ·simp only[aA] at hr ⊢;obtain⟨x,hx,e⟩:=hr;exact⟨x,h _ _ _ hx,e⟩
 |callc gs d f aa=>
  simp only[PI.run] at hr ⊢;cases hg:holds gs ρ<;>simp only[hg,cond_true,cond_false] at hr ⊢
  ·exact hr
  ·split at hr
   ·simp only[aA] at hr ⊢;obtain⟨x,hx,e⟩:=hr;exact⟨x,h _ _ _ hx,e⟩
   ·cases hr
 |mcall j f aa=>
  simp only[PI.run,aA] at hr ⊢;obtain⟨x,hx,e⟩:=hr;exact⟨x,h _ _ _ hx,e⟩
theorem PI.runs_mono {Φ Ψ:aQ}(h:Le Φ Ψ):∀{l:List PI} {ρ ρ':Env},PI.runs Φ l ρ=some ρ'→PI.runs Ψ l ρ=some ρ'
 |[],ρ,ρ',hr=>hr
 |p::l,ρ,ρ',hr=>by
  simp only[PI.runs,av] at hr ⊢;obtain⟨x,hx,e⟩:=hr;exact⟨x,PI.run_mono h hx,PI.runs_mono h e⟩
theorem Zs {b c:Env→Option Out}(h:∀ρ x,b ρ=some x→c ρ=some x){ρ:Env}{lr lo:List Nat}:∀{n m:Nat} {vr vo:List D} {x:Out},n≤m→fL b ρ lr lo n vr vo=some x→fL c ρ lr lo m vr vo=some x
 |0,m,vr,vo,x,_,hr=>by simp[fL] at hr
 |n+1,m,vr,vo,x,hle,hr=>by
  obtain⟨m,rfl⟩:∃k,m=k+1:=⟨m-1,by omega⟩
  simp only[fL] at hr ⊢;cases hb:b (ρ.put lr vr lo vo) with
  |none=>rw[hb] at hr;cases hr
  |some y=>
   rw[h _ _ hb];rw[hb] at hr;cases y with
   |next ρ'=>exact Zs h (by omega) hr
   |exit id ρ'=>exact hr
   |ret d=>exact hr
theorem Wr {b c:Env→Option Out}(h:∀ρ x,b ρ=some x→c ρ=some x){ρ:Env}{ps lo:List Nat}{rt:Option PE}:∀{xs vo:List D} {x:Out},gn b ρ ps lo rt xs vo=some x→gn c ρ ps lo rt xs vo=some x
 |[],vo,x,hr=>hr
 |y::xs,vo,x,hr=>by
  simp only[gn] at hr ⊢;cases hb:b (ρ.put ps (partsOf ps y) lo vo) with
  |none=>rw[hb] at hr;cases hr
  |some z=>
   rw[h _ _ hb];rw[hb] at hr;cases z with
   |next ρ'=>exact Wr h hr
   |exit id ρ'=>exact hr
   |ret d=>cases hr
theorem abG {b c:Env→Option Out}(h:∀ρ x,b ρ=some x→c ρ=some x){ρ:Env}{J:Nat}{es:D}{ps cO lo:List Nat}:∀{xs done vo mM:List D},lE b ρ J es ps cO lo xs done vo=some mM→lE c ρ J es ps cO lo xs done vo=some mM
 |[],_,_,_,hr=>hr
 |x::xs,done,vo,mM,hr=>by
  simp only[lE] at hr ⊢;split at hr
  ·rename_i ρ' hb;rw[h _ _ hb];exact abG h hr
  ·cases hr
theorem PC.ev_mono {Φ Ψ:aQ}(h:Le Φ Ψ){n m:Nat}(hle:n≤m):∀{c:PC} {ρ:Env} {x:Out},c.ev Φ n ρ=some x→c.ev Ψ m ρ=some x:=by
 intro c
 induction c with
 |skip=>intro ρ x hr;exact hr
 |is l=>
  intro ρ x hr;simp only[PC.ev,aA] at hr ⊢;obtain⟨y,hy,e⟩:=hr;exact⟨y,PI.runs_mono h hy,e⟩
 |seq a b bm dC=>
  intro ρ x hr;simp only[PC.ev] at hr ⊢;cases ha:a.ev Φ n ρ with
  |none=>rw[ha] at hr;cases hr
  |some y=>rw[bm ha];rw[ha] at hr;cases y<;>first|exact dC hr|exact hr
 |ite c lr lo a b bm dC=>
  intro ρ x hr;simp only[PC.ev] at hr ⊢;cases hc:(c.ev ρ).b<;>simp only[hc,cond_true,cond_false] at hr ⊢
  ·cases ha:b.ev Φ n ρ with
   |none=>rw[ha] at hr;cases hr
   |some y=>rw[dC ha];rw[ha] at hr;exact hr
  ·cases ha:a.ev Φ n ρ with
   |none=>rw[ha] at hr;cases hr
   |some y=>rw[bm ha];rw[ha] at hr;exact hr
 |block id lr lo a bm=>
  intro ρ x hr;simp only[PC.ev] at hr ⊢;cases ha:a.ev Φ n ρ with
  |none=>rw[ha] at hr;cases hr
  |some y=>rw[bm ha];rw[ha] at hr;exact hr
 |loop lr lo a bm=>intro ρ x hr;exact Zs (fun ρ x=>bm) hle hr
 |exit id=>intro ρ x hr;exact hr
 |ret e=>intro ρ x hr;exact hr
 |each e ps lo rt a bm=>intro ρ x hr;exact Wr (fun ρ x=>bm) hr
 |meach J ps cO lo a bm=>
  intro ρ x hr;simp only[PC.ev,xE] at hr ⊢;obtain⟨vo,⟨h1,h2⟩,rfl⟩:=hr;exact⟨vo,⟨h1,fun ys hy=>abG (fun ρ x=>bm) (h2 ys hy)⟩,rfl⟩
theorem Env.setR_r (ρ:Env)(t u:Nat)(d:D):(ρ.setR t d).r u=if u=t then d else ρ.r u:=by simp only[Env.setR,eV]
theorem Env.setO_o (ρ:Env)(t u:Nat)(d:D):(ρ.setO t d).o u=if u=t then d else ρ.o u:=by simp only[Env.setO,eV]
theorem Env.join_r (ρ ρ':Env)(lr lo:List Nat)(u:Nat):(ρ.join lr lo ρ').r u=if u∈lr then ρ'.r u else ρ.r u:=by simp only[Env.join,Env.put,tl]
theorem Env.join_o (ρ ρ':Env)(lr lo:List Nat)(u:Nat):(ρ.join lr lo ρ').o u=if u∈lo then ρ'.o u else ρ.o u:=by simp only[Env.join,Env.put,tl]
theorem JN (f:Nat→D)(i:Nat)(is:List Nat)(x:D)(xs:List D)(u:Nat):putL f (i::is) (x::xs) u=if u=i then x else putL f is xs u:=by simp only[putL,eV]
theorem JO (f:Nat→D)(xs:List D)(u:Nat):putL f [] xs u=f u:=by cases xs<;>rfl
theorem akL (g:Nat×Bool)(gs:List (Nat×Bool))(ρ:Env):holds (g::gs) ρ=((ρ.r g.1).b==g.2&&holds gs ρ):=rfl
theorem D.cells_none:D.none.cells=[.none]:=rfl
theorem D.tget_tup (x:List D)(i:Nat):(D.tup x).tget i=x.getD i .none:=rfl
theorem D.c_agg (x:List D)(i:Nat):(D.agg x).c i=x.getD i .none:=rfl
end Cx
