/-
  Shared texts of this claim.
-/
import Derived.Test.YtbagcfebdgiihaaGreatDoorSAG
import Derived.Below
import Derived.ChangeSame
import Derived.WalkKit
import Derived.ProofKit
import Derived.OpenShut
import Derived.Carry
import Derived.JoinedCond
set_option linter.unusedSimpArgs false
set_option linter.unusedVariables false
noncomputable section
namespace Cx
open Go Go.RowKit
def Ut (m:Nat)(s:Sig):Snap:=⟨s.args.map .dat++List.replicate (m-s.args.length) .none,[]⟩
def jG (ds:List D):Env:=⟨fun t=>ds.getD t .none,fun _=>.none⟩
def rU (C:Ctx)(fn:Func)(s:Sig)(ids:List Nat)(S0:Snap):Option PC:=
 match fn.body with
 |some c=>
  (comp C fn s fn.ntmps ids (IT C fn.ntmps ids) false c S0).bind fun r=>
    match r.out with
    |none=>some r.pc
    |some S=>(we C fn s (S.st ids)).map fun e=>.seq r.pc (.ret e)
 |none=>none
def K0 (m:Nat)(shs:List Sh)(obs:List (Nat×Ob))(ids:List Nat):Snap:=⟨shs++List.replicate (m-shs.length) .none,ids.map (dF obs)⟩
def FZ (shs:List Sh)(obs:List (Nat×Ob))(ds:List D):Env:=kU obs ds (ds.drop shs.length)
def Ct (l:List Nat):Nat→List Sh→Bool
 |_,[]=>true
 |t,s::ss=>(pC s|| !eJ l t)&&Ct l (t+1) ss
def zB:List (Nat×Ob)→Nat→List PI
 |[],_=>[]
 |x::l,k=>zB l (k+1)++[.setO x.1 (.r k)]
theorem aaR {Φ:aJ}:∀(l:List (Nat×Ob)) (k:Nat) (ρ:Env) (ds:List D),(∀i,ρ.r (k+i)=ds.getD i .none)→(∀j,ρ.o j=.none)→PI.runs Φ (zB l k) ρ=some ⟨ρ.r,fun j=>l0 l ds j⟩
 |[],k,ρ,ds,h,ho=>by
  simp only[zB,PI.runs]
  congr 1
  cases ρ with|mk r o=>congr 1;funext j;exact ho j
 |x::l,k,ρ,ds,h,ho=>by
  simp only[zB,p5]
  rw[aaR l (k+1) ρ ds.tail (fun i=>by
   have:=h (i+1);rw[tW,Ae 1 i,this];cases ds<;>simp) ho]
  simp only[oL,PI.runs,PI.run,PE.ev,Env.setO]
  congr 1
  congr 1
  funext j;rw[fg];have h0:=h 0;simp only[ml] at h0;cases ds with
  |nil=>
   have e:∀m j,l0 m [] j=D.none:=fun m j=>by cases m<;>rfl
   rw[h0];split<;>simp[e]
  |cons d ds=>
   simp only[l0,List.tail_cons];by_cases hj:j=x.1
   ·subst hj;rw[if_pos rfl,jC,h0];rfl
   ·rw[if_neg hj,eQ (fun e=>hj e.symm)];rfl
theorem ao3 {Φ:aJ}(shs:List Sh)(obs:List (Nat×Ob))(ds:List D):PI.runs Φ (zB obs shs.length) (jG ds)=some (FZ shs obs ds):=by
 rw[aaR obs shs.length (jG ds) (ds.drop shs.length) (fun i=>by simp[jG,aI]) (fun j=>rfl)];rfl
def EA (fn:Func):List Nat:=match fn.body with|some c=>cm c|none=>[]
def sX:List (Nat×Ob)→Bool
 |[]=>true
 |x::l=>(match x.2 with|.tr=>false|_=>true)&&sX l
def kG (C:Ctx)(fn:Func)(s:Sig)(ids:List Nat):Option PC:=
 match C.yl with
 |none=>
  match s.mode with
  |.ob shs obs=>bif Nat.ble shs.length fn.ntmps&&Ct (EA fn) 0 shs&&shs.all rn&&sX obs then(rU C fn s ids (K0 fn.ntmps shs obs ids)).map fun pc=>.seq (.is (zB obs shs.length)) pc else none
  |_=>bif Nat.ble s.args.length fn.ntmps then rU C fn s ids (Ut fn.ntmps s) else none
 |some _=>none
theorem W2:∀(ids:List Nat) (j:Nat),cW ids [] j=.dead
 |[],_=>rfl
 |_::_,_=>rfl
theorem KK {C:Ctx}{Φ:aJ}(aW:dy C)(hΦ:cY C Φ)(dW:fA C Φ){fn:Func}{s:Sig}{ids:List Nat}{S0:Snap}{pc:PC}{c:Code}(hb:fn.body=some c)(hc:rU C fn s ids S0=some pc){w0:World}{σ0:Base}(lL:σ0.fin)(hC:CtxOK C σ0)(hY:qn C Φ w0 σ0)
 {N:Nat} {ρ:Env} {d:D} {a:Act} {w:World} (hn:a.tmps.size=fn.ntmps) (hg:Good C w0 σ0 (S0.st ids) ρ (fun _=>False) a w) (he:pc.ev Φ N ρ=some (.ret d)):
 c.wpIn (FR none) 0 C.P (fun e a' w'=>(e=.normal∨e=.ret)∧oM C w0 σ0 fn s d a'.tmps a'.defers w'∧SameBut (fun t=>t∈cm c) a a') a w:=by
 unfold rU at hc;rw[hb] at hc;simp only[ar] at hc;obtain⟨r,hr,hc⟩:=hc;have Mx:=fun x hx=>adD (fn:=fn) (s:=s) (N:=N) dW (aow (n:=fn.ntmps) (ids:=ids) aW hΦ) c false S0 r hr none w0 σ0 (fun t=>t∈cm c) ρ x a w (fun _=>⟨rfl,lL⟩) hC hY (fun _ h=>h) hn hg hx;split at hc
 ·rename_i ji;cases hc;refine wpIn_mono (Mx (.ret d) he) fun e a' w' ho=>?_;cases e with
  |normal=>obtain⟨_,_,h,_⟩:=ho;cases h
  |exit id=>obtain⟨_,_,h,_⟩:=ho;cases h
  |ret=>obtain⟨d',h,h2⟩:=ho;cases h;exact⟨.inr rfl,h2⟩
  |_=>exact ho.elim
 ·rename_i S ji;simp only[ax] at hc;obtain⟨pe,sB,rfl⟩:=hc;simp only[PC.ev] at he;split at he
  ·rename_i ρ1 h1;cases he;refine wpIn_mono (Mx (.next ρ1) h1) fun e a' w' ho=>?_;cases e with
   |normal=>
    obtain⟨ρ2,S2,e1,e2,nR,gE⟩:=ho;cases e1;rw[ji] at e2;cases e2;obtain⟨σ2,own,hv,hi⟩:=gE;exact⟨.inl rfl,Inv.retD hC (fun _=>rfl) lL sB _ hi rfl,nR⟩
   |exit id=>obtain⟨_,_,h,_⟩:=ho;cases h
   |ret=>obtain⟨d',h,h2⟩:=ho;cases h
   |_=>exact ho.elim
  ·rename_i az;refine wpIn_mono (Mx (.ret d) he) fun e a' w' ho=>?_;cases e with
   |normal=>obtain⟨_,_,h,_⟩:=ho;cases h
   |exit id=>obtain⟨_,_,h,_⟩:=ho;cases h
   |ret=>obtain⟨d',h,h2⟩:=ho;cases h;exact⟨.inr rfl,h2⟩
   |_=>exact ho.elim
theorem oM.leaves {C:Ctx}{w0:World}{σ0:Base}{fn:Func}{s:Sig}{d:D}{tmps:Array Value}{R:Ending→World→Prop}(hR:∀w',JP C w0 σ0 fn s d {tmps:=tmps,defers:=[]} w'→∃v,(results fn tmps).run C.P w'=.ok v w'∧R (.returned v) w'):
 ∀(ds:List Deferred) (w:World),oM C w0 σ0 fn s d tmps ds w→LeavesInM (FR none) 0 C.P fn tmps R ds .returning w
 |[],w,h=>hR w h
 |x::ds,w,⟨D,h1,h2,h3⟩=>⟨by simp,.inl ⟨D,_,h1,run_takeDeferred h2,oM.leaves hR ds _ h3⟩⟩
theorem aeT {C:Ctx}{σ:Im}{w:World}{args:Array Value}{ds:List D}{s:Sig}{m:Nat}{ids:List Nat}(au:σ.ok w)(ha:na C σ s.args args.toList ds):
 Good C w (Base.mk0 σ w.heap.size) ((Ut m s).st ids) (jG ds) (fun _=>False) {tmps:=args++Array.replicate (m-args.size) undef,defers:=[]} w:=by
 obtain⟨h1,h2,h3⟩:=ha;have aN:args.size=s.args.length:=by simpa using h1
 refine⟨σ,fun _=>none,fun _=>undef,trivial,au,.refl σ,fun _ k e=>(au.m k _ e).lt,fun _ _ _ h=>.inl h,fun _ _ h=>.inl h,.refl _ _,aU _,(fun k j h=>by cases h),fun t=>?_,fun j=>?_,fun t gs s' e=>absurd e (Snap.noOpt _ _ t gs s'),
  .none,fun _=>False,fun _=>False,⟨⟨fun _=>id,fun _=>id⟩,(fun k j h=>by cases h),fun _ _ _ _=>id,fun _ _ _=>id,fun _ _ _=>id⟩,fun j hj=>?_⟩
 ·show aF C _ _ σ _ (ct ((s.args.map Sh.dat++List.replicate (m-s.args.length) Sh.none).getD t .none)) _ _;rw[aI];by_cases ht:t<s.args.length
  ·rw[mi (by simpa using ht),cl,be ht];simp only[jE,ly,ct];have:=h3 t _ (be ht);have e1:(args++Array.replicate (m-args.size) undef).getD t undef=args.toList.getD t undef:=by
        simp only[fi,aI];rw[SG (by omega)];simp
   show aF C _ _ σ _ (.dat _) ((args++Array.replicate (m-args.size) undef).getD t undef) (ds.getD t .none);rw[e1];exact this
  ·rw[mj (by simpa using ht),SX];split<;>trivial
 ·show bW C _ _ σ _ _ w _ j (cW ids [] j);rw[W2];trivial
 ·change cW ids [] j=.tr at hj;rw[W2] at hj;cases hj
theorem KL {C:Ctx}{Φ:aJ}(aW:dy C)(hΦ:cY C Φ)(dW:fA C Φ){f:Nat}{fn:Func}{s:Sig}{ids:List Nat}{pc:PC}(hf:C.P.funcs[f]?=some fn)(hc:kG C fn s ids=some pc){N:Nat}{ds:List D}{d:D}(cI:pE s.mode=false)
 (he:pc.ev Φ N (jG ds)=some (.ret d)):j2 C f s ds d:=by
 intro σ w args au hC ha;unfold kG at hc;split at hc
 case h_2=>cases hc
 rename_i ko;split at hc
 case h_1=>rename_i e;rw[e] at cI;cases cI
 cases hle:Nat.ble s.args.length fn.ntmps<;>simp only[hle,cond_true,cond_false] at hc
 ·cases hc
 have BQ:=j3 hle;have aN:args.size=s.args.length:=by simpa using ha.1
 cases hb:fn.body with
 |none=>unfold rU at hc;rw[hb] at hc;cases hc
 |some c=>
 refine(callsIn_wide (n:=0)).1 (callsIn_of_wp_marks (F:=FR none) hf hb trivial ?_);have hg:=aeT (C:=C) (m:=fn.ntmps) (ids:=ids) au ha;have hn:(args++Array.replicate (fn.ntmps-args.size) undef).size=fn.ntmps:=by simp;omega
 refine wpIn_mono (KK aW hΦ dW hb hc (σ0:=Base.mk0 σ w.heap.size) trivial hC (fun J ys e=>by rw[ko] at e;cases e) hn hg he) fun e a' w' ho=>?_
 have main:=oM.leaves (R:=fun e w'=>∃v σ',e=.returned v∧σ.le σ'∧σ'.ok w'∧Below w.heap.size w w'∧
  (∀k o x,σ'.c k o=some x→σ.c k o=some x∨w.heap.size≤k)∧(∀k x,σ'.m k=some x→σ.m k=some x∨w.heap.size≤k)∧nq C s σ' w w' v d) (fun w2 B9=>by
  obtain⟨v,σ',_,h2,h3,h4,h5,h6,h7,h8⟩:=B9;exact⟨v,h2,v,σ',rfl,h3,h4,h5,h6,h7,h8⟩) _ _ ho.2.1
 rcases ho.1 with rfl|rfl<;>exact main
def Base.mkO (σ:Im)(own:Nat→Option Nat)(w:World)(cx:Nat→Prop):Base:=
 {σ with
  B:=0
  fin:=True
  F:=fun _ fx jd w'=>(∀k,fx k↔(k<w.heap.size∧own k=none))∧(∀k,jd k↔(fx k∧cx k))∧w.heap.size≤w'.heap.size∧∀k,fx k→w'.heap[k]?=w.heap[k]?
  lt:=fun t' fx cx w' h k hk=>qj ((h.1 k).1 hk).1 h.2.2.1
  sub:=fun t' fx cx w' h k hk=>((h.2.1 k).1 hk).1
  keep:=fun t' fx cx w' jw h hb hs=>⟨h.1,h.2.1,gy h.2.2.1 hb.size,fun k hk=>(hs k hk).trans (h.2.2.2 k hk)⟩}
theorem WL {l:List Nat}:∀{shs:List Sh} {k:Nat},Ct l k shs=true→∀(t:Nat) (s:Sh),shs[t]?=some s→pC s=false→(k+t)∉l
 |[],k,_,t,s,h,_=>by simp at h
 |x::shs,k,hk,t,s,h,hd=>by
  simp only[Ct,aq,jy,jx] at hk;cases t with
  |zero=>
   simp at h;subst h;rcases hk.1 with h1|h1
   ·rw[hd] at h1;cases h1
   ·intro hm;rw[ml] at hm;rw[(nX _ _).2 hm] at h1;cases h1
  |succ t=>
   simp at h;have:=WL hk.2 t s h hd
   rwa [tW,Ae 1 t] at this
theorem Nt (obs:List (Nat×Ob))(j:Nat):∀ids:List Nat,cW ids (ids.map (dF obs)) j=.dead∨cW ids (ids.map (dF obs)) j=dF obs j
 |[]=>.inl rfl
 |i::is=>by
  simp only[eB,cW];cases hb:Nat.beq i j
  ·exact Nt obs j is
  ·right;rw[aw hb];rfl
theorem XG:∀{l:List (Nat×Ob)},sX l=true→∀x,x∈l→x.2≠.tr
 |[],_,x,hx=>by cases hx
 |y::l,h,x,hx=>by
  simp only[sX,aq] at h;rcases cG.1 hx with rfl|hx
  ·intro e;rw[e] at h;cases h.1
  ·exact XG h.2 x hx
theorem XH:∀{l:List (Nat×Ob)},sX l=true→∀j,dF l j≠.tr
 |[],_,j,e=>by cases e
 |x::l,h,j,e=>by
  simp only[sX,aq] at h;simp only[dF] at e;cases hb:Nat.beq x.1 j<;>simp only[hb,cond_true,cond_false] at e
  ·exact XH h.2 j e
  ·have h1:=h.1;rw[e] at h1;cases h1
theorem aeS {C:Ctx}{σ:Im}{own:Nat→Option Nat}{hv:Nat→Value}{w w0:World}{args:Array Value}{cx:Nat→Prop}{shs:List Sh}{obs:List (Nat×Ob)}{ds:List D}{m:Nat}{ids:List Nat}(hN:w0.heap.size≤w.heap.size)(Bv:Below 0 w0 w)(au:σ.ok w)(bm:∀k,σ.m k≠some cL)(aN:args.size=shs.length)
 (bt:∀k j,own k=some j→w0.heap.size≤k∧k<w.heap.size∧(∀o,σ.c k o=none)∧σ.m k=none) (fV:∀k,cx k→k<w.heap.size∧own k=none∧(∀o,σ.c k o=none)∧σ.m k=none) (q6:sX obs=true) (eI:shs.all rn=true)
 (h1:∀t,aF C (fa shs obs) (FZ shs obs ds) σ hv (shs.getD t .none) (args.getD t undef) (ds.getD t .none)) (h2:∀j,bW C (fa shs obs) (FZ shs obs ds) σ own hv w w0.heap.size j (dF obs j)):
 Good C w0 (Base.mkO σ own w cx) ((K0 m shs obs ids).st ids) (FZ shs obs ds) (fun _=>False) {tmps:=args++Array.replicate (m-args.size) undef,defers:=[]} w:=by
 have sq:Compat (fa shs obs) hv ((K0 m shs obs ids).st ids) hv:=⟨fun _=>aU _,fun _ _=>rfl⟩
 refine⟨σ,own,hv,trivial,au,.refl σ,fun _ k e=>absurd e (bm k),fun _ _ _ h=>.inl h,fun _ _ h=>.inl h,Bv,np _,bt,fun t=>?_,fun j=>?_,fun t gs s' e=>absurd e (Snap.noOpt _ _ t gs s'),
  .none,(fun k=>k<w.heap.size∧own k=none),cx,⟨⟨fun _=>Iff.rfl,fun k=>⟨fun h=>⟨⟨(fV k h).1,(fV k h).2.1⟩,h⟩,fun h=>h.2⟩,aU _,fun _ _=>rfl⟩,(fun k j h hf=>by rw[hf.2] at h;cases h),(fun k o x e hc=>by rw[(fV k hc).2.2.1 o] at e;cases e),(fun k x e hc=>by rw[(fV k hc).2.2.2] at e;cases e),fun k e=>absurd e (bm k)⟩,fun j hj=>?_⟩
 ·show aF C _ _ σ _ (ct ((shs++List.replicate (m-shs.length) Sh.none).getD t .none)) _ _;refine Jt ?_;rw[aI];by_cases ht:t<shs.length
  ·rw[mi ht];have:=h1 t;rw[aI (l:=shs)] at this;have e1:(args++Array.replicate (m-args.size) undef).getD t undef=args.getD t undef:=by
        simp only[fi];rw[SG (by omega)]
   show aF C _ _ σ _ _ ((args++Array.replicate (m-args.size) undef).getD t undef) (ds.getD t .none);rw[e1];refine aF.mono' (.refl σ) sq (fun gs s' e=>?_) this;have hp:=df.1 eI _ (cM ht);rw[be ht] at e;simp only[ly] at e;rw[e] at hp;cases hp
  ·rw[mj (by omega),SX];split<;>trivial
 ·show bW C _ _ σ _ _ w _ j (cW ids (ids.map (dF obs)) j);rcases Nt obs j ids with e|e
  ·rw[e];trivial
  ·rw[e];exact(h2 j).mono (.refl σ) sq rfl rfl (fun k hk=>⟨hk,rfl⟩)
 ·change cW ids (ids.map (dF obs)) j=.tr at hj;rcases Nt obs j ids with e|e
  ·rw[e] at hj;cases hj
  ·rw[e] at hj;exact absurd hj (XH q6 j)
def FW (w:World)(N:Nat):World:={w with heap:=w.heap.extract 0 N}
theorem adx {C:Ctx}{Φ:aJ}(aW:dy C)(hΦ:cY C Φ)(dW:fA C Φ){f:Nat}{fn:Func}{s:Sig}{ids:List Nat}{pc:PC}(hf:C.P.funcs[f]?=some fn)(hc:kG C fn s ids=some pc){N:Nat}{ds:List D}{d:D}{shs:List Sh}{obs:List (Nat×Ob)}(cI:s.mode=.ob shs obs)
 (he:pc.ev Φ N (jG ds)=some (.ret d)):eM C f shs obs s.res ds d:=by
 unfold kG at hc;split at hc
 case h_2=>cases hc
 rename_i ko;rw[cI] at hc;simp only at hc;cases hle:(Nat.ble shs.length fn.ntmps&&Ct (EA fn) 0 shs&&shs.all rn&&sX obs)<;>simp only[hle,cond_true,cond_false] at hc
 ·cases hc
 simp only[aq] at hle;obtain⟨⟨⟨l1,l2⟩,l3⟩,l4⟩:=hle;refine eM.of (XG l4) ?_;intro B σ own hv w args cx _ au hC bm hB aN bt fV h1 h2;simp only[ax] at hc;obtain⟨pc,hc,rfl⟩:=hc;simp only[PC.ev,ao3,jE] at he;have BQ:=j3 l1;cases hb:fn.body with
 |none=>unfold rU at hc;rw[hb] at hc;cases hc
 |some c=>
 have br:EA fn=cm c:=by unfold EA;rw[hb]
 rw[br] at l2;refine(callsIn_wide (n:=0)).1 (callsIn_of_wp_marks (F:=FR none) hf hb trivial ?_);have pB:(FW w B).heap.size=B:=by simp[FW];omega
 have Bv:Below 0 (FW w B) w:=⟨rfl,rfl,rfl,by rw[pB];exact hB,fun k hk=>by omega⟩
 have hg:=aeS (C:=C) (m:=fn.ntmps) (ids:=ids) (w0:=FW w B) (cx:=cx) (by rw[pB];exact hB) Bv au bm aN (by rw[pB];exact bt) fV l4 l3 h1 (by rw[pB];exact h2);have hn:(args++Array.replicate (fn.ntmps-args.size) undef).size=fn.ntmps:=by simp;omega
 refine wpIn_mono (KK aW hΦ dW hb hc (σ0:=Base.mkO σ own w cx) trivial hC (fun J ys e=>by rw[ko] at e;cases e) hn hg he) fun e a' w' ho=>?_;obtain⟨lK,B9,gH⟩:=ho
 have main:=oM.leaves (R:=fun e w'=>∃v σ' own' hv' dr os,e=.returned v∧d=.tup (dr::os)∧os.length=obs.length∧σ.le σ'∧σ'.ok w'∧Below 0 w w'∧
  (∀k,k<w.heap.size→own k=none→w'.heap[k]?=w.heap[k]?)∧
  (∀k o x,σ'.c k o=some x→(σ.c k o=some x∨B≤k)∧¬cx k)∧(∀k x,σ'.m k=some x→(σ.m k=some x∨B≤k)∧¬cx k)∧(∀k,σ'.m k=some cL→B≤k→k<w.heap.size→own k≠none)∧
  (∀k j,own' k=some j→B≤k∧k<w'.heap.size∧(∀o,σ'.c k o=none)∧σ'.m k=none∧(k<w.heap.size→own k≠none))∧
  (∀(t:Nat) (sh:Sh),shs[t]?=some sh→pC sh=false→aF C (fa shs obs) (kU obs ds os) σ' hv' sh (args.getD t undef) (ds.getD t .none))∧
  (∀j,bW C (fa shs obs) (kU obs ds os) σ' own' hv' w' B j (dF obs j))∧Rep C.cap σ' s.res v dr) (fun w2 hr=>by
  obtain⟨v,σ',⟨own',t,fx,jd,dB,_,hor⟩,aj,kO,Mg,sm,dz,cR,_⟩:=hr;obtain⟨hv',dr,os,e1,e2,e3,e4,e5,e6⟩:=hor shs obs cI;obtain⟨f1,f2,f3,f4⟩:=dB.F;have Vr:∀k,cx k→jd k:=fun k hk=>(f2 k).2 ⟨(f1 k).2 ⟨(fV k hk).1,(fV k hk).2.1⟩,hk⟩;rw[pB] at dz cR e3 e5
  refine⟨v,aj,v,σ',own',hv',dr,os,rfl,e1,e2,kO,Mg,⟨sm.os,sm.tape,sm.output,f3,fun k hk=>by omega⟩,fun k hk hn=>f4 k ((f1 k).2 ⟨hk,hn⟩),fun k o x e=>⟨dz k o x e,fun hk=>dB.c k o x e (Vr k hk)⟩,fun k x e=>⟨cR k x e,fun hk=>dB.m k x e (Vr k hk)⟩,
   fun k e Lp hk hn=>dB.d k e (by rw[pB];exact Lp) ((f1 k).2 ⟨hk,hn⟩),fun k j hk=>?_,fun t sh hs hd=>?_,fun j=>?_,e6⟩
  ·obtain⟨g1,g2,g3,g4⟩:=e3 k j hk;exact⟨g1,g2,g3,g4,fun af hn=>dB.own k j hk ((f1 k).2 ⟨af,hn⟩)⟩
  ·have:=e4 t sh hs hd (ds.getD t .none);have af:t<shs.length:=(ed.1 hs).1;have lQ:t∉cm c:=by have:=WL l2 t sh hs hd;simpa using this
   have cf:a'.tmps.getD t undef=args.getD t undef:=by
        rw[gH.get t lQ];simp only[fi];rw[SG (by omega)]
   simp only at this;rw[cf] at this;have hp:=df.1 l3 _ (jB hs);exact aF.mono' (.refl σ') ⟨fun _=>aU _,fun _ _=>rfl⟩ (fun gs s' e=>by rw[e] at hp;cases hp) this
  ·exact bW.mono (S:=fa shs obs) (S':=fa shs obs) (ρ:=kU obs [] os) (ρ':=kU obs ds os) (hv:=hv') (hv':=hv') (own:=own') (own':=own') (w:=w2) (w':=w2) (.refl σ') ⟨fun _=>aU _,fun _ _=>rfl⟩ rfl rfl (fun k hk=>⟨hk,rfl⟩) (e5 j)) _ _ B9
 rcases lK with rfl|rfl<;>exact main
def Us (m:Nat)(cts:List Ty)(J:Nat)(ids:List Nat):Snap:=⟨.yv::(cts.map .dat++List.replicate (m-(cts.length+1)) .none),ids.map fun j=>bif Nat.beq j J then .tr else .dead⟩
def xU (J:Nat)(ds:List D):Env:=⟨fun t=>(D.none::ds).getD t .none,fun j=>bif Nat.beq j J then .list [] else .none⟩
def AN (C:Ctx)(fn:Func)(cts ys:List Ty)(J:Nat)(ids:List Nat):Option PC:=
 match C.yl,C.sig ln,C.cap ln with
 |none,none,none=>bif Nat.ble (cts.length+1) fn.ntmps then rU {C with yl:=some (J,ys)} fn ⟨[],.tup [],.it J⟩ ids (Us fn.ntmps cts J ids) else none
 |_,_,_=>none
open Classical in
def yldΦ (Φ:aJ)(xs:List D)(m:Nat):aJ:=fun f ds=>
 if f=ln then(match ds with|[.list l]=>if 0<l.length∧l.length≤m+1∧l=xs.take l.length then some (.v (.bool (decide (l.length≤m)))) else none|_=>none)
 else Φ f ds
theorem yldΦ_at {Φ:aJ}{xs l ds:List D}{d:D}{m:Nat}(h:yldΦ Φ xs m ln [.list (l++[.tup ds])]=some d):l.length≤m∧l=xs.take l.length∧xs[l.length]?=some (.tup ds)∧l++[.tup ds]=xs.take (l.length+1)∧d=.v (.bool (decide (l.length<m))):=by
 simp only[yldΦ,if_true] at h;split at h
 ·rename_i hc;obtain⟨h1,h2,h3⟩:=hc;simp only[lu,oJ,wN,jD] at h2 h3 h;have hx:xs[l.length]?=some (.tup ds):=by
   have:(xs.take (l.length+1))[l.length]?=some (.tup ds):=by rw[←h3];simp
   rw[ga] at this;simpa using this
  have hl:l=xs.take l.length:=by
   have:=congrArg (List.take l.length) h3;simpa [List.take_take] using this
  refine⟨by omega,hl,hx,h3,?_⟩;cases h
  congr 2
 ·cases h
theorem cY.yl {C:Ctx}{Φ:aJ}(h:cY C Φ){y:Option (Nat×List Ty)}{v:Value}{xs:List D}{m:Nat}(hs:C.sig ln=none):cY {C with yl:=y,yv:=v} (yldΦ Φ xs m):=by
 intro f ds d e s jM;have az:f≠ln:=fun e'=>by subst e';change C.sig ln=some s at jM;rw[hs] at jM;cases jM
 simp only[yldΦ,if_neg az] at e;obtain⟨h1,h2⟩:=h f ds d e s jM;exact⟨fun hm σ w args au hC ha=>h1 hm σ w args au ⟨hC.glob⟩ ha,fun shs obs hm=>(h2 shs obs hm).ctx rfl rfl rfl⟩
theorem kC.yl {C:Ctx}{y:Option (Nat×List Ty)}{v:Value}{f:Nat}{cts ys:List Ty}{ds xs:List D}(h:kC C f cts ys ds xs):kC {C with yl:=y,yv:=v} f cts ys ds xs:=
 fun σ w yv vs F fx cx m au hC=>h σ w yv vs F fx cx m au ⟨hC.glob⟩
theorem fA.yl {C:Ctx}{Φ:aJ}(h:fA C Φ){y:Option (Nat×List Ty)}{v:Value}{xs:List D}{m:Nat}(hs:C.cap ln=none):fA {C with yl:=y,yv:=v} (yldΦ Φ xs m):=by
 intro f cs ys hc hi;have az:f≠ln:=fun e'=>by subst e';change C.cap ln=some cs at hc;rw[hs] at hc;cases hc
 obtain⟨h1,h2⟩:=h f cs ys hc hi;refine⟨h1,fun ds d e=>?_⟩;simp only[yldΦ,if_neg az] at e;obtain⟨xs,e1,e2,e3⟩:=h2 ds d e;exact⟨xs,e1,e2,e3.yl⟩
def SP (Φ:aJ)(pc:PC)(J:Nat)(ds xs:List D):Prop:=∀m,m≤xs.length→∃N,pc.ev (yldΦ Φ xs m) N (xU J ds)=some (.ret (.list (xs.take (m+1))))
theorem aeR {C:Ctx}{σ:Im}{σ0:Base}{w:World}{yv:Value}{vs:List Value}{ds:List D}{cts ys:List Ty}{J m:Nat}{ids:List Nat}(au:σ.ok w)(ha:na C σ cts vs ds)(hm:cts.length+1≤m)(ko:C.yl=some (J,ys))(Cm:C.yv=yv)
 (h0:σ0.toIm=σ) (hB:σ0.B=0) {fx cx:Nat→Prop} (hF:σ0.F (.list []) fx cx w) (gC:∀k o x,σ.c k o=some x→¬cx k) (lJ:∀k x,σ.m k=some x→¬cx k):
 Good C w σ0 ((Us m cts J ids).st ids) (xU J ds) (fun _=>False) {tmps:=#[yv]++vs.toArray++Array.replicate (m-(vs.length+1)) undef,defers:=[]} w:=by
 obtain⟨h1,h2,h3⟩:=ha
 refine⟨σ,fun _=>none,fun _=>undef,trivial,au,by rw[h0];exact .refl σ,fun _ k e=>by rw[h0] at e;exact(au.m k _ e).lt,fun _ _ _ h=>by rw[h0];exact .inl h,fun _ _ h=>by rw[h0];exact .inl h,.refl _ _,by omega,(fun k j h=>by cases h),fun t=>?_,fun j=>?_,fun t gs s' e=>absurd e (Snap.noOpt _ _ t gs s'),
  .list [],fx,cx,⟨hF,(fun k j h=>by cases h),gC,lJ,fun k e hk=>by have:=(au.m k _ e).lt;omega⟩,fun j hj=>?_⟩
 ·show aF C _ _ σ _ (ct ((Sh.yv::(cts.map Sh.dat++List.replicate (m-(cts.length+1)) Sh.none)).getD t .none)) ((#[yv]++vs.toArray++Array.replicate (m-(vs.length+1)) undef).getD t undef) ((D.none::ds).getD t .none);have ea:((#[yv]++vs.toArray++Array.replicate (m-(vs.length+1)) undef).getD t undef)=(yv::(vs++List.replicate (m-(vs.length+1)) undef)).getD t undef:=by
   rw[fi,←zU,aI];simp
  rw[ea];cases t with
  |zero=>simp only[qg,ct];exact Cm.symm
  |succ t=>
   simp only[Aa];rw[aI];by_cases ht:t<cts.length
   ·rw[mi (by simpa using ht),cl,be ht];simp only[jE,ly,ct];have:=h3 t _ (be ht);have e1:(vs++List.replicate (m-(vs.length+1)) undef).getD t undef=vs.getD t undef:=by
     simp only[aI];rw[mi (by omega)]
    show aF C _ _ σ _ (.dat _) _ (ds.getD t .none);rw[e1];exact this
   ·rw[mj (by simpa using ht),SX];split<;>trivial
 ·show bW C _ _ σ _ _ w _ j (cW ids (ids.map fun j=>bif Nat.beq j J then .tr else .dead) j);refine vt _ (fun ob=>bW C _ _ σ _ _ w _ j ob) trivial j ?_ ids;cases Nat.beq j J<;>trivial
 ·change cW ids (ids.map fun j=>bif Nat.beq j J then .tr else .dead) j=.tr at hj
  have hb:=vt (fun j=>bif Nat.beq j J then Ob.tr else .dead) (fun ob=>ob=.tr→Nat.beq j J=true) (fun e=>by cases e) j (fun e=>by
   cases hb:Nat.beq j J
   ·rw[hb] at e;cases e
   ·rfl) ids hj
  have:=aw hb;subst this;refine⟨⟨ys,ko⟩,?_⟩;show(bif Nat.beq j j then D.list [] else .none)=_;rw[jC];rfl
theorem ady {C:Ctx}{Φ:aJ}(aW:dy C)(hΦ:cY C Φ)(dW:fA C Φ){f:Nat}{fn:Func}{cts ys:List Ty}{J:Nat}{ids:List Nat}{pc:PC}(hf:C.P.funcs[f]?=some fn)(hc:∀yv,AN {C with yv:=yv} fn cts ys J ids=some pc){ds xs:List D}
 (hr:SP Φ pc J ds xs):kC C f cts ys ds xs:=by
 intro σ w yv vs F fx cx m au hC ha hm af bT BN hF gC lJ MT;have hc:=hc yv;unfold AN at hc;split at hc
 case h_2=>cases hc
 rename_i ko hsy hcy;cases hle:Nat.ble (cts.length+1) fn.ntmps<;>simp only[hle,cond_true,cond_false] at hc
 ·cases hc
 have BQ:=j3 hle;obtain⟨N,he⟩:=hr m hm;cases hb:fn.body with
 |none=>unfold rU at hc;rw[hb] at hc;cases hc
 |some c=>
 refine(callsIn_wide (n:=0)).1 (callsIn_of_wp_marks (F:=FR none) hf hb trivial ?_);obtain⟨σ0,hσ0⟩:∃σ0:Base,σ0={σ with B:=0,fin:=True,F:=fun t fx cx w=>(∃l,t=.list l)∧F t fx cx w,lt:=fun t fx cx w h=>af t fx cx w h.2,sub:=fun t fx cx w h=>bT t fx cx w h.2,keep:=fun t fx cx w w' h hb hs=>⟨h.1,BN t fx cx w w' h.2 hb hs⟩}:=⟨_,rfl⟩
 have e1:σ0.toIm=σ:=by rw[hσ0]
 have e2:σ0.B=0:=by rw[hσ0]
 have e3:σ0.fin:=by rw[hσ0];trivial
 have e4:∀t fx cx w,σ0.F t fx cx w↔(∃l,t=.list l)∧F t fx cx w:=fun t fx cx w=>by rw[hσ0]
 have hg:=aeR (C:={C with yl:=some (J,ys),yv:=yv}) (σ0:=σ0) (w:=w) (yv:=yv) (vs:=vs) (ds:=ds) (cts:=cts) (ys:=ys) (J:=J) (m:=fn.ntmps) (ids:=ids) au ha BQ rfl rfl e1 e2 ((e4 _ _ _ _).2 ⟨⟨_,rfl⟩,hF⟩) gC lJ;have aN:(#[yv]++vs.toArray).size=vs.length+1:=by simp<;>omega
 have G7:vs.length=cts.length:=ha.1;have hY:qn {C with yl:=some (J,ys),yv:=yv} (yldΦ Φ xs m) w σ0:=by
  intro J' ys' e;cases e;refine⟨e2,fun t fx cx w h=>((e4 _ _ _ _).1 h).1,fun fR ds' d hd fx cx w1 σ1 args yf aiz uK Vp BR dz cR=>?_⟩;obtain⟨g1,g2,g3,g4,rfl⟩:=yldΦ_at hd;rw[e1] at dz cR;have:=MT fR.length fx cx w1 σ1 args ds' g1 g3 (by rw[←g2];exact((e4 _ _ _ _).1 yf).2) aiz uK Vp BR dz cR;intro rd o a x aa ts K Q dD hv has hK;refine this rd o a x aa ts K Q dD hv has fun u w2 hu=>hK u w2 ?_;obtain⟨u1,u2,u3,lF,jd,u4,u5,u6⟩:=hu;refine⟨_,rfl,u1,u2,u3,lF,jd,(e4 _ _ _ _).2 ⟨⟨_,rfl⟩,?_⟩,u5,u6⟩;rw[g4];exact u4
 have hn:(#[yv]++vs.toArray++Array.replicate (fn.ntmps-(vs.length+1)) undef).size=fn.ntmps:=by simp;omega
 rw[aN];refine wpIn_mono (KK (C:={C with yl:=some (J,ys),yv:=yv}) aW (hΦ.yl hsy) (dW.yl hcy) hb hc (σ0:=σ0) e3 (by rw[e1];exact⟨hC.glob⟩) hY hn hg he) fun e a' w' ho=>?_
 have main:=oM.leaves (R:=fun e w'=>(∃v,e=.returned v)∧∃fx cx,F (.list (xs.take (m+1))) fx cx w') (fun w2 B9=>by
  obtain⟨v,σ',⟨own,t,fx,cx,h1,ht,_⟩,h2,_⟩:=B9;refine⟨v,h2,⟨v,rfl⟩,fx,cx,?_⟩;rw[ht J rfl];exact((e4 _ _ _ _).1 h1.F).2) _ _ ho.2.1
 rcases ho.1 with rfl|rfl<;>exact main
def cH (tab:Nat→Option PC)(ext:Nat→Option (aJ→List D→Option D)):Nat→aJ
 |0=>fun _ _=>none
 |n+1=>fun f ds=>
  match ext f with
  |some g=>g (cH tab ext n) ds
  |none=>
   match tab f with
   |some pc=>(match pc.ev (cH tab ext n) n (jG ds) with|some (.ret d)=>some d|_=>none)
   |none=>none
theorem j2.hint {C:Ctx}{fr nh:List Nat}{f:Nat}{s:Sig}{ds:List D}{d:D}(h:j2 C f s ds d):j2 {C with fr:=fr,nh:=nh} f s ds d:=
 fun σ w args au hC ha=>h σ w args au ⟨hC.glob⟩ ha
theorem j2.unhint {C:Ctx}{fr nh:List Nat}{f:Nat}{s:Sig}{ds:List D}{d:D}(h:j2 {C with fr:=fr,nh:=nh} f s ds d):j2 C f s ds d:=
 fun σ w args au hC ha=>h σ w args au ⟨hC.glob⟩ ha
theorem kC.hint {C:Ctx}{fr nh:List Nat}{f:Nat}{cts ys:List Ty}{ds xs:List D}(h:kC C f cts ys ds xs):kC {C with fr:=fr,nh:=nh} f cts ys ds xs:=
 fun σ w yv vs F fx cx m au hC=>h σ w yv vs F fx cx m au ⟨hC.glob⟩
theorem kC.unhint {C:Ctx}{fr nh:List Nat}{f:Nat}{cts ys:List Ty}{ds xs:List D}(h:kC {C with fr:=fr,nh:=nh} f cts ys ds xs):kC C f cts ys ds xs:=
 fun σ w yv vs F fx cx m au hC=>h σ w yv vs F fx cx m au ⟨hC.glob⟩
theorem eM.hint {C:Ctx}{fr nh:List Nat}{f:Nat}{shs:List Sh}{obs:List (Nat×Ob)}{res:Ty}{ds:List D}{d:D}(h:eM C f shs obs res ds d):eM {C with fr:=fr,nh:=nh} f shs obs res ds d:=h.ctx rfl rfl rfl
theorem eM.unhint {C:Ctx}{fr nh:List Nat}{f:Nat}{shs:List Sh}{obs:List (Nat×Ob)}{res:Ty}{ds:List D}{d:D}(h:eM {C with fr:=fr,nh:=nh} f shs obs res ds d):eM C f shs obs res ds d:=eM.ctx (C':=C) h rfl rfl rfl
theorem cY.hint {C:Ctx}{fr nh:List Nat}{Φ:aJ}(h:cY C Φ):cY {C with fr:=fr,nh:=nh} Φ:=
 fun f ds d e s hs=>⟨fun hm=>((h f ds d e s hs).1 hm).hint,fun shs obs hm=>((h f ds d e s hs).2 shs obs hm).hint⟩
theorem fA.hint {C:Ctx}{fr nh:List Nat}{Φ:aJ}(h:fA C Φ):fA {C with fr:=fr,nh:=nh} Φ:=
 fun f cs ys hc hi=>let⟨h1,h2⟩:=h f cs ys hc hi;⟨h1,fun ds d e=>let⟨xs,e1,e2,e3⟩:=h2 ds d e;⟨xs,e1,e2,e3.hint⟩⟩
theorem dy.hint {C:Ctx}{fr nh:List Nat}(h:dy C):dy {C with fr:=fr,nh:=nh}:=h
def JB (C:Ctx)(f:Nat)(s:Sig)(ds:List D)(d:D):Prop:=(pE s.mode=false→j2 C f s ds d)∧∀shs obs,s.mode=.ob shs obs→eM C f shs obs s.res ds d
structure TabOK (C:Ctx) (tab:Nat→Option PC) (ext:Nat→Option (aJ→List D→Option D)):Prop where
 clos:dy C
 its:∀f cs ys,C.cap f=some cs→lW cs.args cs.res=some ys→tab f=none∧∃fn,C.P.funcs[f]?=some fn∧fn.body.isSome=true∧(fn.name== "runtime.NumGoroutine")=false
 tab:∀f pc,ext f=none→tab f=some pc→∃fn s ids fr nh,C.P.funcs[f]?=some fn∧C.sig f=some s∧kG {C with fr:=fr,nh:=nh} fn s ids=some pc
 ext:∀f g,ext f=some g→∀Φ,cY C Φ→fA C Φ→∀ds d,g Φ ds=some d→(∀s,C.sig f=some s→JB C f s ds d)∧
  ∀cs ys,C.cap f=some cs→lW cs.args cs.res=some ys→∃xs,d=.list xs∧(∀x,x∈xs→∃ds',x=.tup ds'∧ds'.length=ys.length)∧kC C f cs.caps ys ds xs
theorem Tf {C:Ctx}{tab:Nat→Option PC}{ext:Nat→Option (aJ→List D→Option D)}(h:TabOK C tab ext):∀n,cY C (cH tab ext n)∧fA C (cH tab ext n)
 |0=>⟨fun f ds d e=>by simp[cH] at e,fun f cs ys hc hi=>⟨(h.its f cs ys hc hi).2,fun ds d e=>by simp[cH] at e⟩⟩
 |n+1=>by
  obtain⟨ih,sM⟩:=Tf h n;refine⟨fun f ds d e=>?_,fun f cs ys hc hi=>⟨(h.its f cs ys hc hi).2,fun ds d e=>?_⟩⟩
  ·simp only[cH] at e;split at e
   ·rename_i g hg;exact(h.ext f g hg _ ih sM ds d e).1
   ·rename_i hx;split at e
    ·rename_i pc ae;split at e
     ·rename_i d' he;cases e;obtain⟨fn,s,ids,fr,nh,h1,h2,h3⟩:=h.tab f pc hx ae;intro s' jM;rw[h2] at jM;cases jM
      exact⟨fun hm=>(KL (C:={C with fr:=fr,nh:=nh}) (dy.hint h.clos) (cY.hint ih) (fA.hint sM) h1 h3 hm he).unhint,
       fun shs obs hm=>(adx (C:={C with fr:=fr,nh:=nh}) (dy.hint h.clos) (cY.hint ih) (fA.hint sM) h1 h3 hm he).unhint⟩
     ·cases e
    ·cases e
  ·simp only[cH] at e;split at e
   ·rename_i g hg;exact(h.ext f g hg _ ih sM ds d e).2 cs ys hc hi
   ·rw[(h.its f cs ys hc hi).1] at e;cases e
def abF (Φ:aJ)(pc:PC)(J k:Nat)(ds xs:List D):Prop:=SP Φ pc J ds xs∧∀x,x∈xs→∃ds',x=.tup ds'∧ds'.length=k
open Classical in
def sO (pc:PC)(J k:Nat)(spec:List D→List D):aJ→List D→Option D:=fun Φ ds=>if abF Φ pc J k ds (spec ds) then some (.list (spec ds)) else none
theorem ajT {C:Ctx}{Φ:aJ}(aW:dy C)(hΦ:cY C Φ)(dW:fA C Φ){f:Nat}{fn:Func}{cts ys:List Ty}{J k:Nat}{ids fr nh:List Nat}{pc:PC}(hf:C.P.funcs[f]?=some fn)(hc:∀yv,AN {C with fr:=fr,nh:=nh,yv:=yv} fn cts ys J ids=some pc){spec:List D→List D}
 {ds:List D} {d:D} (h:sO pc J k spec Φ ds=some d) (hk:k=ys.length):∃xs,d=.list xs∧(∀x,x∈xs→∃ds',x=.tup ds'∧ds'.length=ys.length)∧kC C f cts ys ds xs:=by
 unfold sO at h;split at h
 ·rename_i hs;cases h;subst hk;exact⟨_,rfl,hs.2,(ady (C:={C with fr:=fr,nh:=nh}) (dy.hint aW) (cY.hint hΦ) (fA.hint dW) hf hc hs.1).unhint⟩
 ·cases h
def bu {α:Type}:List (Nat×α)→Nat→Option α
 |[],_=>none
 |x::l,f=>bif Nat.beq x.1 f then some x.2 else bu l f
def D6 {α:Type}(R:Nat→α→Prop):List (Nat×α)→Prop
 |[]=>True
 |x::l=>R x.1 x.2∧D6 R l
theorem Cy {α:Type}{R:Nat→α→Prop}:∀{l:List (Nat×α)},D6 R l→∀f x,bu l f=some x→R f x
 |[],_,f,x,h=>by cases h
 |y::l,⟨h1,h2⟩,f,x,h=>by
  simp only[bu] at h;cases hb:Nat.beq y.1 f<;>simp only[hb,cond_true,cond_false] at h
  ·exact Cy h2 f x h
  ·cases h;rw[←cX hb];exact h1
def Qn (P:Program):List (Nat×Sig)→Bool
 |[]=>true
 |x::l=>(match P.funcs[x.1]? with|some fn=>fn.body.isSome&& !(fn.name== "runtime.NumGoroutine")|none=>false)&&Qn P l
theorem aa8 {P:Program}:∀{l:List (Nat×Sig)},Qn P l=true→∀f s,bu l f=some s→∃fn,P.funcs[f]?=some fn∧fn.body.isSome=true∧(fn.name== "runtime.NumGoroutine")=false
 |[],_,f,s,h=>by cases h
 |y::l,hl,f,s,h=>by
  simp only[Qn,aq] at hl;simp only[bu] at h;cases hb:Nat.beq y.1 f<;>simp only[hb,cond_true,cond_false] at h
  ·exact aa8 hl.2 f s h
  ·rw[←cX hb];have h1:=hl.1;split at h1
   ·rename_i fn e;simp only[aq,jx] at h1;exact⟨fn,e,h1.1,h1.2⟩
   ·cases h1
def Qg (a b:Sig):Bool:=Ty.beqs a.args b.args&&Ty.beq a.res b.res&&(match a.mode,b.mode with|.dat,.dat=>true|_,_=>false)
theorem apa {a b:Sig}(h:Qg a b=true):a=b:=by
 obtain⟨a1,a2,a3⟩:=a;obtain⟨b1,b2,b3⟩:=b;simp only[Qg,aq] at h;rw[Ty.beqs_eq _ _ h.1.1,Ty.beq_eq _ _ h.1.2];cases a3<;>cases b3<;>first|rfl|(have:=h.2;cases this)
def DW (P:Program)(f:Nat):Bool:=match P.funcs[f]? with|some fn=>fn.body.isSome&& !(fn.name== "runtime.NumGoroutine")|none=>false
theorem apE {P:Program}{f:Nat}(h:DW P f=true):∃fn,P.funcs[f]?=some fn∧fn.body.isSome=true∧(fn.name== "runtime.NumGoroutine")=false:=by
 unfold DW at h;split at h
 ·rename_i fn e;simp only[aq,jx] at h;exact⟨fn,e,h.1,h.2⟩
 ·cases h
def KF (P:Program)(sig:List (Nat×Sig))(pcs:List Nat):List (Nat×CSig)→Bool
 |[]=>true
 |x::l=>(match lW x.2.args x.2.res with
   |none=>(match bu sig x.1 with|some s=>Qg s ⟨x.2.args++x.2.caps,x.2.res,.dat⟩|none=>false)
   |some _=> !eJ pcs x.1&&DW P x.1)&&KF P sig pcs l
theorem TR {P:Program}{sig:List (Nat×Sig)}{pcs:List Nat}:∀{l:List (Nat×CSig)},KF P sig pcs l=true→∀f cs,bu l f=some cs→
 (lW cs.args cs.res=none→bu sig f=some ⟨cs.args++cs.caps,cs.res,.dat⟩)∧∀ys,lW cs.args cs.res=some ys→eJ pcs f=false∧DW P f=true
 |[],_,f,cs,h=>by cases h
 |x::l,hl,f,cs,h=>by
  simp only[KF,aq] at hl;simp only[bu] at h;cases hb:Nat.beq x.1 f<;>simp only[hb,cond_true,cond_false] at h
  ·exact TR hl.2 f cs h
  ·cases h;rw[←cX hb];have h1:=hl.1;refine⟨fun e=>?_,fun ys e=>?_⟩
   ·rw[e] at h1;simp only at h1;split at h1
    ·rename_i s hs;rw[hs,apa h1]
    ·cases h1
   ·rw[e] at h1;simpa using h1
theorem WY {α:Type}:∀{l:List (Nat×α)} {f:Nat},eJ (l.map (·.1)) f=false→bu l f=none
 |[],f,_=>rfl
 |x::l,f,h=>by
  simp only[eB,eJ,List.any_cons,SL] at h;simp only[bu];have hb:Nat.beq x.1 f=false:=by
   cases e:Nat.beq x.1 f
   ·rfl
   ·rw[aw e,jC] at h;cases h.1
  rw[hb];exact WY (l:=l) h.2
def abN (Φ:aJ)(pa pb:PC)(ds:List D)(d:D):Prop:=(∃N xs,pa.ev Φ N (jG ds)=some (.ret (.list xs))∧xs≠[]∧d=.list xs)∨∃N,pb.ev Φ N (jG ds)=some (.ret (.list []))∧d=.list []
open Classical in
def rk (pa pb:PC)(spec:List D→D):aJ→List D→Option D:=fun Φ ds=>if abN Φ pa pb ds (spec ds) then some (spec ds) else none
theorem amB {C:Ctx}{Φ:aJ}(aW:dy C)(hΦ:cY C Φ)(dW:fA C Φ){f:Nat}{fn:Func}{args:List Ty}{e:Ty}{ids ajH fr nh UR XF:List Nat}{pa pb:PC}(hf:C.P.funcs[f]?=some fn)(ha:kG {C with fr:=fr,nh:=nh} fn ⟨args,.slice e,.dat⟩ ids=some pa)
 (hb:kG {C with fr:=UR,nh:=XF} fn ⟨args,.nils .bool,.dat⟩ ajH=some pb) {spec:List D→D} {ds:List D} {d:D} (h:rk pa pb spec Φ ds=some d):j2 C f ⟨args,.nsl e,.dat⟩ ds d:=by
 unfold rk at h;split at h
 case isFalse=>cases h
 rename_i hs;cases h;rcases hs with⟨N,xs,h1,h2,h3⟩|⟨N,h1,h2⟩
 ·rw[h3];have:=(KL (C:={C with fr:=fr,nh:=nh}) (dy.hint aW) (cY.hint hΦ) (fA.hint dW) hf ha (N:=N) rfl h1).unhint;intro σ w aa au hC gB;refine(this σ w aa au hC gB).mono fun en w' hh=>?_;obtain⟨v,σ',g1,g2,g3,g4,g5,g6,g7⟩:=hh;refine⟨v,σ',g1,g2,g3,g4,g5,g6,?_⟩;change Rep C.cap σ' (.slice e) v (.list xs) at g7;show Rep C.cap σ' (.nsl e) v (.list xs);generalize hd:D.list xs=dd at g7;cases g7 with
  |nil=>injection hd with hd;exact absurd hd h2
  |emp=>injection hd with hd;exact absurd hd h2
  |slice _ k o n c fR vs a1 a2 a3 a4 a5=>exact .nsl e k o n c fR (.slice e k o n c fR vs a1 a2 a3 a4 a5) (by injection hd with hd;rw[←hd];exact h2)
 ·rw[h2];have:=(KL (C:={C with fr:=UR,nh:=XF}) (dy.hint aW) (cY.hint hΦ) (fA.hint dW) hf hb (N:=N) rfl h1).unhint;intro σ w aa au hC gB;refine(this σ w aa au hC gB).mono fun en w' hh=>?_;obtain⟨v,σ',g1,g2,g3,g4,g5,g6,g7⟩:=hh;refine⟨v,σ',g1,g2,g3,g4,g5,g6,?_⟩;change Rep C.cap σ' (.nils .bool) v (.list []) at g7;show Rep C.cap σ' (.nsl e) v (.list []);generalize D.list []=dd at g7;cases g7;exact .nsl0 e
end Cx
namespace Cx
open Go Go.RowKit Go.ChangeShapes Go.WideShapes
def lV (w:World):Im:=
 ⟨fun k o=>w.cell? ⟨k,o,none⟩,fun _=>none⟩
theorem ajJ (w:World):(lV w).ok w:=by
 exact⟨fun k o v h=>h,fun k es h=>by cases h⟩
def zx (P:Program)(r:TypeId→Option Ty):List Field→Nat→Option (List Ty)
 |[],_=>some []
 |f::fs,off=>(r f.type).bind fun ft=>
  bif Nat.beq f.offset off&&Nat.beq (P.cellsOf f.type) ft.flat.length then(zx P r fs (off+ft.flat.length)).map (ft.flat++·) else none
def fw (P:Program):Nat→TypeId→Option Ty
 |0,_=>none
 |n+1,t=>
  match P.underlying t with
  |some .bool=>some .bool
  |some (.int k)=>some (.int k)
  |some .string=>some .str
  |some (.slice e)=>bif re P e then some (.slice .trm) else(fw P n e).bind fun te=>bif Nat.beq (P.cellsOf e) te.flat.length&&Nat.ble 1 te.flat.length then some (.slice te) else none
  |some (.struct fs)=>(zx P (fw P n) fs.toList 0).bind fun ts=>bif Nat.beq (P.cellsOf t) ts.length then some (.agg ts) else none
  |_=>none
theorem ajR {P:Program}{e:TypeId}(h:re P e=true)(n:Nat):fw P (n+2) e=some .trmA∧P.cellsOf e=3:=by
 unfold re at h;split at h
 case h_2=>cases h
 rename_i fs hu;split at h
 case h_2=>cases h
 rename_i f0 f1 f2 su;simp only[aq] at h;obtain⟨⟨⟨⟨⟨⟨⟨⟨⟨h0,h1⟩,h2⟩,o0⟩,o1⟩,o2⟩,c0⟩,c1⟩,c2⟩,c3⟩:=h;split at h0
 case h_2=>cases h0
 rename_i u0;split at h1
 case h_2=>cases h1
 rename_i u1;split at h2
 case h_2=>cases h2
 rename_i e' u2;obtain rfl:=aw h2;have r0:fw P (n+1) f0.type=some (.int .i64):=by simp[fw,u0]
 have r1:fw P (n+1) f1.type=some (.int .i64):=by simp[fw,u1]
 have ht:re P e'=true:=by
  unfold re;rw[hu];simp only[su];simp[u0,u1,u2,aw o0,aw o1,aw o2,aw c0,aw c1,aw c2,aw c3]
 have r2:fw P (n+1) f2.type=some (.slice .trm):=by simp[fw,u2,ht]
 refine⟨?_,aw c3⟩;show fw P (n+1+1) e'=_;rw[fw,hu];simp only[su,zx,r0,r1,r2,oL,Ty.flat,oJ,wN,o0,c0,Bool.and_self,cond_true];simp[aw o1,aw o2,aw c1,aw c2,aw c3,Ty.trmA]
theorem PY {P:Program}{n:Nat}{t:TypeId}{ty:Ty}(h:fw P n t=some ty):ty.rowT=true∨ty.one=true:=by
 cases n with
 |zero=>simp[fw] at h
 |succ n=>
  simp only[fw] at h;split at h
  ·cases h;exact .inr rfl
  ·cases h;exact .inr rfl
  ·cases h;exact .inr rfl
  ·rename_i e _;cases ht:re P e<;>simp only[ht,cond_true,cond_false] at h
   ·simp only[ar] at h;obtain⟨te,_,h⟩:=h;cases hb:(Nat.beq (P.cellsOf e) te.flat.length&&Nat.ble 1 te.flat.length)<;>simp only[hb,cond_true,cond_false] at h
    ·cases h
    ·cases h;exact .inr rfl
   ·cases h;exact .inr rfl
  ·rename_i fs _;simp only[ar] at h;obtain⟨ts,_,h⟩:=h;cases hb:Nat.beq (P.cellsOf t) ts.length<;>simp only[hb,cond_true,cond_false] at h
   ·cases h
   ·cases h;exact .inl rfl
  ·cases h
def lz (cap:Nat→Option CSig)(σ:Im)(ts:List Ty)(cs:List Value)(ds:List D):Prop:=
 cs.length=ts.length∧ds.length=ts.length∧∀(i:Nat) (u:Ty),ts[i]?=some u→Rep cap σ u (cs.getD i undef) (ds.getD i .none)∧u.one=true
theorem lz.one {cap:Nat→Option CSig}{σ:Im}{t:Ty}{v:Value}{d:D}(h:Rep cap σ t v d)(ht:t.one=true):lz cap σ [t] [v] [d]:=
 ⟨rfl,rfl,fun i u hu=>by
   cases i with
   |zero=>simp at hu;subst hu;exact⟨h,ht⟩
   |succ i=>simp at hu⟩
theorem lz.append {cap:Nat→Option CSig}{σ:Im}{ts us:List Ty}{cs vs:List Value}{ds es:List D}(h:lz cap σ ts cs ds)(k:lz cap σ us vs es):lz cap σ (ts++us) (cs++vs) (ds++es):=by
 obtain⟨h1,h2,h3⟩:=h;obtain⟨k1,k2,k3⟩:=k;refine⟨by simp[h1,k1],by simp[h2,k2],fun i u hu=>?_⟩;by_cases hi:i<ts.length
 ·rw[mi hi] at hu;have:=h3 i u hu;rw[aI,aI,mi (by omega),mi (by omega)];rw[aI,aI] at this;exact this
 ·rw[mj (by omega)] at hu;have:=k3 _ u hu;rw[aI,aI,mj (by omega),mj (by omega),h1,h2];rw[aI,aI] at this;exact this
def Ub (ag:Bool)(ds:List D):D:=if ag then .agg ds else ds.getD 0 .none
theorem afv (t:Ty):t.flat.length=t.size:=by cases t<;>rfl
theorem Rep.ofRow {cap:Nat→Option CSig}{σ:Im}{t:Ty}{cs:List Value}{ds:List D}(gl:t.rowT=true∨t.one=true)(h:lz cap σ t.flat cs ds):Rep cap σ t (Cx.rowOf t.rowT cs) (Ub t.rowT ds):=by
 obtain⟨h1,h2,h3⟩:=h;cases t with
 |agg ts=>exact .agg ts cs ds h1 h2 (fun i u hu=>(h3 i u hu).1) (fun i u hu=>(h3 i u hu).2)
 |trm=>simp[Ty.rowT,Ty.one] at gl
 |_=>exact(h3 0 _ rfl).1
theorem aoK {cap:Nat→Option CSig}{σ:Im}{t:Ty}{cs:List Value}{ds:List D}(gl:t.rowT=true∨t.one=true)(h:lz cap σ t.flat cs ds){j:Nat}{u:Value}(hj:(rowOf t.rowT cs).cells[j]?=some u):cs[j]?=some u:=by
 obtain⟨h1,h2,h3⟩:=h;cases t with
 |agg ts=>simpa [rowOf,Ty.rowT,Value.cells] using hj
 |trm=>simp[Ty.rowT,Ty.one] at gl
 |_=>
  have h4:=h3 0 _ rfl;have h5:=(h4.1.oneCell h4.2).1;simp only[rowOf,Ty.rowT,wG,if_false] at hj;rw[h5] at hj;cases j with
  |zero=>
   simp only[Ef,JD,aT] at hj
   match cs,h1 with
   |[c],_=>simpa using hj
  |succ j=>simp at hj
section
variable {H:Type} {enc:TypeId×Value→H} {P:Program} {w:World} {base:Nat} {held:Bool} {cap:Nat→Option CSig}
theorem abk {k:IntKind}{n:Int}(h:(Lit.int k n).wf=true):k.min≤n∧n≤k.max:=by
 simpa [Lit.wf] using h
theorem aav {n m:Nat}(ih:∀(t:TypeId) (cs:List Value) (x:DataW H×List MemPlace) (ty:Ty),DataW.trod enc P w base (fun _=>true) held n t cs=some x→fw P m t=some ty→∃ds,lz cap (lV w) ty.flat cs ds):
 ∀(fs:List Field) (off:Nat) (cs:List Value) (ts:List Ty),zx P (fw P m) fs off=some ts→cs.length=off+ts.length→
  (∀f,f∈fs→∃x,DataW.trod enc P w base (fun _=>true) held n f.type ((cs.drop f.offset).take (P.cellsOf f.type))=some x)→∃ds,lz cap (lV w) ts (cs.drop off) ds
 |[],off,cs,ts,h,hl,_=>by
  simp only[zx,aT] at h;subst h;have:cs.drop off=[]:=by simp at hl ⊢;omega
  rw[this];exact⟨[],rfl,rfl,fun i u hu=>by simp at hu⟩
 |f::fs,off,cs,ts,h,hl,hx=>by
  simp only[zx,ar] at h;obtain⟨ft,hft,h⟩:=h;cases hb:(Nat.beq f.offset off&&Nat.beq (P.cellsOf f.type) ft.flat.length)<;>simp only[hb,cond_true,cond_false] at h
  ·cases h
  simp only[ax] at h;obtain⟨us,hus,rfl⟩:=h;simp only[aq] at hb;have e1:=cX hb.1;have e2:=cX hb.2;obtain⟨x,mJ⟩:=hx f (eC ..);rw[e1,e2] at mJ;obtain⟨AR,kj⟩:=ih _ _ _ _ mJ hft;simp only[lu] at hl;obtain⟨ds2,pz⟩:=aav ih fs (off+ft.flat.length) cs us hus (by omega) fun g hg=>hx g (ef _ hg);refine⟨AR++ds2,?_⟩;have:=kj.append pz;rw[←List.drop_drop,JJ] at this;exact this
theorem arP:∀(n m:Nat) (t:TypeId) (cs:List Value) (x:DataW H×List MemPlace) (ty:Ty),DataW.trod enc P w base (fun _=>true) held n t cs=some x→fw P m t=some ty→∃ds,lz cap (lV w) ty.flat cs ds:=by
 intro n
 induction n with
 |zero=>intro m t cs x ty h;simp[DataW.trod] at h
 |succ n ih=>
  intro m t cs x ty h aV;cases m with
  |zero=>simp[fw] at aV
  |succ m=>
   simp only[fw] at aV;split at aV
   ·rename_i hu;cases aV;obtain⟨b,rfl,_⟩:=DataW.trod_bool hu h;exact⟨_,.one (.bool b) rfl⟩
   ·rename_i k hu;cases aV;obtain⟨z,rfl,_,hw⟩:=DataW.trod_int hu h;exact⟨_,.one (.int k z (abk hw).1 (abk hw).2) rfl⟩
   ·rename_i hu;cases aV;obtain⟨s,rfl,_,hs⟩:=DataW.trod_string hu h;exact⟨_,.one (.str s hs) rfl⟩
   ·rename_i e hu;have vb:∃(m':Nat) (te tF:Ty),fw P m' e=some te∧P.cellsOf e=te.flat.length∧1≤te.flat.length∧ty=.slice tF∧tF.unf=te:=by
     cases ht:re P e<;>simp only[ht,cond_true,cond_false] at aV
     ·simp only[ar] at aV;obtain⟨te,vb,aV⟩:=aV;cases hb:(Nat.beq (P.cellsOf e) te.flat.length&&Nat.ble 1 te.flat.length)<;>simp only[hb,cond_true,cond_false] at aV
      ·cases aV
      cases aV;simp only[aq] at hb;exact⟨m,te,te,vb,cX hb.1,j3 hb.2,rfl,Ty.unf_ro (PY vb)⟩
     ·cases aV;obtain⟨k1,k2⟩:=ajR ht 0;exact⟨2,.trmA,.trm,k1,k2,by decide,rfl,rfl⟩
    obtain⟨m',te,tF,vb,e1,e2,rfl,lU⟩:=vb;have gl:=PY vb;rcases DataW.trod_slice hu h with⟨rfl,_⟩|⟨a,len,cp,elems,rest,n',ke,rfl,_,hba,hl,hm,hlen,fI,sH,_⟩
    ·exact⟨_,.one (.nil tF) rfl⟩
    ·cases ke;obtain⟨hrl,sD⟩:=sH rfl
     have nN:∀i,i<cp→∃ci y,w.cells? base (a.add (i*P.cellsOf e)) (P.cellsOf e)=some ci∧DataW.trod enc P w base (fun _=>true) held n e ci=some y:=by
      intro i hi
      have eh:∃y,(w.cells? base (a.add (i*P.cellsOf e)) (P.cellsOf e)).bind (DataW.trod enc P w base (fun _=>true) held n e)=some y:=by
           by_cases GJ:i<len
           ·rw[fI i GJ];exact⟨_,be (by omega)⟩
           ·have:=sD (i-len) (by omega);rw[show len+(i-len)=i by omega] at this;rw[this];exact⟨_,be (by omega)⟩
      obtain⟨y,hy⟩:=eh;rw[ar] at hy;obtain⟨ci,h1,h2⟩:=hy;exact⟨ci,y,h1,h2⟩
     by_cases Bw:cp=0
     ·subst Bw;have:len=0:=by omega
      subst this;exact⟨_,.one (.emp tF a) rfl⟩
     ·have Wb:a.spot=none:=by
           obtain⟨ci,y,h1,_⟩:=nN 0 (by omega);obtain⟨_,_,h3⟩:=World.cells?_some h1;have:=h3 0 (by omega);simp only[Nat.zero_mul,Addr.add,if_true] at this;unfold World.cell? at this;cases hs:a.spot with
           |none=>rfl
           |some s=>
            exfalso;have hl:ci.length=P.cellsOf e:=(World.cells?_some h1).2.1;split at this
            ·rw[hs] at this;simp at this;subst this;simp at hl;omega
            ·rw[eq_comm,List.getElem?_eq_none_iff] at this;omega
      obtain⟨k,o,s⟩:=a;simp only at Wb;subst Wb;have aR:∀i,∃p:List Value×List D,i<len→w.cells? base ((⟨k,o,none⟩:Addr).add (i*P.cellsOf e)) (P.cellsOf e)=some p.1∧lz cap (lV w) te.flat p.1 p.2:=by
           intro i;by_cases hi:i<len
           ·obtain⟨ci,y,h1,h2⟩:=nN i (by omega);obtain⟨ds,hr⟩:=ih m' _ _ _ _ h2 vb;exact⟨(ci,ds),fun _=>⟨h1,hr⟩⟩
           ·exact⟨([],[]),fun h=>absurd h hi⟩
      obtain⟨f,hf⟩:=Classical.axiomOfChoice aR;refine⟨_,.one (.slice tF k o len cp ((List.range len).map fun i=>Ub te.rowT (f i).2) (fun i=>rowOf te.rowT (f i).1) (by simp) hl hm (fun i x hx=>?_) (fun i j u hi hj=>?_)) rfl⟩
      ·rw[cl,ax] at hx;obtain⟨i',dO,rfl⟩:=hx;have af:i<len:=by have:=(ed.1 dO).1;simpa using this
       rw[oI af] at dO;cases dO;rw[lU];exact Rep.ofRow gl (hf i af).2
      ·obtain⟨h1,h2⟩:=hf i hi;have da:=aoK gl h2 hj;obtain⟨_,h4,h5⟩:=World.cells?_some h1;have fJ:j<P.cellsOf e:=by rw[←h4];exact(ed.1 da).1
       have:=h5 j fJ;rw[da] at this;show w.cell? ⟨k,o+i*tF.size+j,none⟩=some u;rw[←tF.unf_size,lU,←afv,←e1,←this]
       congr 1
       simp only[Addr.add];split<;>split<;>simp_all
   ·rename_i fs hu;simp only[ar] at aV;obtain⟨ts,vd,aV⟩:=aV;cases hb:Nat.beq (P.cellsOf t) ts.length<;>simp only[hb,cond_true,cond_false] at aV
    ·cases aV
    cases aV;obtain⟨xs,n',ke,_,hl,vf,hf⟩:=DataW.trod_struct hu h;cases ke
    have:=aav (ih m) fs.toList 0 cs ts vd (by rw[hl,cX hb];omega) (fun f hm=>by
     obtain⟨i,hi⟩:=rM hm;have dO:fs[i]?=some f:=by simpa using hi
     have h1:=hf i f dO;have af:i<fs.size:=(eA.1 dO).1;exact⟨_,h1.trans (be (by omega))⟩)
    show ∃ds,lz cap (lV w) ts cs ds;simpa using this
   ·cases aV
theorem AD {base:Nat}{t:TypeId}{v:Value}(h:Cell.okWide P w .any base t v):v.cells=#[v]:=by
 cases v<;>first|rfl|(exfalso;simp only[Cell.okWide,Cell.ok] at h;revert h;cases P.underlying t with|none=>simp|some T=>cases T<;>simp)
theorem aci {base base':Nat}{m:Nat}{t:TypeId}{v:Value}{d:DataW H}{ps:List MemPlace}{ty:Ty}(au:Value.okWide P w .any base' t v)(h:DataW.Trod enc P w base (fun _=>true) held t v d ps)(aV:fw P m t=some ty):∃d,Rep cap (lV w) ty v d:=by
 obtain⟨fuel,h⟩:=h;obtain⟨ds,hr⟩:=arP (cap:=cap) fuel m t _ _ _ h aV;have bE:=Rep.ofRow (PY aV) hr;cases m with
 |zero=>simp[fw] at aV
 |succ m=>
  suffices hs:rowOf ty.rowT v.cells.toList=v by rw[hs] at bE;exact⟨_,bE⟩
  simp only[fw] at aV;unfold Value.okWide at au;split at aV
  ·rename_i hu;cases aV;rw[hu] at au;simp only at au;rw[AD au];rfl
  ·rename_i hu;cases aV;rw[hu] at au;simp only at au;rw[AD au];rfl
  ·rename_i hu;cases aV;rw[hu] at au;simp only at au;rw[AD au];rfl
  ·rename_i e hu;cases ht:re P e<;>simp only[ht,cond_true,cond_false] at aV
   ·simp only[ar] at aV;obtain⟨te,_,aV⟩:=aV;cases hb:(Nat.beq (P.cellsOf e) te.flat.length&&Nat.ble 1 te.flat.length)<;>simp only[hb,cond_true,cond_false] at aV
    ·cases aV
    cases aV;rw[hu] at au;simp only at au;rw[AD au];rfl
   ·cases aV;rw[hu] at au;simp only at au;rw[AD au];rfl
  ·rename_i fs hu;simp only[ar] at aV;obtain⟨ts,_,aV⟩:=aV;cases hb:Nat.beq (P.cellsOf t) ts.length<;>simp only[hb,cond_true,cond_false] at aV
   ·cases aV
   cases aV;rw[hu] at au;obtain⟨cs,rfl,_⟩:=au;simp[rowOf,Ty.rowT,Value.cells]
  ·cases aV
def DD (P:Program)(m:Nat):List TypeId→Option (List Ty)
 |[]=>some []
 |t::ts=>(fw P m t).bind fun x=>(DD P m ts).map (x::·)
theorem Tp {base base' m:Nat}:∀(ts:List TypeId) (vs:List Value) (ds:List (DataW H)) (ps:List MemPlace) (eL:List Ty),DataW.TrodAll enc P w base (fun _=>true) held ts vs ds ps→DD P m ts=some eL→
 (∀(j:Nat) t v,ts[j]?=some t→vs[j]?=some v→Value.okWide P w .any base' t v)→
 ∃es:List D,vs.length=eL.length∧es.length=eL.length∧∀(i:Nat) (t:Ty),eL[i]?=some t→Rep cap (lV w) t (vs.getD i undef) (es.getD i .none)
 |[],vs,ds,ps,eL,h,aV,_=>by
  simp only[DD,aT] at aV;subst aV;cases vs with
  |nil=>exact⟨[],rfl,rfl,fun i t h=>by simp at h⟩
  |cons=>cases ds<;>exact h.elim
 |t::ts,vs,ds,ps,eL,h,aV,au=>by
  simp only[DD,ar,ax] at aV;obtain⟨ty,ajn,arS,ajo,rfl⟩:=aV;cases vs with
  |nil=>cases ds<;>exact h.elim
  |cons v vs=>
   cases ds with
   |nil=>exact h.elim
   |cons d ds=>
    obtain⟨p,q,h1,h2,_⟩:=h;obtain⟨e,he⟩:=aci (cap:=cap) (au 0 t v rfl rfl) h1 ajn;obtain⟨es,k1,k2,k3⟩:=Tp ts vs ds q arS h2 ajo (fun j t' v' hj hv=>au (j+1) t' v' hj hv);refine⟨e::es,by simp[k1],by simp[k2],fun i u hu=>?_⟩;cases i with
    |zero=>simp at hu;subst hu;exact he
    |succ i=>simpa using k3 i u (by simpa using hu)
end
mutual
inductive DTy:Ty→D→Prop where
 |int (k:IntKind) (n:Int) (h1:k.min≤n) (h2:n≤k.max):DTy (.int k) (.v (.int k n))
 |bool (b:Bool):DTy .bool (.v (.bool b))
 |str (s:ByteArray) (h:s.size≤maxLen):DTy .str (.v (.string s))
 |slice (e:Ty) (xs:List D) (hm:xs.length≤maxLen) (h:∀x,x∈xs→DTy e.unf x):DTy (.slice e) (.list xs)
 |agg (ts:List Ty) (ds:List D) (h:DTys ts ds):DTy (.agg ts) (.agg ds)
 |other (t:Ty) (d:D) (h:match t with|.int _|.bool|.str|.slice _|.agg _=>False|_=>True):DTy t d
inductive DTys:List Ty→List D→Prop where
 |nil:DTys [] []
 |cons {t:Ty} {d:D} {ts:List Ty} {ds:List D} (h:DTy t d) (hs:DTys ts ds):DTys (t::ts) (d::ds)
end
theorem DTys.of_get:∀{ts:List Ty} {ds:List D},ds.length=ts.length→(∀(i:Nat) (t:Ty),ts[i]?=some t→DTy t (ds.getD i .none))→DTys ts ds
 |[],[],_,_=>.nil
 |t::ts,d::ds,hl,h=>.cons (h 0 t rfl) (DTys.of_get (by simpa using hl) fun i u hu=>by simpa using h (i+1) u (by simpa using hu))
 |[],_::_,hl,_=>by simp at hl
 |_::_,[],hl,_=>by simp at hl
theorem Rep.dty {cap:Nat→Option CSig}{σ:Im}{t:Ty}{v:Value}{d:D}(h:Rep cap σ t v d):DTy t d:=by
 induction h with
 |int k n h1 h2=>exact .int k n h1 h2
 |bool b=>exact .bool b
 |str s h=>exact .str s h
 |agg ts vs ds h1 h2 _ ho ih=>exact .agg ts ds (.of_get h2 ih)
 |nil e=>exact .slice e [] (by decide) (fun x hx=>by cases hx)
 |emp e a=>exact .slice e [] (by decide) (fun x hx=>by cases hx)
 |slice e k o n c xs vs hn hc hm _ hv ih=>
  refine .slice e xs (by omega) fun x hx=>?_;obtain⟨i,hi⟩:=rM hx;exact ih i x hi
 |_=>exact .other _ _ trivial
theorem aj2 {H:Type}{enc:TypeId×Value→H}{C:Ctx}{f:Nat}{fn:Func}{sg:Sig}{spec:ChangeSpec}{tb:TypeId}{apart fresh handsOn again:Bool}(hl:laidOutB C.P=true)
 (km:DD C.P 12 fn.params.toList=some sg.args) (aiQ:fn.params.toList.all (fun t=>C.P.readableRec t&&decide (t<C.P.types.size))=true) (MH:spec.vars=[])
 (ai7:∀ds:List (DataW H),ds.length=fn.params.size→(spec.fn H ds).results=[.lit (.bool true)]∧(spec.fn H ds).args=ds∧(spec.fn H ds).vars=[])
 (kl:fn.resultTypes=#[tb]) (Wh:C.P.underlying tb=some .bool) (lP:sg.mode=.dat) (sE:sg.res=.bool)
 (L3:∀ds,DTys sg.args ds→j2 C f sg ds (.v (.bool true)))
 (W:World) (sw:CtxOK C (lV W)) (base:Nat) (args:Array Value) (ds gs:List (DataW H)) (before:List MemPlace)
 (cf:∀(j:Nat) t v,fn.params[j]?=some t→args[j]?=some v→Value.okWide C.P W .any base t v)
 (hW:DataW.Whole enc C.P fn.params.toList spec.vars apart W args.toList ds gs before):
 Calls C.P f args W fun e W'=>∃v,e=.returned v∧spec.post enc C.P fn apart fresh handsOn again W args v W':=by
 have Gn:=hW;have af:∀p∈before,p.block<W.heap.size:=fun p hp=>Gn.lt p hp;obtain⟨p,q,hA,hV,rfl,BI,bm⟩:=hW;rw[MH] at hV;obtain⟨rfl,rfl⟩:=trodVars_none hV;obtain⟨es,k1,k2,k3⟩:=Tp (cap:=C.cap) (base':=base) fn.params.toList args.toList ds p sg.args hA km (fun j t v hj hv=>cf j t v (by simpa using hj) (by simpa using hv));have aV:DTys sg.args es:=.of_get k2 fun i t ht=>(k3 i t ht).dty
 have hlen:∀(ts:List TypeId) (vs:List Value) (ds:List (DataW H)) (ps:List MemPlace),DataW.TrodAll enc C.P W 0 (fun _=>true) true ts vs ds ps→ds.length=ts.length:=by
  intro ts
  induction ts with
  |nil=>intro vs ds ps h;cases vs<;>cases ds<;>first|rfl|exact h.elim
  |cons t ts ih=>
   intro vs ds ps h;cases vs with
   |nil=>cases ds<;>exact h.elim
   |cons v vs=>cases ds with
    |nil=>exact h.elim
    |cons d ds=>obtain⟨p,q,_,h2,_⟩:=h;simp[ih vs ds q h2]
 have Bz:ds.length=fn.params.size:=by simpa using hlen _ _ _ _ hA
 obtain⟨s1,s2,s3⟩:=ai7 (ds++[]) (by simpa using Bz);refine(L3 es aV (lV W) W args (ajJ W) sw ⟨k1,k2,k3⟩).mono fun e W' hh=>?_;obtain⟨v,σ',rfl,_,_,hb,_,_,hr⟩:=hh;refine⟨v,rfl,?_⟩;simp only[nq,lP,sE] at hr;obtain⟨b,rfl,uM⟩:=hr.bool_inv;cases uM
 have stays:∀(sp:Nat→Bool) (ts:List TypeId) (vs:List Value) (ds:List (DataW H)) (ps:List MemPlace),ts.all (fun t=>C.P.readableRec t&&decide (t<C.P.types.size))=true→(∀x∈ps,x.block<W.heap.size)→(∀x∈ps,sp x.block=true)→
  DataW.TrodAll enc C.P W 0 (fun _=>true) true ts vs ds ps→DataW.TrodAll enc C.P W' 0 sp true ts vs ds ps:=by
  intro sp ts
  induction ts with
  |nil=>intro vs ds ps _ _ _ h;cases vs<;>cases ds<;>first|exact h|exact h.elim
  |cons t ts ih=>
   intro vs ds ps ha q5 sH h;cases vs with
   |nil=>cases ds<;>exact h.elim
   |cons v vs=>cases ds with
    |nil=>exact h.elim
    |cons d ds=>
     obtain⟨p,q,h1,h2,rfl⟩:=h;simp only[oG,aq,decide_eq_true_eq] at ha
     exact⟨p,q,WideElems.Trod_stays hl ha.1.1 ha.1.2 h1 (fun x hx=>hb.same (q5 x (jc _ hx))) (fun x hx=>sH x (jc _ hx)),
      ih vs ds q (by simpa using ha.2) (fun x hx=>q5 x (jA _ hx)) (fun x hx=>sH x (jA _ hx)) h2,rfl⟩
 have VN:∀x∈p,x.block<W.heap.size:=fun x hx=>af x (jc _ hx);have gB:=fun sp (h:∀x∈p,sp x.block=true)=>stays sp _ _ _ _ aiQ VN h hA;have sD:∀(b:Nat) (sp:Nat→Bool) (hd:Bool),DataW.TrodAll enc C.P W' b sp hd fn.resultTypes.toList ((Value.bool true).resultList fn.resultTypes.size) [.lit (.bool true)] []:=by
  intro b sp hd;rw[kl];exact trodAll_mk1 (shut_bool Wh true)
 refine⟨ds,[],p++[],[],p,[],Gn,?_,?_,?_,World.keptBut_mono (fun x hx=>⟨hx,?_⟩) (hb.frame (·∈p++[])),fun _=>?_⟩
 ·rw[s1];exact sD _ _ _
 ·rw[s2];simpa using gB _ (fun x hx=>by simpa using VN x hx)
 ·rw[s3,MH];rfl
 ·simpa using hx
 ·refine⟨ok_one kl rfl (okWide_bool_mk Wh true),_,[],([]++p)++[],⟨[]++p,[],trodAll_append (gB _ (fun _ _=>rfl)) (sD _ _ _),by rw[MH];exact rfl,rfl,?_,?_⟩,?_⟩
  ·intro b off hp;have cv:MemPlace.cell b off∈p++[]:=by simpa using hp
   rw[hb.frozen (af _ cv)];exact BI b off cv
  ·intro ha;simpa using bm ha
  ·intro x hx _;simpa using hx
end Cx
namespace Cx
open Go Go.RowKit
abbrev cA:=Nat→aJ
def ak (T:cA)(f:Nat)(ds:List D)(d:D):Prop:=∃n0,∀n,n0≤n→T n f ds=some d
def wJ (T:cA)(l:List PI)(ρ:Env)(Q:Env→Prop):Prop:=∃ρ',Q ρ'∧∃n0,∀n,n0≤n→PI.runs (T n) l ρ=some ρ'
def aH (T:cA)(c:PC)(ρ:Env)(Q:Out→Prop):Prop:=∃x,Q x∧∃n0,∀n,n0≤n→c.ev (T n) n ρ=some x
theorem aH.mono {T:cA}{c:PC}{ρ:Env}{Q Q':Out→Prop}(h:aH T c ρ Q)(hq:∀x,Q x→Q' x):aH T c ρ Q':=by
 obtain⟨x,hx,n0,hn⟩:=h;exact⟨x,hq x hx,n0,hn⟩
theorem wJ.nil {T:cA}{ρ:Env}{Q:Env→Prop}(h:Q ρ):wJ T [] ρ Q:=⟨ρ,h,0,fun _ _=>rfl⟩
theorem wJ.cons {T:cA}{p:PI}{l:List PI}{ρ ρ1:Env}{Q:Env→Prop}{n0:Nat}(h:∀n,n0≤n→p.run (T n) ρ=some ρ1)(k:wJ T l ρ1 Q):wJ T (p::l) ρ Q:=by
 obtain⟨ρ',hQ,n1,h1⟩:=k;exact⟨ρ',hQ,max n0 n1,fun n hn=>by simp[PI.runs,h n (by omega),h1 n (by omega)]⟩
def fZ (T:cA):List PI→Env→(Env→Prop)→Prop
 |[],ρ,Q=>Q ρ
 |.setR t e::l,ρ,Q=>fZ T l (ρ.setR t (e.ev ρ)) Q
 |.setO t e::l,ρ,Q=>fZ T l (ρ.setO t (e.ev ρ)) Q
 |.chk e::l,ρ,Q=>(e.ev ρ).b=true∧fZ T l ρ Q
 |.call gs dst f args::l,ρ,Q=>if holds gs ρ=true then ∃d,ak T f (PE.evs ρ args) d∧fZ T l (ρ.setR dst d) Q else fZ T l ρ Q
 |.callc gs dst e args::l,ρ,Q=>if holds gs ρ=true then ∃f caps d,e.ev ρ=.clo f caps∧ak T f (PE.evs ρ args++caps) d∧fZ T l (ρ.setR dst d) Q else fZ T l ρ Q
 |.mcall j f args::l,ρ,Q=>∃d,ak T f (PE.evs ρ args) d∧fZ T l (ρ.setO j d) Q
theorem rI {T:cA}:∀{l:List PI} {ρ:Env} {Q:Env→Prop},fZ T l ρ Q→wJ T l ρ Q
 |[],ρ,Q,h=>.nil h
 |.setR t e::l,ρ,Q,h=>.cons (n0:=0) (fun _ _=>rfl) (rI h)
 |.setO t e::l,ρ,Q,h=>.cons (n0:=0) (fun _ _=>rfl) (rI h)
 |.chk e::l,ρ,Q,h=>.cons (n0:=0) (fun n _=>by simp[PI.run,h.1]) (rI h.2)
 |.call gs dst f args::l,ρ,Q,h=>by
  unfold fZ at h;split at h
  ·rename_i hg;obtain⟨d,⟨n0,hn⟩,h⟩:=h;exact .cons (n0:=n0) (fun n hle=>by simp[PI.run,hg,hn n hle]) (rI h)
  ·rename_i hg;exact .cons (n0:=0) (fun n hle=>by simp[PI.run,hg]) (rI h)
 |.callc gs dst e args::l,ρ,Q,h=>by
  unfold fZ at h;split at h
  ·rename_i hg;obtain⟨f,caps,d,he,⟨n0,hn⟩,h⟩:=h;exact .cons (n0:=n0) (fun n hle=>by simp[PI.run,hg,he,hn n hle]) (rI h)
  ·rename_i hg;exact .cons (n0:=0) (fun n hle=>by simp[PI.run,hg]) (rI h)
 |.mcall j f args::l,ρ,Q,h=>by
  obtain⟨d,⟨n0,hn⟩,h⟩:=h;exact .cons (n0:=n0) (fun n hle=>by simp[PI.run,hn n hle]) (rI h)
def jP (ρ:Env)(lr lo:List Nat)(Q:Out→Prop):Out→Prop
 |.next ρ'=>Q (.next (ρ.join lr lo ρ'))
 |x=>Q x
def kE (ρ:Env)(id:Nat)(lr lo:List Nat)(Q:Out→Prop):Out→Prop
 |.next ρ'=>Q (.next (ρ.join lr lo ρ'))
 |.exit bM ρ'=>if bM=id then Q (.next (ρ.join lr lo ρ')) else Q (.exit bM ρ')
 |.ret d=>Q (.ret d)
def fY (K:Env→Prop)(Q:Out→Prop):Out→Prop
 |.next ρ'=>K ρ'
 |.exit id ρ'=>Q (.exit id ρ')
 |.ret d=>Q (.ret d)
theorem aH.is {T:cA}{l:List PI}{ρ:Env}{Q:Out→Prop}(h:fZ T l ρ fun ρ'=>Q (.next ρ')):aH T (.is l) ρ Q:=by
 obtain⟨ρ',hQ,n0,hn⟩:=rI h;exact⟨.next ρ',hQ,n0,fun n hle=>by simp[PC.ev,hn n hle]⟩
theorem aH.skip {T:cA}{ρ:Env}{Q:Out→Prop}(h:Q (.next ρ)):aH T .skip ρ Q:=⟨_,h,0,fun _ _=>rfl⟩
theorem aH.exit {T:cA}{ρ:Env}{id:Nat}{Q:Out→Prop}(h:Q (.exit id ρ)):aH T (.exit id) ρ Q:=⟨_,h,0,fun _ _=>rfl⟩
theorem aH.ret {T:cA}{ρ:Env}{e:PE}{Q:Out→Prop}(h:Q (.ret (e.ev ρ))):aH T (.ret e) ρ Q:=⟨_,h,0,fun _ _=>rfl⟩
theorem aH.seq {T:cA}{a b:PC}{ρ:Env}{Q:Out→Prop}(h:aH T a ρ (fY (fun ρ'=>aH T b ρ' Q) Q)):aH T (.seq a b) ρ Q:=by
 obtain⟨x,hx,n0,hn⟩:=h;cases x with
 |next ρ'=>
  obtain⟨y,hy,n1,h1⟩:=hx;exact⟨y,hy,max n0 n1,fun n hle=>by simp[PC.ev,hn n (by omega),h1 n (by omega)]⟩
 |exit id ρ'=>exact⟨_,hx,n0,fun n hle=>by simp[PC.ev,hn n hle]⟩
 |ret d=>exact⟨_,hx,n0,fun n hle=>by simp[PC.ev,hn n hle]⟩
theorem aH.ite {T:cA}{c:PE}{lr lo:List Nat}{a b:PC}{ρ:Env}{Q:Out→Prop}(h:if(c.ev ρ).b=true then aH T a ρ (jP ρ lr lo Q) else aH T b ρ (jP ρ lr lo Q)):aH T (.ite c lr lo a b) ρ Q:=by
 split at h
 all_goals
  rename_i hc;obtain⟨x,hx,n0,hn⟩:=h;cases x with
  |next ρ'=>exact⟨_,hx,n0,fun n hle=>by simp[PC.ev,hc,hn n hle]⟩
  |exit id ρ'=>exact⟨_,hx,n0,fun n hle=>by simp[PC.ev,hc,hn n hle]⟩
  |ret d=>exact⟨_,hx,n0,fun n hle=>by simp[PC.ev,hc,hn n hle]⟩
theorem aH.block {T:cA}{id:Nat}{lr lo:List Nat}{a:PC}{ρ:Env}{Q:Out→Prop}(h:aH T a ρ (kE ρ id lr lo Q)):aH T (.block id lr lo a) ρ Q:=by
 obtain⟨x,hx,n0,hn⟩:=h;cases x with
 |next ρ'=>exact⟨_,hx,n0,fun n hle=>by simp[PC.ev,hn n hle]⟩
 |exit bM ρ'=>
  simp only[kE] at hx;split at hx
  ·rename_i e;subst e;exact⟨_,hx,n0,fun n hle=>by simp[PC.ev,hn n hle]⟩
  ·rename_i e;exact⟨_,hx,n0,fun n hle=>by simp[PC.ev,hn n hle,eQ e]⟩
 |ret d=>exact⟨_,hx,n0,fun n hle=>by simp[PC.ev,hn n hle]⟩
theorem aH.loop {T:cA}{lr lo:List Nat}{a:PC}{ρ:Env}{Q:Out→Prop}{α:Type}(inv:α→List D→List D→Prop)(sV:α→Nat)(s0:α)(h0:inv s0 (lr.map ρ.r) (lo.map ρ.o))
 (step:∀s vr vo,inv s vr vo→aH T a (ρ.put lr vr lo vo) (fY (fun ρ'=>∃s',sV s'<sV s∧inv s' (lr.map ρ'.r) (lo.map ρ'.o)) Q)):aH T (.loop lr lo a) ρ Q:=by
 have key:∀(m:Nat) (s:α) (vr vo:List D),sV s≤m→inv s vr vo→∃x,Q x∧∃n0,∀n k,n0≤n→n0≤k→eY (a.ev (T n) n) ρ lr lo k vr vo=some x:=by
  intro m
  induction m with
  |zero=>
   intro s vr vo hm hi;obtain⟨x,hx,n0,hn⟩:=step s vr vo hi;cases x with
   |next ρ'=>obtain⟨s',af,_⟩:=hx;omega
   |exit id ρ'=>
    refine⟨_,hx,n0+1,fun n k hle hk=>?_⟩;obtain⟨k',rfl⟩:∃k',k=k'+1:=⟨k-1,by omega⟩
    simp[eY,hn n (by omega)]
   |ret d=>
    refine⟨_,hx,n0+1,fun n k hle hk=>?_⟩;obtain⟨k',rfl⟩:∃k',k=k'+1:=⟨k-1,by omega⟩
    simp[eY,hn n (by omega)]
  |succ m ih=>
   intro s vr vo hm hi;obtain⟨x,hx,n0,hn⟩:=step s vr vo hi;cases x with
   |next ρ'=>
    obtain⟨s',af,dO⟩:=hx;obtain⟨y,hy,n1,h1⟩:=ih s' _ _ (by omega) dO;refine⟨y,hy,max n0 n1+1,fun n k hle hk=>?_⟩;obtain⟨k',rfl⟩:∃k',k=k'+1:=⟨k-1,by omega⟩
    simp[eY,hn n (by omega),h1 n k' (by omega) (by omega)]
   |exit id ρ'=>
    refine⟨_,hx,n0+1,fun n k hle hk=>?_⟩;obtain⟨k',rfl⟩:∃k',k=k'+1:=⟨k-1,by omega⟩
    simp[eY,hn n (by omega)]
   |ret d=>
    refine⟨_,hx,n0+1,fun n k hle hk=>?_⟩;obtain⟨k',rfl⟩:∃k',k=k'+1:=⟨k-1,by omega⟩
    simp[eY,hn n (by omega)]
 obtain⟨x,hx,n0,hn⟩:=key (sV s0) s0 _ _ (aU _) h0;exact⟨x,hx,n0,fun n hle=>by simp only[PC.ev];exact hn n n hle hle⟩
def rZ (ρ:Env)(lo:List Nat)(rt:Option PE)(K:List D→Prop)(Q:Out→Prop):Out→Prop
 |.next ρ'=>K (lo.map ρ'.o)
 |.exit id ρ'=>if id=cD then ∃e,rt=some e∧Q (.ret (e.ev (ρ.put [] [] lo (lo.map ρ'.o)))) else Q (.exit id (ρ.put [] [] lo (lo.map ρ'.o)))
 |.ret _=>False
theorem aH.each {T:cA}{e:PE}{ps lo:List Nat}{rt:Option PE}{a:PC}{ρ:Env}{Q:Out→Prop}(xs:List D)(he:(e.ev ρ).l=xs)(inv:Nat→List D→Prop)(h0:inv 0 (lo.map ρ.o))
 (step:∀k x vo,xs[k]?=some x→inv k vo→aH T a (ρ.put ps (partsOf ps x) lo vo) (rZ ρ lo rt (inv (k+1)) Q)) (done:∀vo,inv xs.length vo→Q (.next (ρ.put [] [] lo vo))):aH T (.each e ps lo rt a) ρ Q:=by
 have key:∀(r k:Nat) (vo:List D),k+r=xs.length→inv k vo→∃x,Q x∧∃n0,∀n,n0≤n→fF (a.ev (T n) n) ρ ps lo rt (xs.drop k) vo=some x:=by
  intro r
  induction r with
  |zero=>
   intro k vo hk hi;have:xs.drop k=[]:=by rw[SR];omega
   obtain rfl:k=xs.length:=by omega
   exact⟨_,done vo hi,0,fun n _=>by rw[this];rfl⟩
  |succ r ih=>
   intro k vo hk hi;have af:k<xs.length:=by omega
   rw[abH af];obtain⟨y,hy,n0,hn⟩:=step k xs[k] vo (be af) hi;cases y with
   |next ρ'=>
    obtain⟨z,hz,n1,h1⟩:=ih (k+1) _ (by omega) hy;exact⟨z,hz,max n0 n1,fun n hle=>by simp only[fF,hn n (by omega)];exact h1 n (by omega)⟩
   |exit id ρ'=>
    simp only[rZ] at hy;split at hy
    ·rename_i cu;obtain⟨e,h1,h2⟩:=hy;exact⟨_,h2,n0,fun n hle=>by subst cu;simp[fF,hn n hle,h1]⟩
    ·rename_i cu;exact⟨_,hy,n0,fun n hle=>by simp[fF,hn n hle,eQ cu]⟩
   |ret d=>exact hy.elim
 obtain⟨x,hx,n0,hn⟩:=key xs.length 0 _ (by omega) h0;exact⟨x,hx,n0,fun n hle=>by simp only[PC.ev,he];exact hn n hle⟩
theorem Zt {α:Type}:∀(l:List α),∃L:List (List α),∀ys,ys∈L↔ys.Perm l
 |[]=>⟨[[]],fun ys=>by simp⟩
 |x::l=>by
  obtain⟨L,hL⟩:=Zt l;refine⟨L.flatMap fun ys=>(List.range (ys.length+1)).map fun i=>ys.take i++x::ys.drop i,fun zs=>?_⟩;simp only[Eg,cZ,gf];constructor
  ·rintro⟨ys,hy,i,_,rfl⟩;have h1:=(hL ys).1 hy;refine(List.perm_middle).trans (.cons x ?_);rw[JJ];exact h1
  ·intro h;have hx:x∈zs:=h.symm.subset (eC ..);obtain⟨s,t,rfl⟩:=List.append_of_mem hx;refine⟨s++t,(hL _).2 ?_,s.length,by simp;omega,by simp⟩;exact(List.perm_cons x).1 ((List.perm_middle).symm.trans h)
theorem aH.meach {T:cA}{J:Nat}{ps cE lo:List Nat}{a:PC}{ρ:Env}{Q:Out→Prop}(es:List (D×D))(he:ρ.o J=.tup [.list [],.map es])(inv:List D→List D→Prop)(h0:inv [] (lo.map ρ.o))
 (step:∀done x rest vo,(done++x::rest).Perm (gr (.map es))→inv done vo→aH T a ((ρ.put ps (cE.map x.tget) lo vo).setO J (.tup [.list (done++[x]),.map es])) (fun y=>∃ρ',y=.next ρ'∧inv (done++[x]) (lo.map ρ'.o)))
 (last:∃vo,(∀done,done.Perm (gr (.map es))→∀lj,inv done lj→lj=vo)∧Q (.next (ρ.put [] [] lo vo))):aH T (.meach J ps cE lo a) ρ Q:=by
 obtain⟨vo,hl,hQ⟩:=last;have key:∀(xs done:List D) (vs:List D),(done++xs).Perm (gr (.map es))→inv done vs→∃n0,∀n,n0≤n→kr (a.ev (T n) n) ρ J (.map es) ps cE lo xs done vs=some vo:=by
  intro xs
  induction xs with
  |nil=>intro done vs hp hi;exact⟨0,fun n _=>by rw[hl done (by simpa using hp) vs hi];rfl⟩
  |cons x xs ih=>
   intro done vs hp hi;obtain⟨y,⟨ρ',rfl,dO⟩,n0,hn⟩:=step done x xs vs hp hi;obtain⟨n1,h1⟩:=ih (done++[x]) _ (by simpa using hp) dO;exact⟨max n0 n1,fun n hle=>by simp only[kr,hn n (by omega)];exact h1 n (by omega)⟩
 have lL:∀(L:List (List D)),(∀ys,ys∈L→ys.Perm (gr (.map es)))→∃n0,∀n,n0≤n→∀ys,ys∈L→kr (a.ev (T n) n) ρ J (.map es) ps cE lo ys [] (lo.map ρ.o)=some vo:=by
  intro L
  induction L with
  |nil=>intro _;exact⟨0,fun n _ ys hy=>by cases hy⟩
  |cons y L ih=>
   intro hL;obtain⟨n0,gO⟩:=ih fun ys hy=>hL ys (ef _ hy);obtain⟨n1,h1⟩:=key y [] _ (by simpa using hL y (eC ..)) h0;refine⟨max n0 n1,fun n hle ys hy=>?_⟩;rcases cG.1 hy with e|hy
   ·subst e;exact h1 n (by omega)
   ·exact gO n (by omega) ys hy
 obtain⟨L,hL⟩:=Zt (gr (.map es));obtain⟨n0,hn⟩:=lL L fun ys hy=>(hL ys).1 hy;refine⟨_,hQ,n0,fun n hle=>?_⟩;simp only[PC.ev,vL];refine⟨vo,⟨by rw[he];rfl,fun ys hy=>?_⟩,rfl⟩;rw[he] at hy ⊢;exact hn n hle ys ((hL ys).2 hy)
theorem bounded {Q:Nat→Nat→Prop}:∀(L:Nat),(∀m,m≤L→∃n0,∀n,n0≤n→Q m n)→∃n0,∀n,n0≤n→∀m,m≤L→Q m n
 |0,h=>by
  obtain⟨n0,hn⟩:=h 0 (aU _)
  exact⟨n0,fun n hle m hm=>by obtain rfl:m=0:=by omega
                              exact hn n hle⟩
 |L+1,h=>by
  obtain⟨n0,hn⟩:=bounded L fun m hm=>h m (by omega);obtain⟨n1,h1⟩:=h (L+1) (aU _);refine⟨max n0 n1,fun n hle m hm=>?_⟩;by_cases e:m=L+1
  ·subst e;exact h1 n (by omega)
  ·exact hn n (by omega) m (by omega)
theorem ak.of_pc {tab:Nat→Option PC}{ext:Nat→Option (aJ→List D→Option D)}{f:Nat}{pc:PC}{ds:List D}{d:D}(hx:ext f=none)(ht:tab f=some pc)(h:aH (cH tab ext) pc (jG ds) (fun x=>x=.ret d)):ak (cH tab ext) f ds d:=by
 obtain⟨x,rfl,n0,hn⟩:=h;refine⟨n0+1,fun n hle=>?_⟩;obtain⟨k,rfl⟩:∃k,n=k+1:=⟨n-1,by omega⟩
 simp[cH,hx,ht,hn k (by omega)]
theorem ak.of_ext {tab:Nat→Option PC}{ext:Nat→Option (aJ→List D→Option D)}{f:Nat}{g:aJ→List D→Option D}{ds:List D}{d:D}(hx:ext f=some g)(h:∃n0,∀n,n0≤n→g (cH tab ext n) ds=some d):ak (cH tab ext) f ds d:=by
 obtain⟨n0,hn⟩:=h;refine⟨n0+1,fun n hle=>?_⟩;obtain⟨k,rfl⟩:∃k,n=k+1:=⟨n-1,by omega⟩
 simp[cH,hx,hn k (by omega)]
def D5 (T:cA)(xs:List D)(m:Nat):cA:=fun n=>yldΦ (T n) xs m
theorem ak.yld {T:cA}{xs:List D}{m f:Nat}{ds:List D}{d:D}(h:ak T f ds d)(hf:f≠ln):ak (D5 T xs m) f ds d:=by
 obtain⟨n0,hn⟩:=h;exact⟨n0,fun n hle=>by simp[D5,yldΦ,hf,hn n hle]⟩
theorem ak.answer {T:cA}{xs l:List D}{m i:Nat}(hl:l=xs.take (i+1))(hi:i<xs.length)(hm:i≤m):ak (D5 T xs m) ln [.list l] (.v (.bool (decide (i<m)))):=by
 subst hl;refine⟨0,fun n _=>?_⟩;have h1:(xs.take (i+1)).length=i+1:=by rw[gd];omega
 simp only[D5,yldΦ,if_true,h1];rw[if_pos ⟨by omega,by omega,trivial⟩];rfl
theorem ak.of_it {tab:Nat→Option PC}{ext:Nat→Option (aJ→List D→Option D)}{f:Nat}{pc:PC}{J k:Nat}{spec:List D→List D}{ds:List D}(hx:ext f=some (sO pc J k spec))(hk:∀x,x∈spec ds→∃ds',x=.tup ds'∧ds'.length=k)
 (h:∀m,m≤(spec ds).length→aH (D5 (cH tab ext) (spec ds) m) pc (xU J ds) (fun x=>x=.ret (.list ((spec ds).take (m+1))))):ak (cH tab ext) f ds (.list (spec ds)):=by
 refine ak.of_ext hx ?_
 obtain⟨n0,hn⟩:=bounded (Q:=fun m n=>pc.ev (yldΦ (cH tab ext n) (spec ds) m) n (xU J ds)=some (.ret (.list ((spec ds).take (m+1))))) (spec ds).length (fun m hm=>by
  obtain⟨x,rfl,n0,hn⟩:=h m hm;exact⟨n0,hn⟩)
 refine⟨n0,fun n hle=>?_⟩;unfold sO;rw[if_pos];exact⟨fun m hm=>⟨n,hn n hle m hm⟩,hk⟩
theorem yldΦ_mono {Φ Ψ:aJ}(h:∀f ds d,Φ f ds=some d→Ψ f ds=some d)(xs:List D)(m:Nat):∀f ds d,yldΦ Φ xs m f ds=some d→yldΦ Ψ xs m f ds=some d:=by
 intro f ds d e;unfold yldΦ at e ⊢;split at e
 ·rename_i hf;rw[if_pos hf];exact e
 ·rename_i hf;rw[if_neg hf];exact h f ds d e
theorem ak.fnOK {C:Ctx}{tab:Nat→Option PC}{ext:Nat→Option (aJ→List D→Option D)}(h:TabOK C tab ext){f:Nat}{s:Sig}{ds:List D}{d:D}(hs:C.sig f=some s)(hr:ak (cH tab ext) f ds d)(hm:pE s.mode=false:=by rfl):j2 C f s ds d:=by
 obtain⟨n0,hn⟩:=hr;exact((Tf h n0).1 f ds d (hn n0 (aU _)) s hs).1 hm
def Le (Φ Ψ:aJ):Prop:=∀f ds d,Φ f ds=some d→Ψ f ds=some d
theorem PI.run_mono {Φ Ψ:aJ}(h:Le Φ Ψ){p:PI}{ρ ρ':Env}(hr:p.run Φ ρ=some ρ'):p.run Ψ ρ=some ρ':=by
 cases p with
 |setR t e=>exact hr
 |setO t e=>exact hr
 |chk e=>exact hr
 |call gs d f aa=>
  simp only[PI.run] at hr ⊢;cases hg:holds gs ρ<;>simp only[hg,cond_true,cond_false] at hr ⊢
  ·exact hr
  ·simp only[ax] at hr ⊢;obtain⟨x,hx,e⟩:=hr;exact⟨x,h _ _ _ hx,e⟩
 |callc gs d f aa=>
  simp only[PI.run] at hr ⊢;cases hg:holds gs ρ<;>simp only[hg,cond_true,cond_false] at hr ⊢
  ·exact hr
  ·split at hr
   ·simp only[ax] at hr ⊢;obtain⟨x,hx,e⟩:=hr;exact⟨x,h _ _ _ hx,e⟩
   ·cases hr
 |mcall j f aa=>
  simp only[PI.run,ax] at hr ⊢;obtain⟨x,hx,e⟩:=hr;exact⟨x,h _ _ _ hx,e⟩
theorem PI.runs_mono {Φ Ψ:aJ}(h:Le Φ Ψ):∀{l:List PI} {ρ ρ':Env},PI.runs Φ l ρ=some ρ'→PI.runs Ψ l ρ=some ρ'
 |[],ρ,ρ',hr=>hr
 |p::l,ρ,ρ',hr=>by
  simp only[PI.runs,ar] at hr ⊢;obtain⟨x,hx,e⟩:=hr;exact⟨x,PI.run_mono h hx,PI.runs_mono h e⟩
theorem W9 {b c:Env→Option Out}(h:∀ρ x,b ρ=some x→c ρ=some x){ρ:Env}{lr lo:List Nat}:∀{n m:Nat} {vr vo:List D} {x:Out},n≤m→eY b ρ lr lo n vr vo=some x→eY c ρ lr lo m vr vo=some x
 |0,m,vr,vo,x,_,hr=>by simp[eY] at hr
 |n+1,m,vr,vo,x,hle,hr=>by
  obtain⟨m,rfl⟩:∃k,m=k+1:=⟨m-1,by omega⟩
  simp only[eY] at hr ⊢;cases hb:b (ρ.put lr vr lo vo) with
  |none=>rw[hb] at hr;cases hr
  |some y=>
   rw[h _ _ hb];rw[hb] at hr;cases y with
   |next ρ'=>exact W9 h (by omega) hr
   |exit id ρ'=>exact hr
   |ret d=>exact hr
theorem Uo {b c:Env→Option Out}(h:∀ρ x,b ρ=some x→c ρ=some x){ρ:Env}{ps lo:List Nat}{rt:Option PE}:∀{xs vo:List D} {x:Out},fF b ρ ps lo rt xs vo=some x→fF c ρ ps lo rt xs vo=some x
 |[],vo,x,hr=>hr
 |y::xs,vo,x,hr=>by
  simp only[fF] at hr ⊢;cases hb:b (ρ.put ps (partsOf ps y) lo vo) with
  |none=>rw[hb] at hr;cases hr
  |some z=>
   rw[h _ _ hb];rw[hb] at hr;cases z with
   |next ρ'=>exact Uo h hr
   |exit id ρ'=>exact hr
   |ret d=>cases hr
theorem Zs {b c:Env→Option Out}(h:∀ρ x,b ρ=some x→c ρ=some x){ρ:Env}{J:Nat}{es:D}{ps cE lo:List Nat}:∀{xs done vo lj:List D},kr b ρ J es ps cE lo xs done vo=some lj→kr c ρ J es ps cE lo xs done vo=some lj
 |[],_,_,_,hr=>hr
 |x::xs,done,vo,lj,hr=>by
  simp only[kr] at hr ⊢;split at hr
  ·rename_i ρ' hb;rw[h _ _ hb];exact Zs h hr
  ·cases hr
theorem PC.ev_mono {Φ Ψ:aJ}(h:Le Φ Ψ){n m:Nat}(hle:n≤m):∀{c:PC} {ρ:Env} {x:Out},c.ev Φ n ρ=some x→c.ev Ψ m ρ=some x:=by
 intro c
 induction c with
 |skip=>intro ρ x hr;exact hr
 |is l=>
  intro ρ x hr;simp only[PC.ev,ax] at hr ⊢;obtain⟨y,hy,e⟩:=hr;exact⟨y,PI.runs_mono h hy,e⟩
 |seq a b aY dc=>
  intro ρ x hr;simp only[PC.ev] at hr ⊢;cases ha:a.ev Φ n ρ with
  |none=>rw[ha] at hr;cases hr
  |some y=>rw[aY ha];rw[ha] at hr;cases y<;>first|exact dc hr|exact hr
 |ite c lr lo a b aY dc=>
  intro ρ x hr;simp only[PC.ev] at hr ⊢;cases hc:(c.ev ρ).b<;>simp only[hc,cond_true,cond_false] at hr ⊢
  ·cases ha:b.ev Φ n ρ with
   |none=>rw[ha] at hr;cases hr
   |some y=>rw[dc ha];rw[ha] at hr;exact hr
  ·cases ha:a.ev Φ n ρ with
   |none=>rw[ha] at hr;cases hr
   |some y=>rw[aY ha];rw[ha] at hr;exact hr
 |block id lr lo a aY=>
  intro ρ x hr;simp only[PC.ev] at hr ⊢;cases ha:a.ev Φ n ρ with
  |none=>rw[ha] at hr;cases hr
  |some y=>rw[aY ha];rw[ha] at hr;exact hr
 |loop lr lo a aY=>intro ρ x hr;exact W9 (fun ρ x=>aY) hle hr
 |exit id=>intro ρ x hr;exact hr
 |ret e=>intro ρ x hr;exact hr
 |each e ps lo rt a aY=>intro ρ x hr;exact Uo (fun ρ x=>aY) hr
 |meach J ps cE lo a aY=>
  intro ρ x hr;simp only[PC.ev,vL] at hr ⊢;obtain⟨vo,⟨h1,h2⟩,rfl⟩:=hr;exact⟨vo,⟨h1,fun ys hy=>Zs (fun ρ x=>aY) (h2 ys hy)⟩,rfl⟩
theorem Te {tab:Nat→Option PC}{ext:Nat→Option (aJ→List D→Option D)}(hx:∀f g,ext f=some g→∀Φ Ψ,Le Φ Ψ→∀ds d,g Φ ds=some d→g Ψ ds=some d):∀{n m:Nat},n≤m→Le (cH tab ext n) (cH tab ext m)
 |0,m,_=>fun f ds d h=>by simp[cH] at h
 |n+1,m,hle=>by
  obtain⟨m,rfl⟩:∃k,m=k+1:=⟨m-1,by omega⟩
  have ih:=Te (tab:=tab) hx (n:=n) (m:=m) (by omega);intro f ds d h;simp only[cH] at h ⊢;split at h
  ·rename_i g hg;exact hx f g hg _ _ ih ds d h
  ·split at h
   ·rename_i pc _;cases he:pc.ev (cH tab ext n) n (jG ds) with
    |none=>rw[he] at h;cases h
    |some x=>
     rw[PC.ev_mono ih (by omega) he];rw[he] at h;exact h
   ·cases h
theorem ajS {pc:PC}{J k:Nat}{spec:List D→List D}{Φ Ψ:aJ}(h:Le Φ Ψ){ds:List D}{d:D}(e:sO pc J k spec Φ ds=some d):sO pc J k spec Ψ ds=some d:=by
 unfold sO at e ⊢;split at e
 ·rename_i hs;rw[if_pos]
  ·exact e
  ·exact⟨fun m hm=>let⟨N,hN⟩:=hs.1 m hm;⟨N,PC.ev_mono (yldΦ_mono h _ m) (aU _) hN⟩,hs.2⟩
 ·cases e
theorem ak.of_at {tab:Nat→Option PC}{ext:Nat→Option (aJ→List D→Option D)}(hx:∀f g,ext f=some g→∀Φ Ψ,Le Φ Ψ→∀ds d,g Φ ds=some d→g Ψ ds=some d)(n:Nat){f:Nat}{ds:List D}{d:D}(h:cH tab ext n f ds=some d):ak (cH tab ext) f ds d:=
 ⟨n,fun m hm=>Te hx hm f ds d h⟩
theorem Env.setR_r (ρ:Env)(t u:Nat)(d:D):(ρ.setR t d).r u=if u=t then d else ρ.r u:=by simp only[Env.setR,fg]
theorem Env.setO_o (ρ:Env)(t u:Nat)(d:D):(ρ.setO t d).o u=if u=t then d else ρ.o u:=by simp only[Env.setO,fg]
theorem Env.join_r (ρ ρ':Env)(lr lo:List Nat)(u:Nat):(ρ.join lr lo ρ').r u=if u∈lr then ρ'.r u else ρ.r u:=by simp only[Env.join,Env.put,rq]
theorem Env.join_o (ρ ρ':Env)(lr lo:List Nat)(u:Nat):(ρ.join lr lo ρ').o u=if u∈lo then ρ'.o u else ρ.o u:=by simp only[Env.join,Env.put,rq]
theorem H0 (f:Nat→D)(i:Nat)(is:List Nat)(x:D)(xs:List D)(u:Nat):putL f (i::is) (x::xs) u=if u=i then x else putL f is xs u:=by simp only[putL,fg]
theorem H2 (f:Nat→D)(xs:List D)(u:Nat):putL f [] xs u=f u:=by cases xs<;>rfl
theorem aiA (g:Nat×Bool)(gs:List (Nat×Bool))(ρ:Env):holds (g::gs) ρ=((ρ.r g.1).b==g.2&&holds gs ρ):=rfl
theorem D.tget_tup (x:List D)(i:Nat):(D.tup x).tget i=x.getD i .none:=rfl
theorem D.c_agg (x:List D)(i:Nat):(D.agg x).c i=x.getD i .none:=rfl
end Cx
