/-
  Shared texts of this claim.
-/
import Derived.Test.YtipjidjopglknaaGreatDoorEAH
import Derived.Below
import Derived.ChangeSame
import Derived.WalkKit
import Derived.ProofKit
import Derived.OpenShut
import Derived.Carry
import Derived.JoinedCond
set_option linter.unusedSimpArgs false
set_option linter.unusedVariables false
noncomputable section
namespace Cx
open Go Go.RowKit
def Uf (m:Nat)(s:Sig):Snap:=⟨s.args.map .dat++List.replicate (m-s.args.length) .none,[]⟩
def kG (ds:List D):Env:=⟨fun t=>ds.getD t .none,fun _=>.none⟩
def sQ (C:Ctx)(fn:Func)(s:Sig)(ids:List Nat)(S0:Snap):Option PC:=
 match fn.body with
 |some c=>
  (comp C fn s fn.ntmps ids (I0 C fn.ntmps ids) false c S0).bind fun r=>
    match r.out with
    |none=>some r.pc
    |some S=>(wR C fn s (S.st ids)).map fun e=>.seq r.pc (.ret e)
 |none=>none
def La (m:Nat)(shs:List Sh)(obs:List (Nat×Ob))(ids:List Nat):Snap:=⟨shs++List.replicate (m-shs.length) .none,ids.map (dT obs)⟩
def Gp (shs:List Sh)(obs:List (Nat×Ob))(ds:List D):Env:=lJ obs ds (ds.drop shs.length)
def C3 (l:List Nat):Nat→List Sh→Bool
 |_,[]=>true
 |t,s::ss=>(mu s|| !eL l t)&&C3 l (t+1) ss
def Ak:List (Nat×Ob)→Nat→List PI
 |[],_=>[]
 |x::l,k=>Ak l (k+1)++[.setO x.1 (.r k)]
theorem aaI {Φ:aK}:∀(l:List (Nat×Ob)) (k:Nat) (ρ:Env) (ds:List D),(∀i,ρ.r (k+i)=ds.getD i .none)→(∀j,ρ.o j=.none)→PI.runs Φ (Ak l k) ρ=some ⟨ρ.r,fun j=>mA l ds j⟩
 |[],k,ρ,ds,h,ho=>by
  simp only[Ak,PI.runs]
  congr 1
  cases ρ with|mk r o=>congr 1;funext j;exact ho j
 |x::l,k,ρ,ds,h,ho=>by
  simp only[Ak,nE]
  rw[aaI l (k+1) ρ ds.tail (fun i=>by
   have:=h (i+1);rw[sK,AN 1 i,this];cases ds<;>simp) ho]
  simp only[jG,PI.runs,PI.run,PE.ev,Env.setO]
  congr 1
  congr 1
  funext j;rw[eR];have h0:=h 0;simp only[ib] at h0;cases ds with
  |nil=>
   have e:∀m j,mA m [] j=D.none:=fun m j=>by cases m<;>rfl
   rw[h0];split<;>simp[e]
  |cons d ds=>
   simp only[mA,List.tail_cons];by_cases hj:j=x.1
   ·subst hj;rw[if_pos rfl,gu,h0];rfl
   ·rw[if_neg hj,dY (fun e=>hj e.symm)];rfl
theorem anT {Φ:aK}(shs:List Sh)(obs:List (Nat×Ob))(ds:List D):PI.runs Φ (Ak obs shs.length) (kG ds)=some (Gp shs obs ds):=by
 rw[aaI obs shs.length (kG ds) (ds.drop shs.length) (fun i=>by simp[kG,aG]) (fun j=>rfl)];rfl
def Fc (fn:Func):List Nat:=match fn.body with|some c=>cm c|none=>[]
def tP:List (Nat×Ob)→Bool
 |[]=>true
 |x::l=>(match x.2 with|.tr=>false|_=>true)&&tP l
def eW (C:Ctx)(fn:Func)(s:Sig)(ids:List Nat):Option PC:=
 match C.yl with
 |none=>
  match s.mode with
  |.ob shs obs=>bif Nat.ble shs.length fn.ntmps&&C3 (Fc fn) 0 shs&&shs.all rT&&tP obs then(sQ C fn s ids (La fn.ntmps shs obs ids)).map fun pc=>.seq (.is (Ak obs shs.length)) pc else none
  |_=>bif Nat.ble s.args.length fn.ntmps then sQ C fn s ids (Uf fn.ntmps s) else none
 |some _=>none
theorem WU:∀(ids:List Nat) (j:Nat),di ids [] j=.dead
 |[],_=>rfl
 |_::_,_=>rfl
theorem KT {C:Ctx}{Φ:aK}(aV:de C)(hΦ:cL C Φ)(dB:fI C Φ){fn:Func}{s:Sig}{ids:List Nat}{S0:Snap}{pc:PC}{c:Code}(hb:fn.body=some c)(hc:sQ C fn s ids S0=some pc){w0:World}{σ0:Base}(me:σ0.fin)(hC:CtxOK C σ0)(hY:nU C Φ w0 σ0)
 {N:Nat} {ρ:Env} {d:D} {a:Act} {w:World} (hn:a.tmps.size=fn.ntmps) (hg:Good C w0 σ0 (S0.st ids) ρ (fun _=>False) a w) (he:pc.ev Φ N ρ=some (.ret d)):
 c.wpIn (FR none) 0 C.P (fun e a' w'=>(e=.normal∨e=.ret)∧pG C w0 σ0 fn s d a'.tmps a'.defers w'∧SameBut (fun t=>t∈cm c) a a') a w:=by
 unfold sQ at hc;rw[hb] at hc;simp only[aq] at hc;obtain⟨r,hr,hc⟩:=hc;have MH:=fun x hx=>ad3 (fn:=fn) (s:=s) (N:=N) dB (ans (n:=fn.ntmps) (ids:=ids) aV hΦ) c false S0 r hr none w0 σ0 (fun t=>t∈cm c) ρ x a w (fun _=>⟨rfl,me⟩) hC hY (fun _ h=>h) hn hg hx;split at hc
 ·rename_i jP;cases hc;refine wpIn_mono (MH (.ret d) he) fun e a' w' ho=>?_;cases e with
  |normal=>obtain⟨_,_,h,_⟩:=ho;cases h
  |exit id=>obtain⟨_,_,h,_⟩:=ho;cases h
  |ret=>obtain⟨d',h,h2⟩:=ho;cases h;exact⟨.inr rfl,h2⟩
  |_=>exact ho.elim
 ·rename_i S jP;simp only[ax] at hc;obtain⟨pe,tu,rfl⟩:=hc;simp only[PC.ev] at he;split at he
  ·rename_i ρ1 h1;cases he;refine wpIn_mono (MH (.next ρ1) h1) fun e a' w' ho=>?_;cases e with
   |normal=>
    obtain⟨ρ2,S2,e1,e2,tq,gB⟩:=ho;cases e1;rw[jP] at e2;cases e2;obtain⟨σ2,own,hv,hi⟩:=gB;exact⟨.inl rfl,Inv.retD hC (fun _=>rfl) me tu _ hi rfl,tq⟩
   |exit id=>obtain⟨_,_,h,_⟩:=ho;cases h
   |ret=>obtain⟨d',h,h2⟩:=ho;cases h
   |_=>exact ho.elim
  ·rename_i ay;refine wpIn_mono (MH (.ret d) he) fun e a' w' ho=>?_;cases e with
   |normal=>obtain⟨_,_,h,_⟩:=ho;cases h
   |exit id=>obtain⟨_,_,h,_⟩:=ho;cases h
   |ret=>obtain⟨d',h,h2⟩:=ho;cases h;exact⟨.inr rfl,h2⟩
   |_=>exact ho.elim
theorem pG.leaves {C:Ctx}{w0:World}{σ0:Base}{fn:Func}{s:Sig}{d:D}{tmps:Array Value}{R:Ending→World→Prop}(hR:∀w',JY C w0 σ0 fn s d {tmps:=tmps,defers:=[]} w'→∃v,(results fn tmps).run C.P w'=.ok v w'∧R (.returned v) w'):
 ∀(ds:List Deferred) (w:World),pG C w0 σ0 fn s d tmps ds w→LeavesInM (FR none) 0 C.P fn tmps R ds .returning w
 |[],w,h=>hR w h
 |x::ds,w,⟨D,h1,h2,h3⟩=>⟨by simp,.inl ⟨D,_,h1,run_takeDeferred h2,pG.leaves hR ds _ h3⟩⟩
theorem afe {C:Ctx}{σ:Im}{w:World}{args:Array Value}{ds:List D}{s:Sig}{m:Nat}{ids:List Nat}(au:σ.ok w)(ha:nL C σ s.args args.toList ds):
 Good C w (Base.mk0 σ w.heap.size) ((Uf m s).st ids) (kG ds) (fun _=>False) {tmps:=args++Array.replicate (m-args.size) undef,defers:=[]} w:=by
 obtain⟨h1,h2,h3⟩:=ha;have aC:args.size=s.args.length:=by simpa using h1
 refine⟨σ,fun _=>none,fun _=>undef,trivial,au,.refl σ,fun _ k e=>(au.m k _ e).lt,fun _ _ _ h=>.inl h,fun _ _ h=>.inl h,.refl _ _,aW _,(fun k j h=>by cases h),fun t=>?_,fun j=>?_,fun t gs s' e=>absurd e (Snap.noOpt _ _ t gs s'),
  .none,fun _=>False,fun _=>False,⟨⟨fun _=>id,fun _=>id⟩,(fun k j h=>by cases h),fun _ _ _ _=>id,fun _ _ _=>id,fun _ _ _=>id⟩,fun j hj=>?_⟩
 ·show aD C _ _ σ _ (cn ((s.args.map Sh.dat++List.replicate (m-s.args.length) Sh.none).getD t .none)) _ _;rw[aG];by_cases ht:t<s.args.length
  ·rw[jF (by simpa using ht),cg,bq ht];simp only[jI,jH,cn];have:=h3 t _ (bq ht);have e1:(args++Array.replicate (m-args.size) undef).getD t undef=args.toList.getD t undef:=by
        simp only[dH,aG];rw[Su (by omega)];simp
   show aD C _ _ σ _ (.dat _) ((args++Array.replicate (m-args.size) undef).getD t undef) (ds.getD t .none);rw[e1];exact this
  ·rw[kE (by simpa using ht),SP];split<;>trivial
 ·show bS C _ _ σ _ _ w _ j (di ids [] j);rw[WU];trivial
 ·change di ids [] j=.tr at hj;rw[WU] at hj;cases hj
theorem KU {C:Ctx}{Φ:aK}(aV:de C)(hΦ:cL C Φ)(dB:fI C Φ){f:Nat}{fn:Func}{s:Sig}{ids:List Nat}{pc:PC}(hf:C.P.funcs[f]?=some fn)(hc:eW C fn s ids=some pc){N:Nat}{ds:List D}{d:D}(cu:np s.mode=false)
 (he:pc.ev Φ N (kG ds)=some (.ret d)):fH C f s ds d:=by
 intro σ w args au hC ha;unfold eW at hc;split at hc
 case h_2=>cases hc
 rename_i jT;split at hc
 case h_1=>rename_i e;rw[e] at cu;cases cu
 cases hle:Nat.ble s.args.length fn.ntmps<;>simp only[hle,cond_true,cond_false] at hc
 ·cases hc
 have Cs:=jo hle;have aC:args.size=s.args.length:=by simpa using ha.1
 cases hb:fn.body with
 |none=>unfold sQ at hc;rw[hb] at hc;cases hc
 |some c=>
 refine(callsIn_wide (n:=0)).1 (callsIn_of_wp_marks (F:=FR none) hf hb trivial ?_);have hg:=afe (C:=C) (m:=fn.ntmps) (ids:=ids) au ha;have hn:(args++Array.replicate (fn.ntmps-args.size) undef).size=fn.ntmps:=by simp;omega
 refine wpIn_mono (KT aV hΦ dB hb hc (σ0:=Base.mk0 σ w.heap.size) trivial hC (fun J ys e=>by rw[jT] at e;cases e) hn hg he) fun e a' w' ho=>?_
 have main:=pG.leaves (R:=fun e w'=>∃v σ',e=.returned v∧σ.le σ'∧σ'.ok w'∧Below w.heap.size w w'∧
  (∀k o x,σ'.c k o=some x→σ.c k o=some x∨w.heap.size≤k)∧(∀k x,σ'.m k=some x→σ.m k=some x∨w.heap.size≤k)∧lf C s σ' w w' v d) (fun w2 CM=>by
  obtain⟨v,σ',_,h2,h3,h4,h5,h6,h7,h8⟩:=CM;exact⟨v,h2,v,σ',rfl,h3,h4,h5,h6,h7,h8⟩) _ _ ho.2.1
 rcases ho.1 with rfl|rfl<;>exact main
def Base.mkO (σ:Im)(own:Nat→Option Nat)(w:World)(cx:Nat→Prop):Base:=
 {σ with
  B:=0
  fin:=True
  F:=fun _ fx jL w'=>(∀k,fx k↔(k<w.heap.size∧own k=none))∧(∀k,jL k↔(fx k∧cx k))∧w.heap.size≤w'.heap.size∧∀k,fx k→w'.heap[k]?=w.heap[k]?
  lt:=fun t' fx cx w' h k hk=>qO ((h.1 k).1 hk).1 h.2.2.1
  sub:=fun t' fx cx w' h k hk=>((h.2.1 k).1 hk).1
  keep:=fun t' fx cx w' j4 h hb hs=>⟨h.1,h.2.1,ij h.2.2.1 hb.size,fun k hk=>(hs k hk).trans (h.2.2.2 k hk)⟩}
theorem WE {l:List Nat}:∀{shs:List Sh} {k:Nat},C3 l k shs=true→∀(t:Nat) (s:Sh),shs[t]?=some s→mu s=false→(k+t)∉l
 |[],k,_,t,s,h,_=>by simp at h
 |x::shs,k,hk,t,s,h,hd=>by
  simp only[C3,aj,fG,hZ] at hk;cases t with
  |zero=>
   simp at h;subst h;rcases hk.1 with h1|h1
   ·rw[hd] at h1;cases h1
   ·intro hm;rw[ib] at hm;rw[(oN _ _).2 hm] at h1;cases h1
  |succ t=>
   simp at h;have:=WE hk.2 t s h hd
   rwa [sK,AN 1 t] at this
theorem Ns (obs:List (Nat×Ob))(j:Nat):∀ids:List Nat,di ids (ids.map (dT obs)) j=.dead∨di ids (ids.map (dT obs)) j=dT obs j
 |[]=>.inl rfl
 |i::is=>by
  simp only[gr,di];cases hb:Nat.beq i j
  ·exact Ns obs j is
  ·right;rw[av hb];rfl
theorem Xu:∀{l:List (Nat×Ob)},tP l=true→∀x,x∈l→x.2≠.tr
 |[],_,x,hx=>by cases hx
 |y::l,h,x,hx=>by
  simp only[tP,aj] at h;rcases cM.1 hx with rfl|hx
  ·intro e;rw[e] at h;cases h.1
  ·exact Xu h.2 x hx
theorem Xv:∀{l:List (Nat×Ob)},tP l=true→∀j,dT l j≠.tr
 |[],_,j,e=>by cases e
 |x::l,h,j,e=>by
  simp only[tP,aj] at h;simp only[dT] at e;cases hb:Nat.beq x.1 j<;>simp only[hb,cond_true,cond_false] at e
  ·exact Xv h.2 j e
  ·have h1:=h.1;rw[e] at h1;cases h1
theorem afd {C:Ctx}{σ:Im}{own:Nat→Option Nat}{hv:Nat→Value}{w w0:World}{args:Array Value}{cx:Nat→Prop}{shs:List Sh}{obs:List (Nat×Ob)}{ds:List D}{m:Nat}{ids:List Nat}(hN:w0.heap.size≤w.heap.size)(Cb:Below 0 w0 w)(au:σ.ok w)(ba:∀k,σ.m k≠some cr)(aC:args.size=shs.length)
 (bR:∀k j,own k=some j→w0.heap.size≤k∧k<w.heap.size∧(∀o,σ.c k o=none)∧σ.m k=none) (ke:∀k,cx k→k<w.heap.size∧own k=none∧(∀o,σ.c k o=none)∧σ.m k=none) (rG:tP obs=true) (fa:shs.all rT=true)
 (h1:∀t,aD C (fC shs obs) (Gp shs obs ds) σ hv (shs.getD t .none) (args.getD t undef) (ds.getD t .none)) (h2:∀j,bS C (fC shs obs) (Gp shs obs ds) σ own hv w w0.heap.size j (dT obs j)):
 Good C w0 (Base.mkO σ own w cx) ((La m shs obs ids).st ids) (Gp shs obs ds) (fun _=>False) {tmps:=args++Array.replicate (m-args.size) undef,defers:=[]} w:=by
 have pZ:Compat (fC shs obs) hv ((La m shs obs ids).st ids) hv:=⟨fun _=>aW _,fun _ _=>rfl⟩
 refine⟨σ,own,hv,trivial,au,.refl σ,fun _ k e=>absurd e (ba k),fun _ _ _ h=>.inl h,fun _ _ h=>.inl h,Cb,nS _,bR,fun t=>?_,fun j=>?_,fun t gs s' e=>absurd e (Snap.noOpt _ _ t gs s'),
  .none,(fun k=>k<w.heap.size∧own k=none),cx,⟨⟨fun _=>Iff.rfl,fun k=>⟨fun h=>⟨⟨(ke k h).1,(ke k h).2.1⟩,h⟩,fun h=>h.2⟩,aW _,fun _ _=>rfl⟩,(fun k j h hf=>by rw[hf.2] at h;cases h),(fun k o x e hc=>by rw[(ke k hc).2.2.1 o] at e;cases e),(fun k x e hc=>by rw[(ke k hc).2.2.2] at e;cases e),fun k e=>absurd e (ba k)⟩,fun j hj=>?_⟩
 ·show aD C _ _ σ _ (cn ((shs++List.replicate (m-shs.length) Sh.none).getD t .none)) _ _;refine Jz ?_;rw[aG];by_cases ht:t<shs.length
  ·rw[jF ht];have:=h1 t;rw[aG (l:=shs)] at this;have e1:(args++Array.replicate (m-args.size) undef).getD t undef=args.getD t undef:=by
        simp only[dH];rw[Su (by omega)]
   show aD C _ _ σ _ _ ((args++Array.replicate (m-args.size) undef).getD t undef) (ds.getD t .none);rw[e1];refine aD.mono' (.refl σ) pZ (fun gs s' e=>?_) this;have hp:=bz.1 fa _ (cT ht);rw[bq ht] at e;simp only[jH] at e;rw[e] at hp;cases hp
  ·rw[kE (by omega),SP];split<;>trivial
 ·show bS C _ _ σ _ _ w _ j (di ids (ids.map (dT obs)) j);rcases Ns obs j ids with e|e
  ·rw[e];trivial
  ·rw[e];exact(h2 j).mono (.refl σ) pZ rfl rfl (fun k hk=>⟨hk,rfl⟩)
 ·change di ids (ids.map (dT obs)) j=.tr at hj;rcases Ns obs j ids with e|e
  ·rw[e] at hj;cases hj
  ·rw[e] at hj;exact absurd hj (Xv rG j)
def Gk (w:World)(N:Nat):World:={w with heap:=w.heap.extract 0 N}
theorem adX {C:Ctx}{Φ:aK}(aV:de C)(hΦ:cL C Φ)(dB:fI C Φ){f:Nat}{fn:Func}{s:Sig}{ids:List Nat}{pc:PC}(hf:C.P.funcs[f]?=some fn)(hc:eW C fn s ids=some pc){N:Nat}{ds:List D}{d:D}{shs:List Sh}{obs:List (Nat×Ob)}(cu:s.mode=.ob shs obs)
 (he:pc.ev Φ N (kG ds)=some (.ret d)):gq C f shs obs s.res ds d:=by
 unfold eW at hc;split at hc
 case h_2=>cases hc
 rename_i jT;rw[cu] at hc;simp only at hc;cases hle:(Nat.ble shs.length fn.ntmps&&C3 (Fc fn) 0 shs&&shs.all rT&&tP obs)<;>simp only[hle,cond_true,cond_false] at hc
 ·cases hc
 simp only[aj] at hle;obtain⟨⟨⟨l1,l2⟩,l3⟩,l4⟩:=hle;refine gq.of (Xu l4) ?_;intro B σ own hv w args cx _ au hC ba hB aC bR ke h1 h2;simp only[ax] at hc;obtain⟨pc,hc,rfl⟩:=hc;simp only[PC.ev,anT,jI] at he;have Cs:=jo l1;cases hb:fn.body with
 |none=>unfold sQ at hc;rw[hb] at hc;cases hc
 |some c=>
 have bB:Fc fn=cm c:=by unfold Fc;rw[hb]
 rw[bB] at l2;refine(callsIn_wide (n:=0)).1 (callsIn_of_wp_marks (F:=FR none) hf hb trivial ?_);have qh:(Gk w B).heap.size=B:=by simp[Gk];omega
 have Cb:Below 0 (Gk w B) w:=⟨rfl,rfl,rfl,by rw[qh];exact hB,fun k hk=>by omega⟩
 have hg:=afd (C:=C) (m:=fn.ntmps) (ids:=ids) (w0:=Gk w B) (cx:=cx) (by rw[qh];exact hB) Cb au ba aC (by rw[qh];exact bR) ke l4 l3 h1 (by rw[qh];exact h2);have hn:(args++Array.replicate (fn.ntmps-args.size) undef).size=fn.ntmps:=by simp;omega
 refine wpIn_mono (KT aV hΦ dB hb hc (σ0:=Base.mkO σ own w cx) trivial hC (fun J ys e=>by rw[jT] at e;cases e) hn hg he) fun e a' w' ho=>?_;obtain⟨jr,CM,iK⟩:=ho
 have main:=pG.leaves (R:=fun e w'=>∃v σ' own' hv' dr os,e=.returned v∧d=.tup (dr::os)∧os.length=obs.length∧σ.le σ'∧σ'.ok w'∧Below 0 w w'∧
  (∀k,k<w.heap.size→own k=none→w'.heap[k]?=w.heap[k]?)∧
  (∀k o x,σ'.c k o=some x→(σ.c k o=some x∨B≤k)∧¬cx k)∧(∀k x,σ'.m k=some x→(σ.m k=some x∨B≤k)∧¬cx k)∧(∀k,σ'.m k=some cr→B≤k→k<w.heap.size→own k≠none)∧
  (∀k j,own' k=some j→B≤k∧k<w'.heap.size∧(∀o,σ'.c k o=none)∧σ'.m k=none∧(k<w.heap.size→own k≠none))∧
  (∀(t:Nat) (sh:Sh),shs[t]?=some sh→mu sh=false→aD C (fC shs obs) (lJ obs ds os) σ' hv' sh (args.getD t undef) (ds.getD t .none))∧
  (∀j,bS C (fC shs obs) (lJ obs ds os) σ' own' hv' w' B j (dT obs j))∧Rep C.cap σ' s.res v dr) (fun w2 hr=>by
  obtain⟨v,σ',⟨own',t,fx,jL,cQ,_,Hk⟩,ah,ju,Mp,Ca,cO,cE,_⟩:=hr;obtain⟨hv',dr,os,e1,e2,e3,e4,e5,e6⟩:=Hk shs obs cu;obtain⟨f1,f2,f3,f4⟩:=cQ.F;have Vf:∀k,cx k→jL k:=fun k hk=>(f2 k).2 ⟨(f1 k).2 ⟨(ke k hk).1,(ke k hk).2.1⟩,hk⟩;rw[qh] at cO cE e3 e5
  refine⟨v,ah,v,σ',own',hv',dr,os,rfl,e1,e2,ju,Mp,⟨Ca.os,Ca.tape,Ca.output,f3,fun k hk=>by omega⟩,fun k hk hn=>f4 k ((f1 k).2 ⟨hk,hn⟩),fun k o x e=>⟨cO k o x e,fun hk=>cQ.c k o x e (Vf k hk)⟩,fun k x e=>⟨cE k x e,fun hk=>cQ.m k x e (Vf k hk)⟩,
   fun k e Ls hk hn=>cQ.d k e (by rw[qh];exact Ls) ((f1 k).2 ⟨hk,hn⟩),fun k j hk=>?_,fun t sh hs hd=>?_,fun j=>?_,e6⟩
  ·obtain⟨g1,g2,g3,g4⟩:=e3 k j hk;exact⟨g1,g2,g3,g4,fun af hn=>cQ.own k j hk ((f1 k).2 ⟨af,hn⟩)⟩
  ·have:=e4 t sh hs hd (ds.getD t .none);have af:t<shs.length:=(eT.1 hs).1;have mj:t∉cm c:=by have:=WE l2 t sh hs hd;simpa using this
   have bX:a'.tmps.getD t undef=args.getD t undef:=by
        rw[iK.get t mj];simp only[dH];rw[Su (by omega)]
   simp only at this;rw[bX] at this;have hp:=bz.1 l3 _ (jn hs);exact aD.mono' (.refl σ') ⟨fun _=>aW _,fun _ _=>rfl⟩ (fun gs s' e=>by rw[e] at hp;cases hp) this
  ·exact bS.mono (S:=fC shs obs) (S':=fC shs obs) (ρ:=lJ obs [] os) (ρ':=lJ obs ds os) (hv:=hv') (hv':=hv') (own:=own') (own':=own') (w:=w2) (w':=w2) (.refl σ') ⟨fun _=>aW _,fun _ _=>rfl⟩ rfl rfl (fun k hk=>⟨hk,rfl⟩) (e5 j)) _ _ CM
 rcases jr with rfl|rfl<;>exact main
def Ue (m:Nat)(cts:List Ty)(J:Nat)(ids:List Nat):Snap:=⟨.yv::(cts.map .dat++List.replicate (m-(cts.length+1)) .none),ids.map fun j=>bif Nat.beq j J then .tr else .dead⟩
def yw (J:Nat)(ds:List D):Env:=⟨fun t=>(D.none::ds).getD t .none,fun j=>bif Nat.beq j J then .list [] else .none⟩
def Bs (C:Ctx)(fn:Func)(cts ys:List Ty)(J:Nat)(ids:List Nat):Option PC:=
 match C.yl,C.sig lW,C.cap lW with
 |none,none,none=>bif Nat.ble (cts.length+1) fn.ntmps then sQ {C with yl:=some (J,ys)} fn ⟨[],.tup [],.it J⟩ ids (Ue fn.ntmps cts J ids) else none
 |_,_,_=>none
open Classical in
def yldΦ (Φ:aK)(xs:List D)(m:Nat):aK:=fun f ds=>
 if f=lW then(match ds with|[.list l]=>if 0<l.length∧l.length≤m+1∧l=xs.take l.length then some (.v (.bool (decide (l.length≤m)))) else none|_=>none)
 else Φ f ds
theorem yldΦ_at {Φ:aK}{xs l ds:List D}{d:D}{m:Nat}(h:yldΦ Φ xs m lW [.list (l++[.tup ds])]=some d):l.length≤m∧l=xs.take l.length∧xs[l.length]?=some (.tup ds)∧l++[.tup ds]=xs.take (l.length+1)∧d=.v (.bool (decide (l.length<m))):=by
 simp only[yldΦ,if_true] at h;split at h
 ·rename_i hc;obtain⟨h1,h2,h3⟩:=hc;simp only[kF,pE,AK,gw] at h2 h3 h;have hx:xs[l.length]?=some (.tup ds):=by
   have:(xs.take (l.length+1))[l.length]?=some (.tup ds):=by rw[←h3];simp
   rw[fl] at this;simpa using this
  have hl:l=xs.take l.length:=by
   have:=congrArg (List.take l.length) h3;simpa [List.take_take] using this
  refine⟨by omega,hl,hx,h3,?_⟩;cases h
  congr 2
 ·cases h
theorem cL.yl {C:Ctx}{Φ:aK}(h:cL C Φ){y:Option (Nat×List Ty)}{v:Value}{xs:List D}{m:Nat}(hs:C.sig lW=none):cL {C with yl:=y,yv:=v} (yldΦ Φ xs m):=by
 intro f ds d e s eu;have ay:f≠lW:=fun e'=>by subst e';change C.sig lW=some s at eu;rw[hs] at eu;cases eu
 simp only[yldΦ,if_neg ay] at e;obtain⟨h1,h2⟩:=h f ds d e s eu;exact⟨fun hm σ w args au hC ha=>h1 hm σ w args au ⟨hC.glob,hC.mg⟩ ha,fun shs obs hm=>(h2 shs obs hm).ctx rfl rfl rfl⟩
theorem kD.yl {C:Ctx}{y:Option (Nat×List Ty)}{v:Value}{f:Nat}{cts ys:List Ty}{ds xs:List D}(h:kD C f cts ys ds xs):kD {C with yl:=y,yv:=v} f cts ys ds xs:=
 fun σ w yv vs F fx cx m au hC=>h σ w yv vs F fx cx m au ⟨hC.glob,hC.mg⟩
theorem fI.yl {C:Ctx}{Φ:aK}(h:fI C Φ){y:Option (Nat×List Ty)}{v:Value}{xs:List D}{m:Nat}(hs:C.cap lW=none):fI {C with yl:=y,yv:=v} (yldΦ Φ xs m):=by
 intro f cs ys hc hi;have ay:f≠lW:=fun e'=>by subst e';change C.cap lW=some cs at hc;rw[hs] at hc;cases hc
 obtain⟨h1,h2⟩:=h f cs ys hc hi;refine⟨h1,fun ds d e=>?_⟩;simp only[yldΦ,if_neg ay] at e;obtain⟨xs,e1,e2,e3⟩:=h2 ds d e;exact⟨xs,e1,e2,e3.yl⟩
def SF (Φ:aK)(pc:PC)(J:Nat)(ds xs:List D):Prop:=∀m,m≤xs.length→∃N,pc.ev (yldΦ Φ xs m) N (yw J ds)=some (.ret (.list (xs.take (m+1))))
theorem afc {C:Ctx}{σ:Im}{σ0:Base}{w:World}{yv:Value}{vs:List Value}{ds:List D}{cts ys:List Ty}{J m:Nat}{ids:List Nat}(au:σ.ok w)(ha:nL C σ cts vs ds)(hm:cts.length+1≤m)(jT:C.yl=some (J,ys))(CV:C.yv=yv)
 (h0:σ0.toIm=σ) (hB:σ0.B=0) {fx cx:Nat→Prop} (hF:σ0.F (.list []) fx cx w) (iy:∀k o x,σ.c k o=some x→¬cx k) (mc:∀k x,σ.m k=some x→¬cx k):
 Good C w σ0 ((Ue m cts J ids).st ids) (yw J ds) (fun _=>False) {tmps:=#[yv]++vs.toArray++Array.replicate (m-(vs.length+1)) undef,defers:=[]} w:=by
 obtain⟨h1,h2,h3⟩:=ha
 refine⟨σ,fun _=>none,fun _=>undef,trivial,au,by rw[h0];exact .refl σ,fun _ k e=>by rw[h0] at e;exact(au.m k _ e).lt,fun _ _ _ h=>by rw[h0];exact .inl h,fun _ _ h=>by rw[h0];exact .inl h,.refl _ _,by omega,(fun k j h=>by cases h),fun t=>?_,fun j=>?_,fun t gs s' e=>absurd e (Snap.noOpt _ _ t gs s'),
  .list [],fx,cx,⟨hF,(fun k j h=>by cases h),iy,mc,fun k e hk=>by have:=(au.m k _ e).lt;omega⟩,fun j hj=>?_⟩
 ·show aD C _ _ σ _ (cn ((Sh.yv::(cts.map Sh.dat++List.replicate (m-(cts.length+1)) Sh.none)).getD t .none)) ((#[yv]++vs.toArray++Array.replicate (m-(vs.length+1)) undef).getD t undef) ((D.none::ds).getD t .none);have ea:((#[yv]++vs.toArray++Array.replicate (m-(vs.length+1)) undef).getD t undef)=(yv::(vs++List.replicate (m-(vs.length+1)) undef)).getD t undef:=by
   rw[dH,←AD,aG];simp
  rw[ea];cases t with
  |zero=>simp only[nN,cn];exact CV.symm
  |succ t=>
   simp only[sF];rw[aG];by_cases ht:t<cts.length
   ·rw[jF (by simpa using ht),cg,bq ht];simp only[jI,jH,cn];have:=h3 t _ (bq ht);have e1:(vs++List.replicate (m-(vs.length+1)) undef).getD t undef=vs.getD t undef:=by
     simp only[aG];rw[jF (by omega)]
    show aD C _ _ σ _ (.dat _) _ (ds.getD t .none);rw[e1];exact this
   ·rw[kE (by simpa using ht),SP];split<;>trivial
 ·show bS C _ _ σ _ _ w _ j (di ids (ids.map fun j=>bif Nat.beq j J then .tr else .dead) j);refine vX _ (fun ob=>bS C _ _ σ _ _ w _ j ob) trivial j ?_ ids;cases Nat.beq j J<;>trivial
 ·change di ids (ids.map fun j=>bif Nat.beq j J then .tr else .dead) j=.tr at hj
  have hb:=vX (fun j=>bif Nat.beq j J then Ob.tr else .dead) (fun ob=>ob=.tr→Nat.beq j J=true) (fun e=>by cases e) j (fun e=>by
   cases hb:Nat.beq j J
   ·rw[hb] at e;cases e
   ·rfl) ids hj
  have:=av hb;subst this;refine⟨⟨ys,jT⟩,?_⟩;show(bif Nat.beq j j then D.list [] else .none)=_;rw[gu];rfl
theorem adY {C:Ctx}{Φ:aK}(aV:de C)(hΦ:cL C Φ)(dB:fI C Φ){f:Nat}{fn:Func}{cts ys:List Ty}{J:Nat}{ids:List Nat}{pc:PC}(hf:C.P.funcs[f]?=some fn)(hc:∀yv,Bs {C with yv:=yv} fn cts ys J ids=some pc){ds xs:List D}
 (hr:SF Φ pc J ds xs):kD C f cts ys ds xs:=by
 intro σ w yv vs F fx cx m au hC ha hm af bM vx hF iy mc M6;have hc:=hc yv;unfold Bs at hc;split at hc
 case h_2=>cases hc
 rename_i jT hsy hcy;cases hle:Nat.ble (cts.length+1) fn.ntmps<;>simp only[hle,cond_true,cond_false] at hc
 ·cases hc
 have Cs:=jo hle;obtain⟨N,he⟩:=hr m hm;cases hb:fn.body with
 |none=>unfold sQ at hc;rw[hb] at hc;cases hc
 |some c=>
 refine(callsIn_wide (n:=0)).1 (callsIn_of_wp_marks (F:=FR none) hf hb trivial ?_);obtain⟨σ0,hσ0⟩:∃σ0:Base,σ0={σ with B:=0,fin:=True,F:=fun t fx cx w=>(∃l,t=.list l)∧F t fx cx w,lt:=fun t fx cx w h=>af t fx cx w h.2,sub:=fun t fx cx w h=>bM t fx cx w h.2,keep:=fun t fx cx w w' h hb hs=>⟨h.1,vx t fx cx w w' h.2 hb hs⟩}:=⟨_,rfl⟩
 have e1:σ0.toIm=σ:=by rw[hσ0]
 have e2:σ0.B=0:=by rw[hσ0]
 have e3:σ0.fin:=by rw[hσ0];trivial
 have e4:∀t fx cx w,σ0.F t fx cx w↔(∃l,t=.list l)∧F t fx cx w:=fun t fx cx w=>by rw[hσ0]
 have hg:=afc (C:={C with yl:=some (J,ys),yv:=yv}) (σ0:=σ0) (w:=w) (yv:=yv) (vs:=vs) (ds:=ds) (cts:=cts) (ys:=ys) (J:=J) (m:=fn.ntmps) (ids:=ids) au ha Cs rfl rfl e1 e2 ((e4 _ _ _ _).2 ⟨⟨_,rfl⟩,hF⟩) iy mc;have aC:(#[yv]++vs.toArray).size=vs.length+1:=by simp<;>omega
 have Hq:vs.length=cts.length:=ha.1;have hY:nU {C with yl:=some (J,ys),yv:=yv} (yldΦ Φ xs m) w σ0:=by
  intro J' ys' e;cases e;refine⟨e2,fun t fx cx w h=>((e4 _ _ _ _).1 h).1,fun jE ds' d hd fx cx w1 σ1 args yI aiA vk Vc Ct cO cE=>?_⟩;obtain⟨g1,g2,g3,g4,rfl⟩:=yldΦ_at hd;rw[e1] at cO cE;have:=M6 jE.length fx cx w1 σ1 args ds' g1 g3 (by rw[←g2];exact((e4 _ _ _ _).1 yI).2) aiA vk Vc Ct cO cE;intro rd o a x aa ts K Q bK hv has hK;refine this rd o a x aa ts K Q bK hv has fun u w2 hu=>hK u w2 ?_;obtain⟨u1,u2,u3,ma,jL,u4,u5,u6⟩:=hu;refine⟨_,rfl,u1,u2,u3,ma,jL,(e4 _ _ _ _).2 ⟨⟨_,rfl⟩,?_⟩,u5,u6⟩;rw[g4];exact u4
 have hn:(#[yv]++vs.toArray++Array.replicate (fn.ntmps-(vs.length+1)) undef).size=fn.ntmps:=by simp;omega
 rw[aC];refine wpIn_mono (KT (C:={C with yl:=some (J,ys),yv:=yv}) aV (hΦ.yl hsy) (dB.yl hcy) hb hc (σ0:=σ0) e3 (by rw[e1];exact⟨hC.glob,hC.mg⟩) hY hn hg he) fun e a' w' ho=>?_
 have main:=pG.leaves (R:=fun e w'=>(∃v,e=.returned v)∧∃fx cx,F (.list (xs.take (m+1))) fx cx w') (fun w2 CM=>by
  obtain⟨v,σ',⟨own,t,fx,cx,h1,ht,_⟩,h2,_⟩:=CM;refine⟨v,h2,⟨v,rfl⟩,fx,cx,?_⟩;rw[ht J rfl];exact((e4 _ _ _ _).1 h1.F).2) _ _ ho.2.1
 rcases ho.1 with rfl|rfl<;>exact main
def eG (tab:Nat→Option PC)(ext:Nat→Option (aK→List D→Option D)):Nat→aK
 |0=>fun _ _=>none
 |n+1=>fun f ds=>
  match ext f with
  |some g=>g (eG tab ext n) ds
  |none=>
   match tab f with
   |some pc=>(match pc.ev (eG tab ext n) n (kG ds) with|some (.ret d)=>some d|_=>none)
   |none=>none
theorem fH.hint {C:Ctx}{fr nh:List Nat}{f:Nat}{s:Sig}{ds:List D}{d:D}(h:fH C f s ds d):fH {C with fr:=fr,nh:=nh} f s ds d:=
 fun σ w args au hC ha=>h σ w args au ⟨hC.glob,hC.mg⟩ ha
theorem fH.unhint {C:Ctx}{fr nh:List Nat}{f:Nat}{s:Sig}{ds:List D}{d:D}(h:fH {C with fr:=fr,nh:=nh} f s ds d):fH C f s ds d:=
 fun σ w args au hC ha=>h σ w args au ⟨hC.glob,hC.mg⟩ ha
theorem kD.hint {C:Ctx}{fr nh:List Nat}{f:Nat}{cts ys:List Ty}{ds xs:List D}(h:kD C f cts ys ds xs):kD {C with fr:=fr,nh:=nh} f cts ys ds xs:=
 fun σ w yv vs F fx cx m au hC=>h σ w yv vs F fx cx m au ⟨hC.glob,hC.mg⟩
theorem kD.unhint {C:Ctx}{fr nh:List Nat}{f:Nat}{cts ys:List Ty}{ds xs:List D}(h:kD {C with fr:=fr,nh:=nh} f cts ys ds xs):kD C f cts ys ds xs:=
 fun σ w yv vs F fx cx m au hC=>h σ w yv vs F fx cx m au ⟨hC.glob,hC.mg⟩
theorem gq.hint {C:Ctx}{fr nh:List Nat}{f:Nat}{shs:List Sh}{obs:List (Nat×Ob)}{res:Ty}{ds:List D}{d:D}(h:gq C f shs obs res ds d):gq {C with fr:=fr,nh:=nh} f shs obs res ds d:=h.ctx rfl rfl rfl
theorem gq.unhint {C:Ctx}{fr nh:List Nat}{f:Nat}{shs:List Sh}{obs:List (Nat×Ob)}{res:Ty}{ds:List D}{d:D}(h:gq {C with fr:=fr,nh:=nh} f shs obs res ds d):gq C f shs obs res ds d:=gq.ctx (C':=C) h rfl rfl rfl
theorem cL.hint {C:Ctx}{fr nh:List Nat}{Φ:aK}(h:cL C Φ):cL {C with fr:=fr,nh:=nh} Φ:=
 fun f ds d e s hs=>⟨fun hm=>((h f ds d e s hs).1 hm).hint,fun shs obs hm=>((h f ds d e s hs).2 shs obs hm).hint⟩
theorem fI.hint {C:Ctx}{fr nh:List Nat}{Φ:aK}(h:fI C Φ):fI {C with fr:=fr,nh:=nh} Φ:=
 fun f cs ys hc hi=>let⟨h1,h2⟩:=h f cs ys hc hi;⟨h1,fun ds d e=>let⟨xs,e1,e2,e3⟩:=h2 ds d e;⟨xs,e1,e2,e3.hint⟩⟩
theorem de.hint {C:Ctx}{fr nh:List Nat}(h:de C):de {C with fr:=fr,nh:=nh}:=h
def xg (C:Ctx)(f:Nat)(s:Sig)(ds:List D)(d:D):Prop:=(np s.mode=false→fH C f s ds d)∧∀shs obs,s.mode=.ob shs obs→gq C f shs obs s.res ds d
structure TabOK (C:Ctx) (tab:Nat→Option PC) (ext:Nat→Option (aK→List D→Option D)):Prop where
 clos:de C
 its:∀f cs ys,C.cap f=some cs→jA cs.args cs.res=some ys→tab f=none∧∃fn,C.P.funcs[f]?=some fn∧fn.body.isSome=true∧(fn.name== "runtime.NumGoroutine")=false
 tab:∀f pc,ext f=none→tab f=some pc→∃fn s ids fr nh,C.P.funcs[f]?=some fn∧C.sig f=some s∧eW {C with fr:=fr,nh:=nh} fn s ids=some pc
 ext:∀f g,ext f=some g→∀Φ,cL C Φ→fI C Φ→∀ds d,g Φ ds=some d→(∀s,C.sig f=some s→xg C f s ds d)∧
  ∀cs ys,C.cap f=some cs→jA cs.args cs.res=some ys→∃xs,d=.list xs∧(∀x,x∈xs→∃ds',x=.tup ds'∧ds'.length=ys.length)∧kD C f cs.caps ys ds xs
theorem SX {C:Ctx}{tab:Nat→Option PC}{ext:Nat→Option (aK→List D→Option D)}(h:TabOK C tab ext):∀n,cL C (eG tab ext n)∧fI C (eG tab ext n)
 |0=>⟨fun f ds d e=>by simp[eG] at e,fun f cs ys hc hi=>⟨(h.its f cs ys hc hi).2,fun ds d e=>by simp[eG] at e⟩⟩
 |n+1=>by
  obtain⟨ih,lF⟩:=SX h n;refine⟨fun f ds d e=>?_,fun f cs ys hc hi=>⟨(h.its f cs ys hc hi).2,fun ds d e=>?_⟩⟩
  ·simp only[eG] at e;split at e
   ·rename_i g hg;exact(h.ext f g hg _ ih lF ds d e).1
   ·rename_i hx;split at e
    ·rename_i pc ae;split at e
     ·rename_i d' he;cases e;obtain⟨fn,s,ids,fr,nh,h1,h2,h3⟩:=h.tab f pc hx ae;intro s' eu;rw[h2] at eu;cases eu
      exact⟨fun hm=>(KU (C:={C with fr:=fr,nh:=nh}) (de.hint h.clos) (cL.hint ih) (fI.hint lF) h1 h3 hm he).unhint,
       fun shs obs hm=>(adX (C:={C with fr:=fr,nh:=nh}) (de.hint h.clos) (cL.hint ih) (fI.hint lF) h1 h3 hm he).unhint⟩
     ·cases e
    ·cases e
  ·simp only[eG] at e;split at e
   ·rename_i g hg;exact(h.ext f g hg _ ih lF ds d e).2 cs ys hc hi
   ·rw[(h.its f cs ys hc hi).1] at e;cases e
def ace (Φ:aK)(pc:PC)(J k:Nat)(ds xs:List D):Prop:=SF Φ pc J ds xs∧∀x,x∈xs→∃ds',x=.tup ds'∧ds'.length=k
open Classical in
def C0 (pc:PC)(J k:Nat)(spec:List D→List D):aK→List D→Option D:=fun Φ ds=>if ace Φ pc J k ds (spec ds) then some (.list (spec ds)) else none
theorem ajR {C:Ctx}{Φ:aK}(aV:de C)(hΦ:cL C Φ)(dB:fI C Φ){f:Nat}{fn:Func}{cts ys:List Ty}{J k:Nat}{ids fr nh:List Nat}{pc:PC}(hf:C.P.funcs[f]?=some fn)(hc:∀yv,Bs {C with fr:=fr,nh:=nh,yv:=yv} fn cts ys J ids=some pc){spec:List D→List D}
 {ds:List D} {d:D} (h:C0 pc J k spec Φ ds=some d) (hk:k=ys.length):∃xs,d=.list xs∧(∀x,x∈xs→∃ds',x=.tup ds'∧ds'.length=ys.length)∧kD C f cts ys ds xs:=by
 unfold C0 at h;split at h
 ·rename_i hs;cases h;subst hk;exact⟨_,rfl,hs.2,(adY (C:={C with fr:=fr,nh:=nh}) (de.hint aV) (cL.hint hΦ) (fI.hint dB) hf hc hs.1).unhint⟩
 ·cases h
def aY {α:Type}:List (Nat×α)→Nat→Option α
 |[],_=>none
 |x::l,f=>bif Nat.beq x.1 f then some x.2 else aY l f
def ER {α:Type}(R:Nat→α→Prop):List (Nat×α)→Prop
 |[]=>True
 |x::l=>R x.1 x.2∧ER R l
theorem C8 {α:Type}{R:Nat→α→Prop}:∀{l:List (Nat×α)},ER R l→∀f x,aY l f=some x→R f x
 |[],_,f,x,h=>by cases h
 |y::l,⟨h1,h2⟩,f,x,h=>by
  simp only[aY] at h;cases hb:Nat.beq y.1 f<;>simp only[hb,cond_true,cond_false] at h
  ·exact C8 h2 f x h
  ·cases h;rw[←cI hb];exact h1
def Qg (P:Program):List (Nat×Sig)→Bool
 |[]=>true
 |x::l=>(match P.funcs[x.1]? with|some fn=>fn.body.isSome&& !(fn.name== "runtime.NumGoroutine")|none=>false)&&Qg P l
theorem aa0 {P:Program}:∀{l:List (Nat×Sig)},Qg P l=true→∀f s,aY l f=some s→∃fn,P.funcs[f]?=some fn∧fn.body.isSome=true∧(fn.name== "runtime.NumGoroutine")=false
 |[],_,f,s,h=>by cases h
 |y::l,hl,f,s,h=>by
  simp only[Qg,aj] at hl;simp only[aY] at h;cases hb:Nat.beq y.1 f<;>simp only[hb,cond_true,cond_false] at h
  ·exact aa0 hl.2 f s h
  ·rw[←cI hb];have h1:=hl.1;split at h1
   ·rename_i fn e;simp only[aj,hZ] at h1;exact⟨fn,e,h1.1,h1.2⟩
   ·cases h1
def P7 (a b:Sig):Bool:=Ty.beqs a.args b.args&&Ty.beq a.res b.res&&(match a.mode,b.mode with|.dat,.dat=>true|_,_=>false)
theorem anY {a b:Sig}(h:P7 a b=true):a=b:=by
 obtain⟨a1,a2,a3⟩:=a;obtain⟨b1,b2,b3⟩:=b;simp only[P7,aj] at h;rw[Ty.beqs_eq _ _ h.1.1,Ty.beq_eq _ _ h.1.2];cases a3<;>cases b3<;>first|rfl|(have:=h.2;cases this)
def Ar (P:Program)(f:Nat):Bool:=match P.funcs[f]? with|some fn=>fn.body.isSome&& !(fn.name== "runtime.NumGoroutine")|none=>false
theorem aa1 {P:Program}{f:Nat}(h:Ar P f=true):∃fn,P.funcs[f]?=some fn∧fn.body.isSome=true∧(fn.name== "runtime.NumGoroutine")=false:=by
 unfold Ar at h;split at h
 ·rename_i fn e;simp only[aj,hZ] at h;exact⟨fn,e,h.1,h.2⟩
 ·cases h
def KL (P:Program)(sig:List (Nat×Sig))(pcs:List Nat):List (Nat×CSig)→Bool
 |[]=>true
 |x::l=>(match jA x.2.args x.2.res with
   |none=>(match aY sig x.1 with|some s=>P7 s ⟨x.2.args++x.2.caps,x.2.res,.dat⟩|none=>false)
   |some _=> !eL pcs x.1&&Ar P x.1)&&KL P sig pcs l
theorem KM {P:Program}{sig:List (Nat×Sig)}{pcs:List Nat}:∀{l:List (Nat×CSig)},KL P sig pcs l=true→∀f cs,aY l f=some cs→
 (jA cs.args cs.res=none→aY sig f=some ⟨cs.args++cs.caps,cs.res,.dat⟩)∧∀ys,jA cs.args cs.res=some ys→eL pcs f=false∧Ar P f=true
 |[],_,f,cs,h=>by cases h
 |x::l,hl,f,cs,h=>by
  simp only[KL,aj] at hl;simp only[aY] at h;cases hb:Nat.beq x.1 f<;>simp only[hb,cond_true,cond_false] at h
  ·exact KM hl.2 f cs h
  ·cases h;rw[←cI hb];have h1:=hl.1;refine⟨fun e=>?_,fun ys e=>?_⟩
   ·rw[e] at h1;simp only at h1;split at h1
    ·rename_i s hs;rw[hs,anY h1]
    ·cases h1
   ·rw[e] at h1;simpa using h1
theorem Np {α:Type}:∀{l:List (Nat×α)} {f:Nat},eL (l.map (·.1)) f=false→aY l f=none
 |[],f,_=>rfl
 |x::l,f,h=>by
  simp only[gr,eL,List.any_cons,Sz] at h;simp only[aY];have hb:Nat.beq x.1 f=false:=by
   cases e:Nat.beq x.1 f
   ·rfl
   ·rw[av e,gu] at h;cases h.1
  rw[hb];exact Np (l:=l) h.2
def acn (Φ:aK)(pa pb:PC)(ds:List D)(d:D):Prop:=(∃N xs,pa.ev Φ N (kG ds)=some (.ret (.list xs))∧xs≠[]∧d=.list xs)∨∃N,pb.ev Φ N (kG ds)=some (.ret (.list []))∧d=.list []
open Classical in
def zr (pa pb:PC)(spec:List D→D):aK→List D→Option D:=fun Φ ds=>if acn Φ pa pb ds (spec ds) then some (spec ds) else none
theorem alx {C:Ctx}{Φ:aK}(aV:de C)(hΦ:cL C Φ)(dB:fI C Φ){f:Nat}{fn:Func}{args:List Ty}{e:Ty}{ids ajH fr nh UF Xt:List Nat}{pa pb:PC}(hf:C.P.funcs[f]?=some fn)(ha:eW {C with fr:=fr,nh:=nh} fn ⟨args,.slice e,.dat⟩ ids=some pa)
 (hb:eW {C with fr:=UF,nh:=Xt} fn ⟨args,.nils .bool,.dat⟩ ajH=some pb) {spec:List D→D} {ds:List D} {d:D} (h:zr pa pb spec Φ ds=some d):fH C f ⟨args,.nsl e,.dat⟩ ds d:=by
 unfold zr at h;split at h
 case isFalse=>cases h
 rename_i hs;cases h;rcases hs with⟨N,xs,h1,h2,h3⟩|⟨N,h1,h2⟩
 ·rw[h3];have:=(KU (C:={C with fr:=fr,nh:=nh}) (de.hint aV) (cL.hint hΦ) (fI.hint dB) hf ha (N:=N) rfl h1).unhint;intro σ w aa au hC ix;refine(this σ w aa au hC ix).mono fun en w' hh=>?_;obtain⟨v,σ',g1,g2,g3,g4,g5,g6,g7⟩:=hh;refine⟨v,σ',g1,g2,g3,g4,g5,g6,?_⟩;change Rep C.cap σ' (.slice e) v (.list xs) at g7;show Rep C.cap σ' (.nsl e) v (.list xs);generalize hd:D.list xs=dd at g7;cases g7 with
  |nil=>injection hd with hd;exact absurd hd h2
  |emp=>injection hd with hd;exact absurd hd h2
  |slice _ k o n c jE vs a1 a2 a3 a4 a5 a6=>exact .nsl e k o n c jE (.slice e k o n c jE vs a1 a2 a3 a4 a5 a6) (by injection hd with hd;rw[←hd];exact h2)
 ·rw[h2];have:=(KU (C:={C with fr:=UF,nh:=Xt}) (de.hint aV) (cL.hint hΦ) (fI.hint dB) hf hb (N:=N) rfl h1).unhint;intro σ w aa au hC ix;refine(this σ w aa au hC ix).mono fun en w' hh=>?_;obtain⟨v,σ',g1,g2,g3,g4,g5,g6,g7⟩:=hh;refine⟨v,σ',g1,g2,g3,g4,g5,g6,?_⟩;change Rep C.cap σ' (.nils .bool) v (.list []) at g7;show Rep C.cap σ' (.nsl e) v (.list []);generalize D.list []=dd at g7;cases g7;exact .nsl0 e
end Cx
namespace Cx
open Go Go.RowKit Go.ChangeShapes Go.WideShapes
def kl (w:World):Im:=
 ⟨fun k o=>bif Nat.beq k 0|| !w.frozen? ⟨k,o,none⟩ then w.cell? ⟨k,o,none⟩ else none,fun k=>match w.heap[k]? with|some (.cells _ _ _)=>some gE|_=>none⟩
theorem ajJ (w:World):(kl w).ok w:=by
 refine⟨fun k o v h=>?_,fun k es h=>?_,fun k o v h=>?_⟩
 case refine_2=>
  change (match w.heap[k]? with|some (.cells _ _ _)=>some gE|_=>none)=_ at h;split at h
  ·rename_i cs T fz e;cases h;exact .inr (.inr ⟨rfl,cs,T,fz,e⟩)
  ·cases h
 all_goals change (bif Nat.beq k 0|| !w.frozen? ⟨k,o,none⟩ then w.cell? ⟨k,o,none⟩ else none)=_ at h
 all_goals cases hb:(Nat.beq k 0|| !w.frozen? ⟨k,o,none⟩)<;>rw[hb] at h
 ·cases h
 ·exact h
 ·cases h
 ·rw[fG] at hb;exact hb.imp av (by simp)
theorem Wm {w:World}{k o:Nat}{v:Value}(h:w.cell? ⟨k,o,none⟩=some v):(kl w).m k=some gE:=by
 change (match w.heap[k]? with|some (.cells _ _ _)=>some gE|_=>none)=_;unfold World.cell? at h;cases hk:w.heap[k]? with
 |none=>simp[hk] at h
 |some ob=>cases ob<;>simp_all
theorem Wl {w:World}{k o:Nat}{v:Value}(h:w.cell? ⟨k,o,none⟩=some v)(hz:k=0∨w.frozen? ⟨k,o,none⟩=false):(kl w).c k o=some v:=by
 change (bif Nat.beq k 0|| !w.frozen? ⟨k,o,none⟩ then w.cell? ⟨k,o,none⟩ else none)=_;rcases hz with rfl|hz
 ·exact h
 ·rw[hz];simpa using h
def Ag (P:Program)(r:TypeId→Option Ty):List Field→Nat→Option (List Ty)
 |[],_=>some []
 |f::fs,off=>(r f.type).bind fun ft=>
  bif Nat.beq f.offset off&&Nat.beq (P.cellsOf f.type) ft.flat.length then(Ag P r fs (off+ft.flat.length)).map (ft.flat++·) else none
def fT (P:Program):Nat→TypeId→Option Ty
 |0,_=>none
 |n+1,t=>
  match P.underlying t with
  |some .bool=>some .bool
  |some (.int k)=>some (.int k)
  |some .string=>some .str
  |some (.slice e)=>bif rN P e then some (.slice .trm) else(fT P n e).bind fun te=>bif Nat.beq (P.cellsOf e) te.flat.length&&Nat.ble 1 te.flat.length then some (.slice te) else none
  |some (.struct fs)=>(Ag P (fT P n) fs.toList 0).bind fun ts=>bif Nat.beq (P.cellsOf t) ts.length then some (.agg ts) else none
  |_=>none
theorem ajQ {P:Program}{e:TypeId}(h:rN P e=true)(n:Nat):fT P (n+2) e=some .trmA∧P.cellsOf e=3:=by
 unfold rN at h;split at h
 case h_2=>cases h
 rename_i fs hu;split at h
 case h_2=>cases h
 rename_i f0 f1 f2 vt;simp only[aj] at h;obtain⟨⟨⟨⟨⟨⟨⟨⟨⟨h0,h1⟩,h2⟩,o0⟩,o1⟩,o2⟩,c0⟩,c1⟩,c2⟩,c3⟩:=h;split at h0
 case h_2=>cases h0
 rename_i u0;split at h1
 case h_2=>cases h1
 rename_i u1;split at h2
 case h_2=>cases h2
 rename_i e' u2;obtain rfl:=av h2;have r0:fT P (n+1) f0.type=some (.int .i64):=by simp[fT,u0]
 have r1:fT P (n+1) f1.type=some (.int .i64):=by simp[fT,u1]
 have ht:rN P e'=true:=by
  unfold rN;rw[hu];simp only[vt];simp[u0,u1,u2,av o0,av o1,av o2,av c0,av c1,av c2,av c3]
 have r2:fT P (n+1) f2.type=some (.slice .trm):=by simp[fT,u2,ht]
 refine⟨?_,av c3⟩;show fT P (n+1+1) e'=_;rw[fT,hu];simp only[vt,Ag,r0,r1,r2,jG,Ty.flat,pE,AK,o0,c0,Bool.and_self,cond_true];simp[av o1,av o2,av c1,av c2,av c3,Ty.trmA]
theorem PN {P:Program}{n:Nat}{t:TypeId}{ty:Ty}(h:fT P n t=some ty):ty.rowT=true∨ty.one=true:=by
 cases n with
 |zero=>simp[fT] at h
 |succ n=>
  simp only[fT] at h;split at h
  ·cases h;exact .inr rfl
  ·cases h;exact .inr rfl
  ·cases h;exact .inr rfl
  ·rename_i e _;cases ht:rN P e<;>simp only[ht,cond_true,cond_false] at h
   ·simp only[aq] at h;obtain⟨te,_,h⟩:=h;cases hb:(Nat.beq (P.cellsOf e) te.flat.length&&Nat.ble 1 te.flat.length)<;>simp only[hb,cond_true,cond_false] at h
    ·cases h
    ·cases h;exact .inr rfl
   ·cases h;exact .inr rfl
  ·rename_i fs _;simp only[aq] at h;obtain⟨ts,_,h⟩:=h;cases hb:Nat.beq (P.cellsOf t) ts.length<;>simp only[hb,cond_true,cond_false] at h
   ·cases h
   ·cases h;exact .inl rfl
  ·cases h
def l5 (cap:Nat→Option CSig)(σ:Im)(ts:List Ty)(cs:List Value)(ds:List D):Prop:=
 cs.length=ts.length∧ds.length=ts.length∧∀(i:Nat) (u:Ty),ts[i]?=some u→Rep cap σ u (cs.getD i undef) (ds.getD i .none)∧u.one=true
theorem l5.one {cap:Nat→Option CSig}{σ:Im}{t:Ty}{v:Value}{d:D}(h:Rep cap σ t v d)(ht:t.one=true):l5 cap σ [t] [v] [d]:=
 ⟨rfl,rfl,fun i u hu=>by
   cases i with
   |zero=>simp at hu;subst hu;exact⟨h,ht⟩
   |succ i=>simp at hu⟩
theorem l5.append {cap:Nat→Option CSig}{σ:Im}{ts us:List Ty}{cs vs:List Value}{ds es:List D}(h:l5 cap σ ts cs ds)(k:l5 cap σ us vs es):l5 cap σ (ts++us) (cs++vs) (ds++es):=by
 obtain⟨h1,h2,h3⟩:=h;obtain⟨k1,k2,k3⟩:=k;refine⟨by simp[h1,k1],by simp[h2,k2],fun i u hu=>?_⟩;by_cases hi:i<ts.length
 ·rw[jF hi] at hu;have:=h3 i u hu;rw[aG,aG,jF (by omega),jF (by omega)];rw[aG,aG] at this;exact this
 ·rw[kE (by omega)] at hu;have:=k3 _ u hu;rw[aG,aG,kE (by omega),kE (by omega),h1,h2];rw[aG,aG] at this;exact this
def TU (ag:Bool)(ds:List D):D:=if ag then .agg ds else ds.getD 0 .none
theorem afD (t:Ty):t.flat.length=t.size:=by cases t<;>rfl
theorem Rep.ofRow {cap:Nat→Option CSig}{σ:Im}{t:Ty}{cs:List Value}{ds:List D}(gS:t.rowT=true∨t.one=true)(h:l5 cap σ t.flat cs ds):Rep cap σ t (Cx.rowOf t.rowT cs) (TU t.rowT ds):=by
 obtain⟨h1,h2,h3⟩:=h;cases t with
 |agg ts=>exact .agg ts cs ds h1 h2 (fun i u hu=>(h3 i u hu).1) (fun i u hu=>(h3 i u hu).2)
 |trm=>simp[Ty.rowT,Ty.one] at gS
 |_=>exact(h3 0 _ rfl).1
theorem anF {cap:Nat→Option CSig}{σ:Im}{t:Ty}{cs:List Value}{ds:List D}(gS:t.rowT=true∨t.one=true)(h:l5 cap σ t.flat cs ds){j:Nat}{u:Value}(hj:(rowOf t.rowT cs).cells[j]?=some u):cs[j]?=some u:=by
 obtain⟨h1,h2,h3⟩:=h;cases t with
 |agg ts=>simpa [rowOf,Ty.rowT,Value.cells] using hj
 |trm=>simp[Ty.rowT,Ty.one] at gS
 |_=>
  have h4:=h3 0 _ rfl;have h5:=(h4.1.oneCell h4.2).1;simp only[rowOf,Ty.rowT,uB,if_false] at hj;rw[h5] at hj;cases j with
  |zero=>
   simp only[EW,JM,aQ] at hj
   match cs,h1 with
   |[c],_=>simpa using hj
  |succ j=>simp at hj
section
variable {H:Type} {enc:TypeId×Value→H} {P:Program} {w:World} {base:Nat} {held:Bool} {cap:Nat→Option CSig}
theorem abR {k:IntKind}{n:Int}(h:(Lit.int k n).wf=true):k.min≤n∧n≤k.max:=by
 simpa [Lit.wf] using h
theorem aag {n m:Nat}(ih:∀(t:TypeId) (cs:List Value) (x:DataW H×List MemPlace) (ty:Ty),DataW.trod enc P w base (fun _=>true) held n t cs=some x→w.noneFrozen x.2→fT P m t=some ty→∃ds,l5 cap (kl w) ty.flat cs ds):
 ∀(fs:List Field) (off:Nat) (cs:List Value) (ts:List Ty),Ag P (fT P m) fs off=some ts→cs.length=off+ts.length→
  (∀f,f∈fs→∃x,DataW.trod enc P w base (fun _=>true) held n f.type ((cs.drop f.offset).take (P.cellsOf f.type))=some x∧w.noneFrozen x.2)→∃ds,l5 cap (kl w) ts (cs.drop off) ds
 |[],off,cs,ts,h,hl,_=>by
  simp only[Ag,aQ] at h;subst h;have:cs.drop off=[]:=by simp at hl ⊢;omega
  rw[this];exact⟨[],rfl,rfl,fun i u hu=>by simp at hu⟩
 |f::fs,off,cs,ts,h,hl,hx=>by
  simp only[Ag,aq] at h;obtain⟨ft,hft,h⟩:=h;cases hb:(Nat.beq f.offset off&&Nat.beq (P.cellsOf f.type) ft.flat.length)<;>simp only[hb,cond_true,cond_false] at h
  ·cases h
  simp only[ax] at h;obtain⟨us,hus,rfl⟩:=h;simp only[aj] at hb;have e1:=cI hb.1;have e2:=cI hb.2;obtain⟨x,nk,rL⟩:=hx f (dp ..);rw[e1,e2] at nk;obtain⟨Bx,iJ⟩:=ih _ _ _ _ nk rL hft;simp only[kF] at hl;obtain⟨T2,lz⟩:=aag ih fs (off+ft.flat.length) cs us hus (by omega) fun g hg=>hx g (dk _ hg);refine⟨Bx++T2,?_⟩;have:=iJ.append lz;rw[←List.drop_drop,JR] at this;exact this
theorem aqe:∀(n m:Nat) (t:TypeId) (cs:List Value) (x:DataW H×List MemPlace) (ty:Ty),DataW.trod enc P w base (fun _=>true) held n t cs=some x→w.noneFrozen x.2→fT P m t=some ty→∃ds,l5 cap (kl w) ty.flat cs ds:=by
 intro n
 induction n with
 |zero=>intro m t cs x ty h;simp[DataW.trod] at h
 |succ n ih=>
  intro m t cs x ty h hz aX;cases m with
  |zero=>simp[fT] at aX
  |succ m=>
   simp only[fT] at aX;split at aX
   ·rename_i hu;cases aX;obtain⟨b,rfl,_⟩:=DataW.trod_bool hu h;exact⟨_,.one (.bool b) rfl⟩
   ·rename_i k hu;cases aX;obtain⟨z,rfl,_,hw⟩:=DataW.trod_int hu h;exact⟨_,.one (.int k z (abR hw).1 (abR hw).2) rfl⟩
   ·rename_i hu;cases aX;obtain⟨s,rfl,_,hs⟩:=DataW.trod_string hu h;exact⟨_,.one (.str s hs) rfl⟩
   ·rename_i e hu;have vJ:∃(m':Nat) (te wW:Ty),fT P m' e=some te∧P.cellsOf e=te.flat.length∧1≤te.flat.length∧ty=.slice wW∧wW.unf=te:=by
     cases ht:rN P e<;>simp only[ht,cond_true,cond_false] at aX
     ·simp only[aq] at aX;obtain⟨te,vJ,aX⟩:=aX;cases hb:(Nat.beq (P.cellsOf e) te.flat.length&&Nat.ble 1 te.flat.length)<;>simp only[hb,cond_true,cond_false] at aX
      ·cases aX
      cases aX;simp only[aj] at hb;exact⟨m,te,te,vJ,cI hb.1,jo hb.2,rfl,Ty.unf_ro (PN vJ)⟩
     ·cases aX;obtain⟨k1,k2⟩:=ajQ ht 0;exact⟨2,.trmA,.trm,k1,k2,by decide,rfl,rfl⟩
    obtain⟨m',te,wW,vJ,e1,e2,rfl,mq⟩:=vJ;have gS:=PN vJ;rcases DataW.trod_slice hu h with⟨rfl,_⟩|⟨a,len,cp,elems,rest,n',gR,rfl,Ht,hba,hl,hm,hlen,iZ,tD,_⟩
    ·exact⟨_,.one (.nil wW) rfl⟩
    ·cases gR;obtain⟨hrl,tA⟩:=tD rfl
     have kJ:∀i,i<cp→∃ci y,w.cells? base (a.add (i*P.cellsOf e)) (P.cellsOf e)=some ci∧DataW.trod enc P w base (fun _=>true) held n e ci=some y∧y∈elems++rest:=by
      intro i hi
      have eh:∃y,(w.cells? base (a.add (i*P.cellsOf e)) (P.cellsOf e)).bind (DataW.trod enc P w base (fun _=>true) held n e)=some y∧y∈elems++rest:=by
           by_cases vw:i<len
           ·rw[iZ i vw];exact⟨_,bq (by omega),gJ _ (cT _)⟩
           ·have:=tA (i-len) (by omega);rw[show len+(i-len)=i by omega] at this;rw[this];exact⟨_,bq (by omega),ia _ (cT _)⟩
      obtain⟨y,hy,M7⟩:=eh;rw[aq] at hy;obtain⟨ci,h1,h2⟩:=hy;exact⟨ci,y,h1,h2,M7⟩
     by_cases Cc:cp=0
     ·subst Cc;have:len=0:=by omega
      subst this;exact⟨_,.one (.emp wW a) rfl⟩
     ·have V6:a.spot=none:=by
           obtain⟨ci,y,h1,_⟩:=kJ 0 (by omega);obtain⟨_,_,h3⟩:=World.cells?_some h1;have:=h3 0 (by omega);simp only[Nat.zero_mul,Addr.add,if_true] at this;unfold World.cell? at this;cases hs:a.spot with
           |none=>rfl
           |some s=>
            exfalso;have hl:ci.length=P.cellsOf e:=(World.cells?_some h1).2.1;split at this
            ·rw[hs] at this;simp at this;subst this;simp at hl;omega
            ·rw[eq_comm,List.getElem?_eq_none_iff] at this;omega
      obtain⟨k,o,s⟩:=a;simp only at V6;subst V6;have aN:∀i,∃p:List Value×List D,i<len→w.cells? base ((⟨k,o,none⟩:Addr).add (i*P.cellsOf e)) (P.cellsOf e)=some p.1∧l5 cap (kl w) te.flat p.1 p.2:=by
           intro i;by_cases hi:i<len
           ·obtain⟨ci,y,h1,h2,M7⟩:=kJ i (by omega);obtain⟨ds,hr⟩:=ih m' _ _ _ _ h2 (fun b off hp=>hz b off (by rw[Ht];exact ia _ (j8.2 ⟨y,M7,hp⟩))) vJ;exact⟨(ci,ds),fun _=>⟨h1,hr⟩⟩
           ·exact⟨([],[]),fun h=>absurd h hi⟩
      obtain⟨f,hf⟩:=Classical.axiomOfChoice aN;have tp:(kl w).m k=some gE:=by
           obtain⟨ci,y,h1,_⟩:=kJ 0 (by omega);obtain⟨_,h4,h5⟩:=World.cells?_some h1;have h6:=h5 0 (by omega);rw[bq (by omega)] at h6;simp only[Nat.zero_mul,Addr.add,if_true] at h6;exact Wm h6
      refine⟨_,.one (.slice wW k o len cp ((List.range len).map fun i=>TU te.rowT (f i).2) (fun i=>rowOf te.rowT (f i).1) (by simp) hl hm (fun i x hx=>?_) (fun i j u hi hj=>?_) (fun _=>tp)) rfl⟩
      ·rw[cg,ax] at hx;obtain⟨i',cU,rfl⟩:=hx;have af:i<len:=by have:=(eT.1 cU).1;simpa using this
       rw[pD af] at cU;cases cU;rw[mq];exact Rep.ofRow gS (hf i af).2
      ·obtain⟨h1,h2⟩:=hf i hi;have dg:=anF gS h2 hj;obtain⟨_,h4,h5⟩:=World.cells?_some h1;have fN:j<P.cellsOf e:=by rw[←h4];exact(eT.1 dg).1
       have:=h5 j fN;rw[dg] at this;have br:i*P.cellsOf e+j<(elems.length+rest.length)*P.cellsOf e:=by
           have h6:(i+1)*P.cellsOf e≤(elems.length+rest.length)*P.cellsOf e:=mP _ (by omega);rw[Nat.succ_mul] at h6;omega
       have tF:=hz k (o+(i*P.cellsOf e+j)) (by rw[Ht];exact gJ _ (MemPlace.mem_row.2 ⟨_,br,rfl⟩));rw[←wW.unf_size,mq,←afD,←e1,sK];refine Wl ?_ (.inr tF);rw[←this]
       congr 1
       simp only[Addr.add];split<;>split<;>simp_all<;>omega
   ·rename_i fs hu;simp only[aq] at aX;obtain⟨ts,MR,aX⟩:=aX;cases hb:Nat.beq (P.cellsOf t) ts.length<;>simp only[hb,cond_true,cond_false] at aX
    ·cases aX
    cases aX;obtain⟨xs,n',gR,Ht,hl,vN,hf⟩:=DataW.trod_struct hu h;cases gR
    have:=aag (ih m) fs.toList 0 cs ts MR (by rw[hl,cI hb];omega) (fun f hm=>by
     obtain⟨i,hi⟩:=xk hm;have cU:fs[i]?=some f:=by simpa using hi
     have h1:=hf i f cU;have af:i<fs.size:=(fX.1 cU).1;exact⟨_,h1.trans (bq (by omega)),fun b off hp=>hz b off (by rw[Ht];exact j8.2 ⟨_,cT (by omega),hp⟩)⟩)
    show ∃ds,l5 cap (kl w) ts cs ds;simpa using this
   ·cases aX
theorem Bc {base:Nat}{t:TypeId}{v:Value}(h:Cell.okWide P w .any base t v):v.cells=#[v]:=by
 cases v<;>first|rfl|(exfalso;simp only[Cell.okWide,Cell.ok] at h;revert h;cases P.underlying t with|none=>simp|some T=>cases T<;>simp)
theorem acH {base base':Nat}{m:Nat}{t:TypeId}{v:Value}{d:DataW H}{ps:List MemPlace}{ty:Ty}(au:Value.okWide P w .any base' t v)(h:DataW.Trod enc P w base (fun _=>true) held t v d ps)(hz:w.noneFrozen ps)(aX:fT P m t=some ty):∃d,Rep cap (kl w) ty v d:=by
 obtain⟨fuel,h⟩:=h;obtain⟨ds,hr⟩:=aqe (cap:=cap) fuel m t _ _ _ h hz aX;have bH:=Rep.ofRow (PN aX) hr;cases m with
 |zero=>simp[fT] at aX
 |succ m=>
  suffices hs:rowOf ty.rowT v.cells.toList=v by rw[hs] at bH;exact⟨_,bH⟩
  simp only[fT] at aX;unfold Value.okWide at au;split at aX
  ·rename_i hu;cases aX;rw[hu] at au;simp only at au;rw[Bc au];rfl
  ·rename_i hu;cases aX;rw[hu] at au;simp only at au;rw[Bc au];rfl
  ·rename_i hu;cases aX;rw[hu] at au;simp only at au;rw[Bc au];rfl
  ·rename_i e hu;cases ht:rN P e<;>simp only[ht,cond_true,cond_false] at aX
   ·simp only[aq] at aX;obtain⟨te,_,aX⟩:=aX;cases hb:(Nat.beq (P.cellsOf e) te.flat.length&&Nat.ble 1 te.flat.length)<;>simp only[hb,cond_true,cond_false] at aX
    ·cases aX
    cases aX;rw[hu] at au;simp only at au;rw[Bc au];rfl
   ·cases aX;rw[hu] at au;simp only at au;rw[Bc au];rfl
  ·rename_i fs hu;simp only[aq] at aX;obtain⟨ts,_,aX⟩:=aX;cases hb:Nat.beq (P.cellsOf t) ts.length<;>simp only[hb,cond_true,cond_false] at aX
   ·cases aX
   cases aX;rw[hu] at au;obtain⟨cs,rfl,_⟩:=au;simp[rowOf,Ty.rowT,Value.cells]
  ·cases aX
def Eo (P:Program)(m:Nat):List TypeId→Option (List Ty)
 |[]=>some []
 |t::ts=>(fT P m t).bind fun x=>(Eo P m ts).map (x::·)
theorem Te {base base' m:Nat}:∀(ts:List TypeId) (vs:List Value) (ds:List (DataW H)) (ps:List MemPlace) (fi:List Ty),DataW.TrodAll enc P w base (fun _=>true) held ts vs ds ps→w.noneFrozen ps→Eo P m ts=some fi→
 (∀(j:Nat) t v,ts[j]?=some t→vs[j]?=some v→Value.okWide P w .any base' t v)→
 ∃es:List D,vs.length=fi.length∧es.length=fi.length∧∀(i:Nat) (t:Ty),fi[i]?=some t→Rep cap (kl w) t (vs.getD i undef) (es.getD i .none)
 |[],vs,ds,ps,fi,h,hz,aX,_=>by
  simp only[Eo,aQ] at aX;subst aX;cases vs with
  |nil=>exact⟨[],rfl,rfl,fun i t h=>by simp at h⟩
  |cons=>cases ds<;>exact h.elim
 |t::ts,vs,ds,ps,fi,h,hz,aX,au=>by
  simp only[Eo,aq,ax] at aX;obtain⟨ty,ajp,aqh,ajq,rfl⟩:=aX;cases vs with
  |nil=>cases ds<;>exact h.elim
  |cons v vs=>
   cases ds with
   |nil=>exact h.elim
   |cons d ds=>
    obtain⟨p,q,h1,h2,VX⟩:=h;obtain⟨e,he⟩:=acH (cap:=cap) (au 0 t v rfl rfl) h1 (fun b off hp=>hz b off (by rw[VX];exact gJ _ hp)) ajp;obtain⟨es,k1,k2,k3⟩:=Te ts vs ds q aqh h2 (fun b off hp=>hz b off (by rw[VX];exact ia _ hp)) ajq (fun j t' v' hj hv=>au (j+1) t' v' hj hv);refine⟨e::es,by simp[k1],by simp[k2],fun i u hu=>?_⟩;cases i with
    |zero=>simp at hu;subst hu;exact he
    |succ i=>simpa using k3 i u (by simpa using hu)
end
mutual
inductive DTy:Ty→D→Prop where
 |int (k:IntKind) (n:Int) (h1:k.min≤n) (h2:n≤k.max):DTy (.int k) (.v (.int k n))
 |bool (b:Bool):DTy .bool (.v (.bool b))
 |str (s:ByteArray) (h:s.size≤maxLen):DTy .str (.v (.string s))
 |slice (e:Ty) (xs:List D) (hm:xs.length≤maxLen) (h:∀x,x∈xs→DTy e.unf x):DTy (.slice e) (.list xs)
 |agg (ts:List Ty) (ds:List D) (h:DTys ts ds):DTy (.agg ts) (.agg ds)
 |other (t:Ty) (d:D) (h:match t with|.int _|.bool|.str|.slice _|.agg _=>False|_=>True):DTy t d
inductive DTys:List Ty→List D→Prop where
 |nil:DTys [] []
 |cons {t:Ty} {d:D} {ts:List Ty} {ds:List D} (h:DTy t d) (hs:DTys ts ds):DTys (t::ts) (d::ds)
end
theorem DTys.of_get:∀{ts:List Ty} {ds:List D},ds.length=ts.length→(∀(i:Nat) (t:Ty),ts[i]?=some t→DTy t (ds.getD i .none))→DTys ts ds
 |[],[],_,_=>.nil
 |t::ts,d::ds,hl,h=>.cons (h 0 t rfl) (DTys.of_get (by simpa using hl) fun i u hu=>by simpa using h (i+1) u (by simpa using hu))
 |[],_::_,hl,_=>by simp at hl
 |_::_,[],hl,_=>by simp at hl
theorem Rep.dty {cap:Nat→Option CSig}{σ:Im}{t:Ty}{v:Value}{d:D}(h:Rep cap σ t v d):DTy t d:=by
 induction h with
 |int k n h1 h2=>exact .int k n h1 h2
 |bool b=>exact .bool b
 |str s h=>exact .str s h
 |agg ts vs ds h1 h2 _ ho ih=>exact .agg ts ds (.of_get h2 ih)
 |nil e=>exact .slice e [] (by decide) (fun x hx=>by cases hx)
 |emp e a=>exact .slice e [] (by decide) (fun x hx=>by cases hx)
 |slice e k o n c xs vs hn hc hm _ hv _ ih=>
  refine .slice e xs (by omega) fun x hx=>?_;obtain⟨i,hi⟩:=xk hx;exact ih i x hi
 |_=>exact .other _ _ trivial
theorem ajY {H:Type}{enc:TypeId×Value→H}{C:Ctx}{f:Nat}{fn:Func}{sg:Sig}{spec:ChangeSpec}{tb:TypeId}{apart fresh handsOn again:Bool}(hl:laidOutB C.P=true)
 (qe:Eo C.P 12 fn.params.toList=some sg.args) (aiU:fn.params.toList.all (fun t=>C.P.readableRec t&&decide (t<C.P.types.size))=true) (MW:spec.vars=[])
 (ajb:∀ds:List (DataW H),ds.length=fn.params.size→(spec.fn H ds).results=[.lit (.bool true)]∧(spec.fn H ds).args=ds∧(spec.fn H ds).vars=[])
 (du:fn.resultTypes=#[tb]) (Wb:C.P.underlying tb=some .bool) (ki:sg.mode=.dat) (tB:sg.res=.bool)
 (L8:∀ds,DTys sg.args ds→fH C f sg ds (.v (.bool true)))
 (W:World) (p6:CtxOK C (kl W)) (base:Nat) (args:Array Value) (ds gs:List (DataW H)) (before:List MemPlace)
 (bX:∀(j:Nat) t v,fn.params[j]?=some t→args[j]?=some v→Value.okWide C.P W .any base t v)
 (hW:DataW.Whole enc C.P fn.params.toList spec.vars apart W args.toList ds gs before):
 Calls C.P f args W fun e W'=>∃v,e=.returned v∧spec.post enc C.P fn apart fresh handsOn again W args v W':=by
 have GM:=hW;have af:∀p∈before,p.block<W.heap.size:=fun p hp=>GM.lt p hp;obtain⟨p,q,hA,hV,rfl,yW,ba⟩:=hW;rw[MW] at hV;obtain⟨rfl,rfl⟩:=trodVars_none hV;obtain⟨es,k1,k2,k3⟩:=Te (cap:=C.cap) (base':=base) fn.params.toList args.toList ds p sg.args hA (fun b off hp=>yW b off (by simpa using hp)) qe (fun j t v hj hv=>bX j t v (by simpa using hj) (by simpa using hv));have aX:DTys sg.args es:=.of_get k2 fun i t ht=>(k3 i t ht).dty
 have hlen:∀(ts:List TypeId) (vs:List Value) (ds:List (DataW H)) (ps:List MemPlace),DataW.TrodAll enc C.P W 0 (fun _=>true) true ts vs ds ps→ds.length=ts.length:=by
  intro ts
  induction ts with
  |nil=>intro vs ds ps h;cases vs<;>cases ds<;>first|rfl|exact h.elim
  |cons t ts ih=>
   intro vs ds ps h;cases vs with
   |nil=>cases ds<;>exact h.elim
   |cons v vs=>cases ds with
    |nil=>exact h.elim
    |cons d ds=>obtain⟨p,q,_,h2,_⟩:=h;simp[ih vs ds q h2]
 have LM:ds.length=fn.params.size:=by simpa using hlen _ _ _ _ hA
 obtain⟨s1,s2,s3⟩:=ajb (ds++[]) (by simpa using LM);refine(L8 es aX (kl W) W args (ajJ W) p6 ⟨k1,k2,k3⟩).mono fun e W' hh=>?_;obtain⟨v,σ',rfl,_,_,hb,_,_,hr⟩:=hh;refine⟨v,rfl,?_⟩;simp only[lf,ki,tB] at hr;obtain⟨b,rfl,vl⟩:=hr.bool_inv;cases vl
 have stays:∀(sp:Nat→Bool) (ts:List TypeId) (vs:List Value) (ds:List (DataW H)) (ps:List MemPlace),ts.all (fun t=>C.P.readableRec t&&decide (t<C.P.types.size))=true→(∀x∈ps,x.block<W.heap.size)→(∀x∈ps,sp x.block=true)→
  DataW.TrodAll enc C.P W 0 (fun _=>true) true ts vs ds ps→DataW.TrodAll enc C.P W' 0 sp true ts vs ds ps:=by
  intro sp ts
  induction ts with
  |nil=>intro vs ds ps _ _ _ h;cases vs<;>cases ds<;>first|exact h|exact h.elim
  |cons t ts ih=>
   intro vs ds ps ha rE tD h;cases vs with
   |nil=>cases ds<;>exact h.elim
   |cons v vs=>cases ds with
    |nil=>exact h.elim
    |cons d ds=>
     obtain⟨p,q,h1,h2,rfl⟩:=h;simp only[pB,aj,decide_eq_true_eq] at ha
     exact⟨p,q,WideElems.Trod_stays hl ha.1.1 ha.1.2 h1 (fun x hx=>hb.same (rE x (gJ _ hx))) (fun x hx=>tD x (gJ _ hx)),
      ih vs ds q (by simpa using ha.2) (fun x hx=>rE x (ia _ hx)) (fun x hx=>tD x (ia _ hx)) h2,rfl⟩
 have VG:∀x∈p,x.block<W.heap.size:=fun x hx=>af x (gJ _ hx);have ix:=fun sp (h:∀x∈p,sp x.block=true)=>stays sp _ _ _ _ aiU VG h hA;have tA:∀(b:Nat) (sp:Nat→Bool) (hd:Bool),DataW.TrodAll enc C.P W' b sp hd fn.resultTypes.toList ((Value.bool true).resultList fn.resultTypes.size) [.lit (.bool true)] []:=by
  intro b sp hd;rw[du];exact trodAll_mk1 (shut_bool Wb true)
 refine⟨ds,[],p++[],[],p,[],GM,?_,?_,?_,World.keptBut_mono (fun x hx=>⟨hx,?_⟩) (hb.frame (·∈p++[])),fun _=>?_⟩
 ·rw[s1];exact tA _ _ _
 ·rw[s2];simpa using ix _ (fun x hx=>by simpa using VG x hx)
 ·rw[s3,MW];rfl
 ·simpa using hx
 ·refine⟨ok_one du rfl (okWide_bool_mk Wb true),_,[],([]++p)++[],⟨[]++p,[],trodAll_append (ix _ (fun _ _=>rfl)) (tA _ _ _),by rw[MW];exact rfl,rfl,?_,?_⟩,?_⟩
  ·intro b off hp;have br:MemPlace.cell b off∈p++[]:=by simpa using hp
   rw[hb.frozen (af _ br)];exact yW b off br
  ·intro ha;simpa using ba ha
  ·intro x hx _;simpa using hx
end Cx
namespace Cx
open Go Go.RowKit
abbrev cq:=Nat→aK
def ak (T:cq)(f:Nat)(ds:List D)(d:D):Prop:=∃n0,∀n,n0≤n→T n f ds=some d
def xf (T:cq)(l:List PI)(ρ:Env)(Q:Env→Prop):Prop:=∃ρ',Q ρ'∧∃n0,∀n,n0≤n→PI.runs (T n) l ρ=some ρ'
def aS (T:cq)(c:PC)(ρ:Env)(Q:Out→Prop):Prop:=∃x,Q x∧∃n0,∀n,n0≤n→c.ev (T n) n ρ=some x
theorem aS.mono {T:cq}{c:PC}{ρ:Env}{Q Q':Out→Prop}(h:aS T c ρ Q)(hq:∀x,Q x→Q' x):aS T c ρ Q':=by
 obtain⟨x,hx,n0,hn⟩:=h;exact⟨x,hq x hx,n0,hn⟩
theorem xf.nil {T:cq}{ρ:Env}{Q:Env→Prop}(h:Q ρ):xf T [] ρ Q:=⟨ρ,h,0,fun _ _=>rfl⟩
theorem xf.cons {T:cq}{p:PI}{l:List PI}{ρ ρ1:Env}{Q:Env→Prop}{n0:Nat}(h:∀n,n0≤n→p.run (T n) ρ=some ρ1)(k:xf T l ρ1 Q):xf T (p::l) ρ Q:=by
 obtain⟨ρ',hQ,n1,h1⟩:=k;exact⟨ρ',hQ,max n0 n1,fun n hn=>by simp[PI.runs,h n (by omega),h1 n (by omega)]⟩
def gG (T:cq):List PI→Env→(Env→Prop)→Prop
 |[],ρ,Q=>Q ρ
 |.setR t e::l,ρ,Q=>gG T l (ρ.setR t (e.ev ρ)) Q
 |.setO t e::l,ρ,Q=>gG T l (ρ.setO t (e.ev ρ)) Q
 |.chk e::l,ρ,Q=>(e.ev ρ).b=true∧gG T l ρ Q
 |.call gs dst f args::l,ρ,Q=>if holds gs ρ=true then ∃d,ak T f (PE.evs ρ args) d∧gG T l (ρ.setR dst d) Q else gG T l ρ Q
 |.callc gs dst e args::l,ρ,Q=>if holds gs ρ=true then ∃f caps d,e.ev ρ=.clo f caps∧ak T f (PE.evs ρ args++caps) d∧gG T l (ρ.setR dst d) Q else gG T l ρ Q
 |.mcall j f args::l,ρ,Q=>∃d,ak T f (PE.evs ρ args) d∧gG T l (ρ.setO j d) Q
theorem sv {T:cq}:∀{l:List PI} {ρ:Env} {Q:Env→Prop},gG T l ρ Q→xf T l ρ Q
 |[],ρ,Q,h=>.nil h
 |.setR t e::l,ρ,Q,h=>.cons (n0:=0) (fun _ _=>rfl) (sv h)
 |.setO t e::l,ρ,Q,h=>.cons (n0:=0) (fun _ _=>rfl) (sv h)
 |.chk e::l,ρ,Q,h=>.cons (n0:=0) (fun n _=>by simp[PI.run,h.1]) (sv h.2)
 |.call gs dst f args::l,ρ,Q,h=>by
  unfold gG at h;split at h
  ·rename_i hg;obtain⟨d,⟨n0,hn⟩,h⟩:=h;exact .cons (n0:=n0) (fun n hle=>by simp[PI.run,hg,hn n hle]) (sv h)
  ·rename_i hg;exact .cons (n0:=0) (fun n hle=>by simp[PI.run,hg]) (sv h)
 |.callc gs dst e args::l,ρ,Q,h=>by
  unfold gG at h;split at h
  ·rename_i hg;obtain⟨f,caps,d,he,⟨n0,hn⟩,h⟩:=h;exact .cons (n0:=n0) (fun n hle=>by simp[PI.run,hg,he,hn n hle]) (sv h)
  ·rename_i hg;exact .cons (n0:=0) (fun n hle=>by simp[PI.run,hg]) (sv h)
 |.mcall j f args::l,ρ,Q,h=>by
  obtain⟨d,⟨n0,hn⟩,h⟩:=h;exact .cons (n0:=n0) (fun n hle=>by simp[PI.run,hn n hle]) (sv h)
def kp (ρ:Env)(lr lo:List Nat)(Q:Out→Prop):Out→Prop
 |.next ρ'=>Q (.next (ρ.join lr lo ρ'))
 |x=>Q x
def lj (ρ:Env)(id:Nat)(lr lo:List Nat)(Q:Out→Prop):Out→Prop
 |.next ρ'=>Q (.next (ρ.join lr lo ρ'))
 |.exit bL ρ'=>if bL=id then Q (.next (ρ.join lr lo ρ')) else Q (.exit bL ρ')
 |.ret d=>Q (.ret d)
def gF (K:Env→Prop)(Q:Out→Prop):Out→Prop
 |.next ρ'=>K ρ'
 |.exit id ρ'=>Q (.exit id ρ')
 |.ret d=>Q (.ret d)
theorem aS.is {T:cq}{l:List PI}{ρ:Env}{Q:Out→Prop}(h:gG T l ρ fun ρ'=>Q (.next ρ')):aS T (.is l) ρ Q:=by
 obtain⟨ρ',hQ,n0,hn⟩:=sv h;exact⟨.next ρ',hQ,n0,fun n hle=>by simp[PC.ev,hn n hle]⟩
theorem aS.skip {T:cq}{ρ:Env}{Q:Out→Prop}(h:Q (.next ρ)):aS T .skip ρ Q:=⟨_,h,0,fun _ _=>rfl⟩
theorem aS.exit {T:cq}{ρ:Env}{id:Nat}{Q:Out→Prop}(h:Q (.exit id ρ)):aS T (.exit id) ρ Q:=⟨_,h,0,fun _ _=>rfl⟩
theorem aS.ret {T:cq}{ρ:Env}{e:PE}{Q:Out→Prop}(h:Q (.ret (e.ev ρ))):aS T (.ret e) ρ Q:=⟨_,h,0,fun _ _=>rfl⟩
theorem aS.seq {T:cq}{a b:PC}{ρ:Env}{Q:Out→Prop}(h:aS T a ρ (gF (fun ρ'=>aS T b ρ' Q) Q)):aS T (.seq a b) ρ Q:=by
 obtain⟨x,hx,n0,hn⟩:=h;cases x with
 |next ρ'=>
  obtain⟨y,hy,n1,h1⟩:=hx;exact⟨y,hy,max n0 n1,fun n hle=>by simp[PC.ev,hn n (by omega),h1 n (by omega)]⟩
 |exit id ρ'=>exact⟨_,hx,n0,fun n hle=>by simp[PC.ev,hn n hle]⟩
 |ret d=>exact⟨_,hx,n0,fun n hle=>by simp[PC.ev,hn n hle]⟩
theorem aS.ite {T:cq}{c:PE}{lr lo:List Nat}{a b:PC}{ρ:Env}{Q:Out→Prop}(h:if(c.ev ρ).b=true then aS T a ρ (kp ρ lr lo Q) else aS T b ρ (kp ρ lr lo Q)):aS T (.ite c lr lo a b) ρ Q:=by
 split at h
 all_goals
  rename_i hc;obtain⟨x,hx,n0,hn⟩:=h;cases x with
  |next ρ'=>exact⟨_,hx,n0,fun n hle=>by simp[PC.ev,hc,hn n hle]⟩
  |exit id ρ'=>exact⟨_,hx,n0,fun n hle=>by simp[PC.ev,hc,hn n hle]⟩
  |ret d=>exact⟨_,hx,n0,fun n hle=>by simp[PC.ev,hc,hn n hle]⟩
theorem aS.block {T:cq}{id:Nat}{lr lo:List Nat}{a:PC}{ρ:Env}{Q:Out→Prop}(h:aS T a ρ (lj ρ id lr lo Q)):aS T (.block id lr lo a) ρ Q:=by
 obtain⟨x,hx,n0,hn⟩:=h;cases x with
 |next ρ'=>exact⟨_,hx,n0,fun n hle=>by simp[PC.ev,hn n hle]⟩
 |exit bL ρ'=>
  simp only[lj] at hx;split at hx
  ·rename_i e;subst e;exact⟨_,hx,n0,fun n hle=>by simp[PC.ev,hn n hle]⟩
  ·rename_i e;exact⟨_,hx,n0,fun n hle=>by simp[PC.ev,hn n hle,dY e]⟩
 |ret d=>exact⟨_,hx,n0,fun n hle=>by simp[PC.ev,hn n hle]⟩
theorem aS.loop {T:cq}{lr lo:List Nat}{a:PC}{ρ:Env}{Q:Out→Prop}{α:Type}(inv:α→List D→List D→Prop)(tN:α→Nat)(s0:α)(h0:inv s0 (lr.map ρ.r) (lo.map ρ.o))
 (step:∀s vr vo,inv s vr vo→aS T a (ρ.put lr vr lo vo) (gF (fun ρ'=>∃s',tN s'<tN s∧inv s' (lr.map ρ'.r) (lo.map ρ'.o)) Q)):aS T (.loop lr lo a) ρ Q:=by
 have key:∀(m:Nat) (s:α) (vr vo:List D),tN s≤m→inv s vr vo→∃x,Q x∧∃n0,∀n k,n0≤n→n0≤k→gW (a.ev (T n) n) ρ lr lo k vr vo=some x:=by
  intro m
  induction m with
  |zero=>
   intro s vr vo hm hi;obtain⟨x,hx,n0,hn⟩:=step s vr vo hi;cases x with
   |next ρ'=>obtain⟨s',af,_⟩:=hx;omega
   |exit id ρ'=>
    refine⟨_,hx,n0+1,fun n k hle hk=>?_⟩;obtain⟨k',rfl⟩:∃k',k=k'+1:=⟨k-1,by omega⟩
    simp[gW,hn n (by omega)]
   |ret d=>
    refine⟨_,hx,n0+1,fun n k hle hk=>?_⟩;obtain⟨k',rfl⟩:∃k',k=k'+1:=⟨k-1,by omega⟩
    simp[gW,hn n (by omega)]
  |succ m ih=>
   intro s vr vo hm hi;obtain⟨x,hx,n0,hn⟩:=step s vr vo hi;cases x with
   |next ρ'=>
    obtain⟨s',af,cU⟩:=hx;obtain⟨y,hy,n1,h1⟩:=ih s' _ _ (by omega) cU;refine⟨y,hy,max n0 n1+1,fun n k hle hk=>?_⟩;obtain⟨k',rfl⟩:∃k',k=k'+1:=⟨k-1,by omega⟩
    simp[gW,hn n (by omega),h1 n k' (by omega) (by omega)]
   |exit id ρ'=>
    refine⟨_,hx,n0+1,fun n k hle hk=>?_⟩;obtain⟨k',rfl⟩:∃k',k=k'+1:=⟨k-1,by omega⟩
    simp[gW,hn n (by omega)]
   |ret d=>
    refine⟨_,hx,n0+1,fun n k hle hk=>?_⟩;obtain⟨k',rfl⟩:∃k',k=k'+1:=⟨k-1,by omega⟩
    simp[gW,hn n (by omega)]
 obtain⟨x,hx,n0,hn⟩:=key (tN s0) s0 _ _ (aW _) h0;exact⟨x,hx,n0,fun n hle=>by simp only[PC.ev];exact hn n n hle hle⟩
def sV (ρ:Env)(lo:List Nat)(rt:Option PE)(K:List D→Prop)(Q:Out→Prop):Out→Prop
 |.next ρ'=>K (lo.map ρ'.o)
 |.exit id ρ'=>if id=cD then ∃e,rt=some e∧Q (.ret (e.ev (ρ.put [] [] lo (lo.map ρ'.o)))) else Q (.exit id (ρ.put [] [] lo (lo.map ρ'.o)))
 |.ret _=>False
theorem aS.each {T:cq}{e:PE}{ps lo:List Nat}{rt:Option PE}{a:PC}{ρ:Env}{Q:Out→Prop}(xs:List D)(he:(e.ev ρ).l=xs)(inv:Nat→List D→Prop)(h0:inv 0 (lo.map ρ.o))
 (step:∀k x vo,xs[k]?=some x→inv k vo→aS T a (ρ.put ps (partsOf ps x) lo vo) (sV ρ lo rt (inv (k+1)) Q)) (done:∀vo,inv xs.length vo→Q (.next (ρ.put [] [] lo vo))):aS T (.each e ps lo rt a) ρ Q:=by
 have key:∀(r k:Nat) (vo:List D),k+r=xs.length→inv k vo→∃x,Q x∧∃n0,∀n,n0≤n→il (a.ev (T n) n) ρ ps lo rt (xs.drop k) vo=some x:=by
  intro r
  induction r with
  |zero=>
   intro k vo hk hi;have:xs.drop k=[]:=by rw[SJ];omega
   obtain rfl:k=xs.length:=by omega
   exact⟨_,done vo hi,0,fun n _=>by rw[this];rfl⟩
  |succ r ih=>
   intro k vo hk hi;have af:k<xs.length:=by omega
   rw[acg af];obtain⟨y,hy,n0,hn⟩:=step k xs[k] vo (bq af) hi;cases y with
   |next ρ'=>
    obtain⟨z,hz,n1,h1⟩:=ih (k+1) _ (by omega) hy;exact⟨z,hz,max n0 n1,fun n hle=>by simp only[il,hn n (by omega)];exact h1 n (by omega)⟩
   |exit id ρ'=>
    simp only[sV] at hy;split at hy
    ·rename_i ct;obtain⟨e,h1,h2⟩:=hy;exact⟨_,h2,n0,fun n hle=>by subst ct;simp[il,hn n hle,h1]⟩
    ·rename_i ct;exact⟨_,hy,n0,fun n hle=>by simp[il,hn n hle,dY ct]⟩
   |ret d=>exact hy.elim
 obtain⟨x,hx,n0,hn⟩:=key xs.length 0 _ (by omega) h0;exact⟨x,hx,n0,fun n hle=>by simp only[PC.ev,he];exact hn n hle⟩
theorem Zg {α:Type}:∀(l:List α),∃L:List (List α),∀ys,ys∈L↔ys.Perm l
 |[]=>⟨[[]],fun ys=>by simp⟩
 |x::l=>by
  obtain⟨L,hL⟩:=Zg l;refine⟨L.flatMap fun ys=>(List.range (ys.length+1)).map fun i=>ys.take i++x::ys.drop i,fun zs=>?_⟩;simp only[j8,dP,bV];constructor
  ·rintro⟨ys,hy,i,_,rfl⟩;have h1:=(hL ys).1 hy;refine(List.perm_middle).trans (.cons x ?_);rw[JR];exact h1
  ·intro h;have hx:x∈zs:=h.symm.subset (dp ..);obtain⟨s,t,rfl⟩:=SH hx;refine⟨s++t,(hL _).2 ?_,s.length,by simp;omega,by simp⟩;exact(List.perm_cons x).1 ((List.perm_middle).symm.trans h)
theorem aS.meach {T:cq}{J:Nat}{ps cS lo:List Nat}{a:PC}{ρ:Env}{Q:Out→Prop}(es:List (D×D))(he:ρ.o J=.tup [.list [],.map es])(inv:List D→List D→Prop)(h0:inv [] (lo.map ρ.o))
 (step:∀done x rest vo,(done++x::rest).Perm (gY (.map es))→inv done vo→aS T a ((ρ.put ps (cS.map x.tget) lo vo).setO J (.tup [.list (done++[x]),.map es])) (fun y=>∃ρ',y=.next ρ'∧inv (done++[x]) (lo.map ρ'.o)))
 (last:∃vo,(∀done,done.Perm (gY (.map es))→∀qF,inv done qF→qF=vo)∧Q (.next (ρ.put [] [] lo vo))):aS T (.meach J ps cS lo a) ρ Q:=by
 obtain⟨vo,hl,hQ⟩:=last;have key:∀(xs done:List D) (vs:List D),(done++xs).Perm (gY (.map es))→inv done vs→∃n0,∀n,n0≤n→ny (a.ev (T n) n) ρ J (.map es) ps cS lo xs done vs=some vo:=by
  intro xs
  induction xs with
  |nil=>intro done vs hp hi;exact⟨0,fun n _=>by rw[hl done (by simpa using hp) vs hi];rfl⟩
  |cons x xs ih=>
   intro done vs hp hi;obtain⟨y,⟨ρ',rfl,cU⟩,n0,hn⟩:=step done x xs vs hp hi;obtain⟨n1,h1⟩:=ih (done++[x]) _ (by simpa using hp) cU;exact⟨max n0 n1,fun n hle=>by simp only[ny,hn n (by omega)];exact h1 n (by omega)⟩
 have me:∀(L:List (List D)),(∀ys,ys∈L→ys.Perm (gY (.map es)))→∃n0,∀n,n0≤n→∀ys,ys∈L→ny (a.ev (T n) n) ρ J (.map es) ps cS lo ys [] (lo.map ρ.o)=some vo:=by
  intro L
  induction L with
  |nil=>intro _;exact⟨0,fun n _ ys hy=>by cases hy⟩
  |cons y L ih=>
   intro hL;obtain⟨n0,fL⟩:=ih fun ys hy=>hL ys (dk _ hy);obtain⟨n1,h1⟩:=key y [] _ (by simpa using hL y (dp ..)) h0;refine⟨max n0 n1,fun n hle ys hy=>?_⟩;rcases cM.1 hy with e|hy
   ·subst e;exact h1 n (by omega)
   ·exact fL n (by omega) ys hy
 obtain⟨L,hL⟩:=Zg (gY (.map es));obtain⟨n0,hn⟩:=me L fun ys hy=>(hL ys).1 hy;refine⟨_,hQ,n0,fun n hle=>?_⟩;simp only[PC.ev,zO];refine⟨vo,⟨by rw[he];rfl,fun ys hy=>?_⟩,rfl⟩;rw[he] at hy ⊢;exact hn n hle ys ((hL ys).2 hy)
theorem bounded {Q:Nat→Nat→Prop}:∀(L:Nat),(∀m,m≤L→∃n0,∀n,n0≤n→Q m n)→∃n0,∀n,n0≤n→∀m,m≤L→Q m n
 |0,h=>by
  obtain⟨n0,hn⟩:=h 0 (aW _)
  exact⟨n0,fun n hle m hm=>by obtain rfl:m=0:=by omega
                              exact hn n hle⟩
 |L+1,h=>by
  obtain⟨n0,hn⟩:=bounded L fun m hm=>h m (by omega);obtain⟨n1,h1⟩:=h (L+1) (aW _);refine⟨max n0 n1,fun n hle m hm=>?_⟩;by_cases e:m=L+1
  ·subst e;exact h1 n (by omega)
  ·exact hn n (by omega) m (by omega)
theorem ak.of_pc {tab:Nat→Option PC}{ext:Nat→Option (aK→List D→Option D)}{f:Nat}{pc:PC}{ds:List D}{d:D}(hx:ext f=none)(ht:tab f=some pc)(h:aS (eG tab ext) pc (kG ds) (fun x=>x=.ret d)):ak (eG tab ext) f ds d:=by
 obtain⟨x,rfl,n0,hn⟩:=h;refine⟨n0+1,fun n hle=>?_⟩;obtain⟨k,rfl⟩:∃k,n=k+1:=⟨n-1,by omega⟩
 simp[eG,hx,ht,hn k (by omega)]
theorem ak.of_ext {tab:Nat→Option PC}{ext:Nat→Option (aK→List D→Option D)}{f:Nat}{g:aK→List D→Option D}{ds:List D}{d:D}(hx:ext f=some g)(h:∃n0,∀n,n0≤n→g (eG tab ext n) ds=some d):ak (eG tab ext) f ds d:=by
 obtain⟨n0,hn⟩:=h;refine⟨n0+1,fun n hle=>?_⟩;obtain⟨k,rfl⟩:∃k,n=k+1:=⟨n-1,by omega⟩
 simp[eG,hx,hn k (by omega)]
def EO (T:cq)(xs:List D)(m:Nat):cq:=fun n=>yldΦ (T n) xs m
theorem ak.yld {T:cq}{xs:List D}{m f:Nat}{ds:List D}{d:D}(h:ak T f ds d)(hf:f≠lW):ak (EO T xs m) f ds d:=by
 obtain⟨n0,hn⟩:=h;exact⟨n0,fun n hle=>by simp[EO,yldΦ,hf,hn n hle]⟩
theorem ak.answer {T:cq}{xs l:List D}{m i:Nat}(hl:l=xs.take (i+1))(hi:i<xs.length)(hm:i≤m):ak (EO T xs m) lW [.list l] (.v (.bool (decide (i<m)))):=by
 subst hl;refine⟨0,fun n _=>?_⟩;have h1:(xs.take (i+1)).length=i+1:=by rw[dN];omega
 simp only[EO,yldΦ,if_true,h1];rw[if_pos ⟨by omega,by omega,trivial⟩];rfl
theorem ak.of_it {tab:Nat→Option PC}{ext:Nat→Option (aK→List D→Option D)}{f:Nat}{pc:PC}{J k:Nat}{spec:List D→List D}{ds:List D}(hx:ext f=some (C0 pc J k spec))(hk:∀x,x∈spec ds→∃ds',x=.tup ds'∧ds'.length=k)
 (h:∀m,m≤(spec ds).length→aS (EO (eG tab ext) (spec ds) m) pc (yw J ds) (fun x=>x=.ret (.list ((spec ds).take (m+1))))):ak (eG tab ext) f ds (.list (spec ds)):=by
 refine ak.of_ext hx ?_
 obtain⟨n0,hn⟩:=bounded (Q:=fun m n=>pc.ev (yldΦ (eG tab ext n) (spec ds) m) n (yw J ds)=some (.ret (.list ((spec ds).take (m+1))))) (spec ds).length (fun m hm=>by
  obtain⟨x,rfl,n0,hn⟩:=h m hm;exact⟨n0,hn⟩)
 refine⟨n0,fun n hle=>?_⟩;unfold C0;rw[if_pos];exact⟨fun m hm=>⟨n,hn n hle m hm⟩,hk⟩
theorem ak.det {T:cq}{f:Nat}{ds:List D}{d d':D}(h:ak T f ds d)(k:ak T f ds d'):d=d':=by
 obtain⟨n0,hn⟩:=h;obtain⟨n1,h1⟩:=k;have:=(hn (max n0 n1) (by omega)).symm.trans (h1 (max n0 n1) (by omega));exact sM this
theorem ak.fnOK {C:Ctx}{tab:Nat→Option PC}{ext:Nat→Option (aK→List D→Option D)}(h:TabOK C tab ext){f:Nat}{s:Sig}{ds:List D}{d:D}(hs:C.sig f=some s)(hr:ak (eG tab ext) f ds d)(hm:np s.mode=false:=by rfl):fH C f s ds d:=by
 obtain⟨n0,hn⟩:=hr;exact((SX h n0).1 f ds d (hn n0 (aW _)) s hs).1 hm
def Le (Φ Ψ:aK):Prop:=∀f ds d,Φ f ds=some d→Ψ f ds=some d
theorem Env.setR_r (ρ:Env)(t u:Nat)(d:D):(ρ.setR t d).r u=if u=t then d else ρ.r u:=by simp only[Env.setR,eR]
theorem Env.setO_o (ρ:Env)(t u:Nat)(d:D):(ρ.setO t d).o u=if u=t then d else ρ.o u:=by simp only[Env.setO,eR]
theorem Env.join_r (ρ ρ':Env)(lr lo:List Nat)(u:Nat):(ρ.join lr lo ρ').r u=if u∈lr then ρ'.r u else ρ.r u:=by simp only[Env.join,Env.put,rW]
theorem Env.join_o (ρ ρ':Env)(lr lo:List Nat)(u:Nat):(ρ.join lr lo ρ').o u=if u∈lo then ρ'.o u else ρ.o u:=by simp only[Env.join,Env.put,rW]
theorem Ih (f:Nat→D)(i:Nat)(is:List Nat)(x:D)(xs:List D)(u:Nat):putL f (i::is) (x::xs) u=if u=i then x else putL f is xs u:=by simp only[putL,eR]
theorem Ii (f:Nat→D)(xs:List D)(u:Nat):putL f [] xs u=f u:=by cases xs<;>rfl
theorem aiB (g:Nat×Bool)(gs:List (Nat×Bool))(ρ:Env):holds (g::gs) ρ=((ρ.r g.1).b==g.2&&holds gs ρ):=rfl
theorem D.tget_tup (x:List D)(i:Nat):(D.tup x).tget i=x.getD i .none:=rfl
theorem D.c_agg (x:List D)(i:Nat):(D.agg x).c i=x.getD i .none:=rfl
end Cx
