/-
  Shared texts of this claim.
-/
import Derived.Test.YtbagcfebdgiihaaGreatDoorTAG
import Derived.Below
import Derived.ChangeSame
import Derived.WalkKit
import Derived.ProofKit
import Derived.OpenShut
import Derived.Carry
import Derived.JoinedCond
set_option linter.unusedSimpArgs false
set_option linter.unusedVariables false
noncomputable section
namespace Cx
open Go Go.RowKit
def Um (m:Nat)(s:Sig):Snap:=⟨s.args.map .dat++List.replicate (m-s.args.length) .none,[]⟩
def jt (ds:List D):Env:=⟨fun t=>ds.getD t .none,fun _=>.none⟩
def rv (C:Ctx)(fn:Func)(s:Sig)(ids:List Nat)(S0:Snap):Option PC:=
 match fn.body with
 |some c=>
  (comp C fn s fn.ntmps ids (IE C fn.ntmps ids) false c S0).bind fun r=>
    match r.out with
    |none=>some r.pc
    |some S=>(vE C fn s (S.st ids)).map fun e=>.seq r.pc (.ret e)
 |none=>none
def KR (m:Nat)(shs:List Sh)(obs:List (Nat×Ob))(ids:List Nat):Snap:=⟨shs++List.replicate (m-shs.length) .none,ids.map (dB obs)⟩
def FD (shs:List Sh)(obs:List (Nat×Ob))(ds:List D):Env:=kF obs ds (ds.drop shs.length)
def Cc (l:List Nat):Nat→List Sh→Bool
 |_,[]=>true
 |t,s::ss=>(oP s|| !eE l t)&&Cc l (t+1) ss
def ze:List (Nat×Ob)→Nat→List PI
 |[],_=>[]
 |x::l,k=>ze l (k+1)++[.setO x.1 (.r k)]
theorem aaP {Φ:aJ}:∀(l:List (Nat×Ob)) (k:Nat) (ρ:Env) (ds:List D),(∀i,ρ.r (k+i)=ds.getD i .none)→(∀j,ρ.o j=.none)→PI.runs Φ (ze l k) ρ=some ⟨ρ.r,fun j=>lI l ds j⟩
 |[],k,ρ,ds,h,ho=>by
  simp only[ze,PI.runs]
  congr 1
  cases ρ with|mk r o=>congr 1;funext j;exact ho j
 |x::l,k,ρ,ds,h,ho=>by
  simp only[ze,px]
  rw[aaP l (k+1) ρ ds.tail (fun i=>by
   have:=h (i+1);rw[tp,zH 1 i,this];cases ds<;>simp) ho]
  simp only[nY,PI.runs,PI.run,PE.ev,Env.setO]
  congr 1
  congr 1
  funext j;rw[eX];have h0:=h 0;simp only[lU] at h0;cases ds with
  |nil=>
   have e:∀m j,lI m [] j=D.none:=fun m j=>by cases m<;>rfl
   rw[h0];split<;>simp[e]
  |cons d ds=>
   simp only[lI,List.tail_cons];by_cases hj:j=x.1
   ·subst hj;rw[if_pos rfl,jn,h0];rfl
   ·rw[if_neg hj,eJ (fun e=>hj e.symm)];rfl
theorem aoM {Φ:aJ}(shs:List Sh)(obs:List (Nat×Ob))(ds:List D):PI.runs Φ (ze obs shs.length) (jt ds)=some (FD shs obs ds):=by
 rw[aaP obs shs.length (jt ds) (ds.drop shs.length) (fun i=>by simp[jt,aI]) (fun j=>rfl)];rfl
def Ei (fn:Func):List Nat:=match fn.body with|some c=>cg c|none=>[]
def sy:List (Nat×Ob)→Bool
 |[]=>true
 |x::l=>(match x.2 with|.tr=>false|_=>true)&&sy l
def kl (C:Ctx)(fn:Func)(s:Sig)(ids:List Nat):Option PC:=
 match C.yl with
 |none=>
  match s.mode with
  |.ob shs obs=>bif Nat.ble shs.length fn.ntmps&&Cc (Ei fn) 0 shs&&shs.all qN&&sy obs then(rv C fn s ids (KR fn.ntmps shs obs ids)).map fun pc=>.seq (.is (ze obs shs.length)) pc else none
  |_=>bif Nat.ble s.args.length fn.ntmps then rv C fn s ids (Um fn.ntmps s) else none
 |some _=>none
theorem WT:∀(ids:List Nat) (j:Nat),cU ids [] j=.dead
 |[],_=>rfl
 |_::_,_=>rfl
theorem KB {C:Ctx}{Φ:aJ}(aV:du C)(hΦ:cW C Φ)(dO:fm C Φ){fn:Func}{s:Sig}{ids:List Nat}{S0:Snap}{pc:PC}{c:Code}(hb:fn.body=some c)(hc:rv C fn s ids S0=some pc){w0:World}{σ0:Base}(lj:σ0.fin)(hC:CtxOK C σ0)(hY:pM C Φ w0 σ0)
 {N:Nat} {ρ:Env} {d:D} {a:Act} {w:World} (hn:a.tmps.size=fn.ntmps) (hg:Good C w0 σ0 (S0.st ids) ρ (fun _=>False) a w) (he:pc.ev Φ N ρ=some (.ret d)):
 c.wpIn (FR none) 0 C.P (fun e a' w'=>(e=.normal∨e=.ret)∧nZ C w0 σ0 fn s d a'.tmps a'.defers w'∧SameBut (fun t=>t∈cg c) a a') a w:=by
 unfold rv at hc;rw[hb] at hc;simp only[au] at hc;obtain⟨r,hr,hc⟩:=hc;have Mq:=fun x hx=>adC (fn:=fn) (s:=s) (N:=N) dO (aoj (n:=fn.ntmps) (ids:=ids) aV hΦ) c false S0 r hr none w0 σ0 (fun t=>t∈cg c) ρ x a w (fun _=>⟨rfl,lj⟩) hC hY (fun _ h=>h) hn hg hx;split at hc
 ·rename_i iU;cases hc;refine wpIn_mono (Mq (.ret d) he) fun e a' w' ho=>?_;cases e with
  |normal=>obtain⟨_,_,h,_⟩:=ho;cases h
  |exit id=>obtain⟨_,_,h,_⟩:=ho;cases h
  |ret=>obtain⟨d',h,h2⟩:=ho;cases h;exact⟨.inr rfl,h2⟩
  |_=>exact ho.elim
 ·rename_i S iU;simp only[ax] at hc;obtain⟨pe,rR,rfl⟩:=hc;simp only[PC.ev] at he;split at he
  ·rename_i ρ1 h1;cases he;refine wpIn_mono (Mq (.next ρ1) h1) fun e a' w' ho=>?_;cases e with
   |normal=>
    obtain⟨ρ2,S2,e1,e2,nk,gx⟩:=ho;cases e1;rw[iU] at e2;cases e2;obtain⟨σ2,own,hv,hi⟩:=gx;exact⟨.inl rfl,Inv.retD hC (fun _=>rfl) lj rR _ hi rfl,nk⟩
   |exit id=>obtain⟨_,_,h,_⟩:=ho;cases h
   |ret=>obtain⟨d',h,h2⟩:=ho;cases h
   |_=>exact ho.elim
  ·rename_i az;refine wpIn_mono (Mq (.ret d) he) fun e a' w' ho=>?_;cases e with
   |normal=>obtain⟨_,_,h,_⟩:=ho;cases h
   |exit id=>obtain⟨_,_,h,_⟩:=ho;cases h
   |ret=>obtain⟨d',h,h2⟩:=ho;cases h;exact⟨.inr rfl,h2⟩
   |_=>exact ho.elim
theorem nZ.leaves {C:Ctx}{w0:World}{σ0:Base}{fn:Func}{s:Sig}{d:D}{tmps:Array Value}{R:Ending→World→Prop}(hR:∀w',JD C w0 σ0 fn s d {tmps:=tmps,defers:=[]} w'→∃v,(results fn tmps).run C.P w'=.ok v w'∧R (.returned v) w'):
 ∀(ds:List Deferred) (w:World),nZ C w0 σ0 fn s d tmps ds w→LeavesInM (FR none) 0 C.P fn tmps R ds .returning w
 |[],w,h=>hR w h
 |x::ds,w,⟨D,h1,h2,h3⟩=>⟨by simp,.inl ⟨D,_,h1,run_takeDeferred h2,nZ.leaves hR ds _ h3⟩⟩
theorem aeR {C:Ctx}{σ:Im}{w:World}{args:Array Value}{ds:List D}{s:Sig}{m:Nat}{ids:List Nat}(ar:σ.ok w)(ha:mH C σ s.args args.toList ds):
 Good C w (Base.mk0 σ w.heap.size) ((Um m s).st ids) (jt ds) (fun _=>False) {tmps:=args++Array.replicate (m-args.size) undef,defers:=[]} w:=by
 obtain⟨h1,h2,h3⟩:=ha;have aL:args.size=s.args.length:=by simpa using h1
 refine⟨σ,fun _=>none,fun _=>undef,trivial,ar,.refl σ,fun _ k e=>(ar.m k _ e).lt,fun _ _ _ h=>.inl h,fun _ _ h=>.inl h,.refl _ _,aU _,(fun k j h=>by cases h),fun t=>?_,fun j=>?_,fun t gs s' e=>absurd e (Snap.noOpt _ _ t gs s'),
  .none,fun _=>False,fun _=>False,⟨⟨fun _=>id,fun _=>id⟩,(fun k j h=>by cases h),fun _ _ _ _=>id,fun _ _ _=>id,fun _ _ _=>id⟩,fun j hj=>?_⟩
 ·show aF C _ _ σ _ (cq ((s.args.map Sh.dat++List.replicate (m-s.args.length) Sh.none).getD t .none)) _ _;rw[aI];by_cases ht:t<s.args.length
  ·rw[lS (by simpa using ht),cf,aZ ht];simp only[jq,kW,cq];have:=h3 t _ (aZ ht);have e1:(args++Array.replicate (m-args.size) undef).getD t undef=args.toList.getD t undef:=by
        simp only[eY,aI];rw[SA (by omega)];simp
   show aF C _ _ σ _ (.dat _) ((args++Array.replicate (m-args.size) undef).getD t undef) (ds.getD t .none);rw[e1];exact this
  ·rw[lT (by simpa using ht),SS];split<;>trivial
 ·show bU C _ _ σ _ _ w _ j (cU ids [] j);rw[WT];trivial
 ·change cU ids [] j=.tr at hj;rw[WT] at hj;cases hj
theorem KC {C:Ctx}{Φ:aJ}(aV:du C)(hΦ:cW C Φ)(dO:fm C Φ){f:Nat}{fn:Func}{s:Sig}{ids:List Nat}{pc:PC}(hf:C.P.funcs[f]?=some fn)(hc:kl C fn s ids=some pc){N:Nat}{ds:List D}{d:D}(cI:oR s.mode=false)
 (he:pc.ev Φ N (jt ds)=some (.ret d)):jP C f s ds d:=by
 intro σ w args ar hC ha;unfold kl at hc;split at hc
 case h_2=>cases hc
 rename_i j5;split at hc
 case h_1=>rename_i e;rw[e] at cI;cases cI
 cases hle:Nat.ble s.args.length fn.ntmps<;>simp only[hle,cond_true,cond_false] at hc
 ·cases hc
 have Bx:=jQ hle;have aL:args.size=s.args.length:=by simpa using ha.1
 cases hb:fn.body with
 |none=>unfold rv at hc;rw[hb] at hc;cases hc
 |some c=>
 refine(callsIn_wide (n:=0)).1 (callsIn_of_wp_marks (F:=FR none) hf hb trivial ?_);have hg:=aeR (C:=C) (m:=fn.ntmps) (ids:=ids) ar ha;have hn:(args++Array.replicate (fn.ntmps-args.size) undef).size=fn.ntmps:=by simp;omega
 refine wpIn_mono (KB aV hΦ dO hb hc (σ0:=Base.mk0 σ w.heap.size) trivial hC (fun J ys e=>by rw[j5] at e;cases e) hn hg he) fun e a' w' ho=>?_
 have main:=nZ.leaves (R:=fun e w'=>∃v σ',e=.returned v∧σ.le σ'∧σ'.ok w'∧Below w.heap.size w w'∧
  (∀k o x,σ'.c k o=some x→σ.c k o=some x∨w.heap.size≤k)∧(∀k x,σ'.m k=some x→σ.m k=some x∨w.heap.size≤k)∧mR C s σ' w w' v d) (fun w2 BP=>by
  obtain⟨v,σ',_,h2,h3,h4,h5,h6,h7,h8⟩:=BP;exact⟨v,h2,v,σ',rfl,h3,h4,h5,h6,h7,h8⟩) _ _ ho.2.1
 rcases ho.1 with rfl|rfl<;>exact main
def Base.mkO (σ:Im)(own:Nat→Option Nat)(w:World)(cx:Nat→Prop):Base:=
 {σ with
  B:=0
  fin:=True
  F:=fun _ fx iQ w'=>(∀k,fx k↔(k<w.heap.size∧own k=none))∧(∀k,iQ k↔(fx k∧cx k))∧w.heap.size≤w'.heap.size∧∀k,fx k→w'.heap[k]?=w.heap[k]?
  lt:=fun t' fx cx w' h k hk=>pH ((h.1 k).1 hk).1 h.2.2.1
  sub:=fun t' fx cx w' h k hk=>((h.2.1 k).1 hk).1
  keep:=fun t' fx cx w' je h hb hs=>⟨h.1,h.2.1,fW h.2.2.1 hb.size,fun k hk=>(hs k hk).trans (h.2.2.2 k hk)⟩}
theorem WC {l:List Nat}:∀{shs:List Sh} {k:Nat},Cc l k shs=true→∀(t:Nat) (s:Sh),shs[t]?=some s→oP s=false→(k+t)∉l
 |[],k,_,t,s,h,_=>by simp at h
 |x::shs,k,hk,t,s,h,hd=>by
  simp only[Cc,aq,jh,jf] at hk;cases t with
  |zero=>
   simp at h;subst h;rcases hk.1 with h1|h1
   ·rw[hd] at h1;cases h1
   ·intro hm;rw[lU] at hm;rw[(nv _ _).2 hm] at h1;cases h1
  |succ t=>
   simp at h;have:=WC hk.2 t s h hd
   rwa [tp,zH 1 t] at this
theorem Ni (obs:List (Nat×Ob))(j:Nat):∀ids:List Nat,cU ids (ids.map (dB obs)) j=.dead∨cU ids (ids.map (dB obs)) j=dB obs j
 |[]=>.inl rfl
 |i::is=>by
  simp only[fo,cU];cases hb:Nat.beq i j
  ·exact Ni obs j is
  ·right;rw[aw hb];rfl
theorem Xx:∀{l:List (Nat×Ob)},sy l=true→∀x,x∈l→x.2≠.tr
 |[],_,x,hx=>by cases hx
 |y::l,h,x,hx=>by
  simp only[sy,aq] at h;rcases cG.1 hx with rfl|hx
  ·intro e;rw[e] at h;cases h.1
  ·exact Xx h.2 x hx
theorem Xy:∀{l:List (Nat×Ob)},sy l=true→∀j,dB l j≠.tr
 |[],_,j,e=>by cases e
 |x::l,h,j,e=>by
  simp only[sy,aq] at h;simp only[dB] at e;cases hb:Nat.beq x.1 j<;>simp only[hb,cond_true,cond_false] at e
  ·exact Xy h.2 j e
  ·have h1:=h.1;rw[e] at h1;cases h1
theorem aeQ {C:Ctx}{σ:Im}{own:Nat→Option Nat}{hv:Nat→Value}{w w0:World}{args:Array Value}{cx:Nat→Prop}{shs:List Sh}{obs:List (Nat×Ob)}{ds:List D}{m:Nat}{ids:List Nat}(hN:w0.heap.size≤w.heap.size)(Bb:Below 0 w0 w)(ar:σ.ok w)(bm:∀k,σ.m k≠some cL)(aL:args.size=shs.length)
 (bt:∀k j,own k=some j→w0.heap.size≤k∧k<w.heap.size∧(∀o,σ.c k o=none)∧σ.m k=none) (fP:∀k,cx k→k<w.heap.size∧own k=none∧(∀o,σ.c k o=none)∧σ.m k=none) (qA:sy obs=true) (eD:shs.all qN=true)
 (h1:∀t,aF C (eR shs obs) (FD shs obs ds) σ hv (shs.getD t .none) (args.getD t undef) (ds.getD t .none)) (h2:∀j,bU C (eR shs obs) (FD shs obs ds) σ own hv w w0.heap.size j (dB obs j)):
 Good C w0 (Base.mkO σ own w cx) ((KR m shs obs ids).st ids) (FD shs obs ds) (fun _=>False) {tmps:=args++Array.replicate (m-args.size) undef,defers:=[]} w:=by
 have rK:Compat (eR shs obs) hv ((KR m shs obs ids).st ids) hv:=⟨fun _=>aU _,fun _ _=>rfl⟩
 refine⟨σ,own,hv,trivial,ar,.refl σ,fun _ k e=>absurd e (bm k),fun _ _ _ h=>.inl h,fun _ _ h=>.inl h,Bb,mQ _,bt,fun t=>?_,fun j=>?_,fun t gs s' e=>absurd e (Snap.noOpt _ _ t gs s'),
  .none,(fun k=>k<w.heap.size∧own k=none),cx,⟨⟨fun _=>Iff.rfl,fun k=>⟨fun h=>⟨⟨(fP k h).1,(fP k h).2.1⟩,h⟩,fun h=>h.2⟩,aU _,fun _ _=>rfl⟩,(fun k j h hf=>by rw[hf.2] at h;cases h),(fun k o x e hc=>by rw[(fP k hc).2.2.1 o] at e;cases e),(fun k x e hc=>by rw[(fP k hc).2.2.2] at e;cases e),fun k e=>absurd e (bm k)⟩,fun j hj=>?_⟩
 ·show aF C _ _ σ _ (cq ((shs++List.replicate (m-shs.length) Sh.none).getD t .none)) _ _;refine Jj ?_;rw[aI];by_cases ht:t<shs.length
  ·rw[lS ht];have:=h1 t;rw[aI (l:=shs)] at this;have e1:(args++Array.replicate (m-args.size) undef).getD t undef=args.getD t undef:=by
        simp only[eY];rw[SA (by omega)]
   show aF C _ _ σ _ _ ((args++Array.replicate (m-args.size) undef).getD t undef) (ds.getD t .none);rw[e1];refine aF.mono' (.refl σ) rK (fun gs s' e=>?_) this;have hp:=db.1 eD _ (cr ht);rw[aZ ht] at e;simp only[kW] at e;rw[e] at hp;cases hp
  ·rw[lT (by omega),SS];split<;>trivial
 ·show bU C _ _ σ _ _ w _ j (cU ids (ids.map (dB obs)) j);rcases Ni obs j ids with e|e
  ·rw[e];trivial
  ·rw[e];exact(h2 j).mono (.refl σ) rK rfl rfl (fun k hk=>⟨hk,rfl⟩)
 ·change cU ids (ids.map (dB obs)) j=.tr at hj;rcases Ni obs j ids with e|e
  ·rw[e] at hj;cases hj
  ·rw[e] at hj;exact absurd hj (Xy qA j)
def FA (w:World)(N:Nat):World:={w with heap:=w.heap.extract 0 N}
theorem adw {C:Ctx}{Φ:aJ}(aV:du C)(hΦ:cW C Φ)(dO:fm C Φ){f:Nat}{fn:Func}{s:Sig}{ids:List Nat}{pc:PC}(hf:C.P.funcs[f]?=some fn)(hc:kl C fn s ids=some pc){N:Nat}{ds:List D}{d:D}{shs:List Sh}{obs:List (Nat×Ob)}(cI:s.mode=.ob shs obs)
 (he:pc.ev Φ N (jt ds)=some (.ret d)):eH C f shs obs s.res ds d:=by
 unfold kl at hc;split at hc
 case h_2=>cases hc
 rename_i j5;rw[cI] at hc;simp only at hc;cases hle:(Nat.ble shs.length fn.ntmps&&Cc (Ei fn) 0 shs&&shs.all qN&&sy obs)<;>simp only[hle,cond_true,cond_false] at hc
 ·cases hc
 simp only[aq] at hle;obtain⟨⟨⟨l1,l2⟩,l3⟩,l4⟩:=hle;refine eH.of (Xx l4) ?_;intro B σ own hv w args cx _ ar hC bm hB aL bt fP h1 h2;simp only[ax] at hc;obtain⟨pc,hc,rfl⟩:=hc;simp only[PC.ev,aoM,jq] at he;have Bx:=jQ l1;cases hb:fn.body with
 |none=>unfold rv at hc;rw[hb] at hc;cases hc
 |some c=>
 have br:Ei fn=cg c:=by unfold Ei;rw[hb]
 rw[br] at l2;refine(callsIn_wide (n:=0)).1 (callsIn_of_wp_marks (F:=FR none) hf hb trivial ?_);have oO:(FA w B).heap.size=B:=by simp[FA];omega
 have Bb:Below 0 (FA w B) w:=⟨rfl,rfl,rfl,by rw[oO];exact hB,fun k hk=>by omega⟩
 have hg:=aeQ (C:=C) (m:=fn.ntmps) (ids:=ids) (w0:=FA w B) (cx:=cx) (by rw[oO];exact hB) Bb ar bm aL (by rw[oO];exact bt) fP l4 l3 h1 (by rw[oO];exact h2);have hn:(args++Array.replicate (fn.ntmps-args.size) undef).size=fn.ntmps:=by simp;omega
 refine wpIn_mono (KB aV hΦ dO hb hc (σ0:=Base.mkO σ own w cx) trivial hC (fun J ys e=>by rw[j5] at e;cases e) hn hg he) fun e a' w' ho=>?_;obtain⟨lh,BP,gz⟩:=ho
 have main:=nZ.leaves (R:=fun e w'=>∃v σ' own' hv' dr os,e=.returned v∧d=.tup (dr::os)∧os.length=obs.length∧σ.le σ'∧σ'.ok w'∧Below 0 w w'∧
  (∀k,k<w.heap.size→own k=none→w'.heap[k]?=w.heap[k]?)∧
  (∀k o x,σ'.c k o=some x→(σ.c k o=some x∨B≤k)∧¬cx k)∧(∀k x,σ'.m k=some x→(σ.m k=some x∨B≤k)∧¬cx k)∧(∀k,σ'.m k=some cL→B≤k→k<w.heap.size→own k≠none)∧
  (∀k j,own' k=some j→B≤k∧k<w'.heap.size∧(∀o,σ'.c k o=none)∧σ'.m k=none∧(k<w.heap.size→own k≠none))∧
  (∀(t:Nat) (sh:Sh),shs[t]?=some sh→oP sh=false→aF C (eR shs obs) (kF obs ds os) σ' hv' sh (args.getD t undef) (ds.getD t .none))∧
  (∀j,bU C (eR shs obs) (kF obs ds os) σ' own' hv' w' B j (dB obs j))∧Rep C.cap σ' s.res v dr) (fun w2 hr=>by
  obtain⟨v,σ',⟨own',t,fx,iQ,dx,_,hor⟩,aj,ky,L8,rI,dv,cP,_⟩:=hr;obtain⟨hv',dr,os,e1,e2,e3,e4,e5,e6⟩:=hor shs obs cI;obtain⟨f1,f2,f3,f4⟩:=dx.F;have Vm:∀k,cx k→iQ k:=fun k hk=>(f2 k).2 ⟨(f1 k).2 ⟨(fP k hk).1,(fP k hk).2.1⟩,hk⟩;rw[oO] at dv cP e3 e5
  refine⟨v,aj,v,σ',own',hv',dr,os,rfl,e1,e2,ky,L8,⟨rI.os,rI.tape,rI.output,f3,fun k hk=>by omega⟩,fun k hk hn=>f4 k ((f1 k).2 ⟨hk,hn⟩),fun k o x e=>⟨dv k o x e,fun hk=>dx.c k o x e (Vm k hk)⟩,fun k x e=>⟨cP k x e,fun hk=>dx.m k x e (Vm k hk)⟩,
   fun k e Ld hk hn=>dx.d k e (by rw[oO];exact Ld) ((f1 k).2 ⟨hk,hn⟩),fun k j hk=>?_,fun t sh hs hd=>?_,fun j=>?_,e6⟩
  ·obtain⟨g1,g2,g3,g4⟩:=e3 k j hk;exact⟨g1,g2,g3,g4,fun af hn=>dx.own k j hk ((f1 k).2 ⟨af,hn⟩)⟩
  ·have:=e4 t sh hs hd (ds.getD t .none);have af:t<shs.length:=(dX.1 hs).1;have lu:t∉cg c:=by have:=WC l2 t sh hs hd;simpa using this
   have bY:a'.tmps.getD t undef=args.getD t undef:=by
        rw[gz.get t lu];simp only[eY];rw[SA (by omega)]
   simp only at this;rw[bY] at this;have hp:=db.1 l3 _ (jm hs);exact aF.mono' (.refl σ') ⟨fun _=>aU _,fun _ _=>rfl⟩ (fun gs s' e=>by rw[e] at hp;cases hp) this
  ·exact bU.mono (S:=eR shs obs) (S':=eR shs obs) (ρ:=kF obs [] os) (ρ':=kF obs ds os) (hv:=hv') (hv':=hv') (own:=own') (own':=own') (w:=w2) (w':=w2) (.refl σ') ⟨fun _=>aU _,fun _ _=>rfl⟩ rfl rfl (fun k hk=>⟨hk,rfl⟩) (e5 j)) _ _ BP
 rcases lh with rfl|rfl<;>exact main
def Ul (m:Nat)(cts:List Ty)(J:Nat)(ids:List Nat):Snap:=⟨.yv::(cts.map .dat++List.replicate (m-(cts.length+1)) .none),ids.map fun j=>bif Nat.beq j J then .tr else .dead⟩
def xD (J:Nat)(ds:List D):Env:=⟨fun t=>(D.none::ds).getD t .none,fun j=>bif Nat.beq j J then .list [] else .none⟩
def Aq (C:Ctx)(fn:Func)(cts ys:List Ty)(J:Nat)(ids:List Nat):Option PC:=
 match C.yl,C.sig kS,C.cap kS with
 |none,none,none=>bif Nat.ble (cts.length+1) fn.ntmps then rv {C with yl:=some (J,ys)} fn ⟨[],.tup [],.it J⟩ ids (Ul fn.ntmps cts J ids) else none
 |_,_,_=>none
open Classical in
def yldΦ (Φ:aJ)(xs:List D)(m:Nat):aJ:=fun f ds=>
 if f=kS then(match ds with|[.list l]=>if 0<l.length∧l.length≤m+1∧l=xs.take l.length then some (.v (.bool (decide (l.length≤m)))) else none|_=>none)
 else Φ f ds
theorem yldΦ_at {Φ:aJ}{xs l ds:List D}{d:D}{m:Nat}(h:yldΦ Φ xs m kS [.list (l++[.tup ds])]=some d):l.length≤m∧l=xs.take l.length∧xs[l.length]?=some (.tup ds)∧l++[.tup ds]=xs.take (l.length+1)∧d=.v (.bool (decide (l.length<m))):=by
 simp only[yldΦ,if_true] at h;split at h
 ·rename_i hc;obtain⟨h1,h2,h3⟩:=hc;simp only[kV,nV,wh,jo] at h2 h3 h;have hx:xs[l.length]?=some (.tup ds):=by
   have:(xs.take (l.length+1))[l.length]?=some (.tup ds):=by rw[←h3];simp
   rw[fV] at this;simpa using this
  have hl:l=xs.take l.length:=by
   have:=congrArg (List.take l.length) h3;simpa [List.take_take] using this
  refine⟨by omega,hl,hx,h3,?_⟩;cases h
  congr 2
 ·cases h
theorem cW.yl {C:Ctx}{Φ:aJ}(h:cW C Φ){y:Option (Nat×List Ty)}{v:Value}{xs:List D}{m:Nat}(hs:C.sig kS=none):cW {C with yl:=y,yv:=v} (yldΦ Φ xs m):=by
 intro f ds d e s jz;have az:f≠kS:=fun e'=>by subst e';change C.sig kS=some s at jz;rw[hs] at jz;cases jz
 simp only[yldΦ,if_neg az] at e;obtain⟨h1,h2⟩:=h f ds d e s jz;exact⟨fun hm σ w args ar hC ha=>h1 hm σ w args ar ⟨hC.glob⟩ ha,fun shs obs hm=>(h2 shs obs hm).ctx rfl rfl rfl⟩
theorem kg.yl {C:Ctx}{y:Option (Nat×List Ty)}{v:Value}{f:Nat}{cts ys:List Ty}{ds xs:List D}(h:kg C f cts ys ds xs):kg {C with yl:=y,yv:=v} f cts ys ds xs:=
 fun σ w yv vs F fx cx m ar hC=>h σ w yv vs F fx cx m ar ⟨hC.glob⟩
theorem fm.yl {C:Ctx}{Φ:aJ}(h:fm C Φ){y:Option (Nat×List Ty)}{v:Value}{xs:List D}{m:Nat}(hs:C.cap kS=none):fm {C with yl:=y,yv:=v} (yldΦ Φ xs m):=by
 intro f cs ys hc hi;have az:f≠kS:=fun e'=>by subst e';change C.cap kS=some cs at hc;rw[hs] at hc;cases hc
 obtain⟨h1,h2⟩:=h f cs ys hc hi;refine⟨h1,fun ds d e=>?_⟩;simp only[yldΦ,if_neg az] at e;obtain⟨xs,e1,e2,e3⟩:=h2 ds d e;exact⟨xs,e1,e2,e3.yl⟩
def SL (Φ:aJ)(pc:PC)(J:Nat)(ds xs:List D):Prop:=∀m,m≤xs.length→∃N,pc.ev (yldΦ Φ xs m) N (xD J ds)=some (.ret (.list (xs.take (m+1))))
theorem aeP {C:Ctx}{σ:Im}{σ0:Base}{w:World}{yv:Value}{vs:List Value}{ds:List D}{cts ys:List Ty}{J m:Nat}{ids:List Nat}(ar:σ.ok w)(ha:mH C σ cts vs ds)(hm:cts.length+1≤m)(j5:C.yl=some (J,ys))(B5:C.yv=yv)
 (h0:σ0.toIm=σ) (hB:σ0.B=0) {fx cx:Nat→Prop} (hF:σ0.F (.list []) fx cx w) (gw:∀k o x,σ.c k o=some x→¬cx k) (lg:∀k x,σ.m k=some x→¬cx k):
 Good C w σ0 ((Ul m cts J ids).st ids) (xD J ds) (fun _=>False) {tmps:=#[yv]++vs.toArray++Array.replicate (m-(vs.length+1)) undef,defers:=[]} w:=by
 obtain⟨h1,h2,h3⟩:=ha
 refine⟨σ,fun _=>none,fun _=>undef,trivial,ar,by rw[h0];exact .refl σ,fun _ k e=>by rw[h0] at e;exact(ar.m k _ e).lt,fun _ _ _ h=>by rw[h0];exact .inl h,fun _ _ h=>by rw[h0];exact .inl h,.refl _ _,by omega,(fun k j h=>by cases h),fun t=>?_,fun j=>?_,fun t gs s' e=>absurd e (Snap.noOpt _ _ t gs s'),
  .list [],fx,cx,⟨hF,(fun k j h=>by cases h),gw,lg,fun k e hk=>by have:=(ar.m k _ e).lt;omega⟩,fun j hj=>?_⟩
 ·show aF C _ _ σ _ (cq ((Sh.yv::(cts.map Sh.dat++List.replicate (m-(cts.length+1)) Sh.none)).getD t .none)) ((#[yv]++vs.toArray++Array.replicate (m-(vs.length+1)) undef).getD t undef) ((D.none::ds).getD t .none);have ea:((#[yv]++vs.toArray++Array.replicate (m-(vs.length+1)) undef).getD t undef)=(yv::(vs++List.replicate (m-(vs.length+1)) undef)).getD t undef:=by
   rw[eY,←zy,aI];simp
  rw[ea];cases t with
  |zero=>simp only[rh,cq];exact B5.symm
  |succ t=>
   simp only[DW];rw[aI];by_cases ht:t<cts.length
   ·rw[lS (by simpa using ht),cf,aZ ht];simp only[jq,kW,cq];have:=h3 t _ (aZ ht);have e1:(vs++List.replicate (m-(vs.length+1)) undef).getD t undef=vs.getD t undef:=by
     simp only[aI];rw[lS (by omega)]
    show aF C _ _ σ _ (.dat _) _ (ds.getD t .none);rw[e1];exact this
   ·rw[lT (by simpa using ht),SS];split<;>trivial
 ·show bU C _ _ σ _ _ w _ j (cU ids (ids.map fun j=>bif Nat.beq j J then .tr else .dead) j);refine uU _ (fun ob=>bU C _ _ σ _ _ w _ j ob) trivial j ?_ ids;cases Nat.beq j J<;>trivial
 ·change cU ids (ids.map fun j=>bif Nat.beq j J then .tr else .dead) j=.tr at hj
  have hb:=uU (fun j=>bif Nat.beq j J then Ob.tr else .dead) (fun ob=>ob=.tr→Nat.beq j J=true) (fun e=>by cases e) j (fun e=>by
   cases hb:Nat.beq j J
   ·rw[hb] at e;cases e
   ·rfl) ids hj
  have:=aw hb;subst this;refine⟨⟨ys,j5⟩,?_⟩;show(bif Nat.beq j j then D.list [] else .none)=_;rw[jn];rfl
theorem adx {C:Ctx}{Φ:aJ}(aV:du C)(hΦ:cW C Φ)(dO:fm C Φ){f:Nat}{fn:Func}{cts ys:List Ty}{J:Nat}{ids:List Nat}{pc:PC}(hf:C.P.funcs[f]?=some fn)(hc:∀yv,Aq {C with yv:=yv} fn cts ys J ids=some pc){ds xs:List D}
 (hr:SL Φ pc J ds xs):kg C f cts ys ds xs:=by
 intro σ w yv vs F fx cx m ar hC ha hm af cj Bt hF gw lg MJ;have hc:=hc yv;unfold Aq at hc;split at hc
 case h_2=>cases hc
 rename_i j5 hsy hcy;cases hle:Nat.ble (cts.length+1) fn.ntmps<;>simp only[hle,cond_true,cond_false] at hc
 ·cases hc
 have Bx:=jQ hle;obtain⟨N,he⟩:=hr m hm;cases hb:fn.body with
 |none=>unfold rv at hc;rw[hb] at hc;cases hc
 |some c=>
 refine(callsIn_wide (n:=0)).1 (callsIn_of_wp_marks (F:=FR none) hf hb trivial ?_);obtain⟨σ0,hσ0⟩:∃σ0:Base,σ0={σ with B:=0,fin:=True,F:=fun t fx cx w=>(∃l,t=.list l)∧F t fx cx w,lt:=fun t fx cx w h=>af t fx cx w h.2,sub:=fun t fx cx w h=>cj t fx cx w h.2,keep:=fun t fx cx w w' h hb hs=>⟨h.1,Bt t fx cx w w' h.2 hb hs⟩}:=⟨_,rfl⟩
 have e1:σ0.toIm=σ:=by rw[hσ0]
 have e2:σ0.B=0:=by rw[hσ0]
 have e3:σ0.fin:=by rw[hσ0];trivial
 have e4:∀t fx cx w,σ0.F t fx cx w↔(∃l,t=.list l)∧F t fx cx w:=fun t fx cx w=>by rw[hσ0]
 have hg:=aeP (C:={C with yl:=some (J,ys),yv:=yv}) (σ0:=σ0) (w:=w) (yv:=yv) (vs:=vs) (ds:=ds) (cts:=cts) (ys:=ys) (J:=J) (m:=fn.ntmps) (ids:=ids) ar ha Bx rfl rfl e1 e2 ((e4 _ _ _ _).2 ⟨⟨_,rfl⟩,hF⟩) gw lg;have aL:(#[yv]++vs.toArray).size=vs.length+1:=by simp<;>omega
 have GQ:vs.length=cts.length:=ha.1;have hY:pM {C with yl:=some (J,ys),yv:=yv} (yldΦ Φ xs m) w σ0:=by
  intro J' ys' e;cases e;refine⟨e2,fun t fx cx w h=>((e4 _ _ _ _).1 h).1,fun fK ds' d hd fx cx w1 σ1 args xL aiu uh Vk By dv cP=>?_⟩;obtain⟨g1,g2,g3,g4,rfl⟩:=yldΦ_at hd;rw[e1] at dv cP;have:=MJ fK.length fx cx w1 σ1 args ds' g1 g3 (by rw[←g2];exact((e4 _ _ _ _).1 xL).2) aiu uh Vk By dv cP;intro rd o a x aa ts K Q dA hv has hK;refine this rd o a x aa ts K Q dA hv has fun u w2 hu=>hK u w2 ?_;obtain⟨u1,u2,u3,la,iQ,u4,u5,u6⟩:=hu;refine⟨_,rfl,u1,u2,u3,la,iQ,(e4 _ _ _ _).2 ⟨⟨_,rfl⟩,?_⟩,u5,u6⟩;rw[g4];exact u4
 have hn:(#[yv]++vs.toArray++Array.replicate (fn.ntmps-(vs.length+1)) undef).size=fn.ntmps:=by simp;omega
 rw[aL];refine wpIn_mono (KB (C:={C with yl:=some (J,ys),yv:=yv}) aV (hΦ.yl hsy) (dO.yl hcy) hb hc (σ0:=σ0) e3 (by rw[e1];exact⟨hC.glob⟩) hY hn hg he) fun e a' w' ho=>?_
 have main:=nZ.leaves (R:=fun e w'=>(∃v,e=.returned v)∧∃fx cx,F (.list (xs.take (m+1))) fx cx w') (fun w2 BP=>by
  obtain⟨v,σ',⟨own,t,fx,cx,h1,ht,_⟩,h2,_⟩:=BP;refine⟨v,h2,⟨v,rfl⟩,fx,cx,?_⟩;rw[ht J rfl];exact((e4 _ _ _ _).1 h1.F).2) _ _ ho.2.1
 rcases ho.1 with rfl|rfl<;>exact main
def cH (tab:Nat→Option PC)(ext:Nat→Option (aJ→List D→Option D)):Nat→aJ
 |0=>fun _ _=>none
 |n+1=>fun f ds=>
  match ext f with
  |some g=>g (cH tab ext n) ds
  |none=>
   match tab f with
   |some pc=>(match pc.ev (cH tab ext n) n (jt ds) with|some (.ret d)=>some d|_=>none)
   |none=>none
theorem jP.hint {C:Ctx}{fr nh:List Nat}{f:Nat}{s:Sig}{ds:List D}{d:D}(h:jP C f s ds d):jP {C with fr:=fr,nh:=nh} f s ds d:=
 fun σ w args ar hC ha=>h σ w args ar ⟨hC.glob⟩ ha
theorem jP.unhint {C:Ctx}{fr nh:List Nat}{f:Nat}{s:Sig}{ds:List D}{d:D}(h:jP {C with fr:=fr,nh:=nh} f s ds d):jP C f s ds d:=
 fun σ w args ar hC ha=>h σ w args ar ⟨hC.glob⟩ ha
theorem kg.hint {C:Ctx}{fr nh:List Nat}{f:Nat}{cts ys:List Ty}{ds xs:List D}(h:kg C f cts ys ds xs):kg {C with fr:=fr,nh:=nh} f cts ys ds xs:=
 fun σ w yv vs F fx cx m ar hC=>h σ w yv vs F fx cx m ar ⟨hC.glob⟩
theorem kg.unhint {C:Ctx}{fr nh:List Nat}{f:Nat}{cts ys:List Ty}{ds xs:List D}(h:kg {C with fr:=fr,nh:=nh} f cts ys ds xs):kg C f cts ys ds xs:=
 fun σ w yv vs F fx cx m ar hC=>h σ w yv vs F fx cx m ar ⟨hC.glob⟩
theorem eH.hint {C:Ctx}{fr nh:List Nat}{f:Nat}{shs:List Sh}{obs:List (Nat×Ob)}{res:Ty}{ds:List D}{d:D}(h:eH C f shs obs res ds d):eH {C with fr:=fr,nh:=nh} f shs obs res ds d:=h.ctx rfl rfl rfl
theorem eH.unhint {C:Ctx}{fr nh:List Nat}{f:Nat}{shs:List Sh}{obs:List (Nat×Ob)}{res:Ty}{ds:List D}{d:D}(h:eH {C with fr:=fr,nh:=nh} f shs obs res ds d):eH C f shs obs res ds d:=eH.ctx (C':=C) h rfl rfl rfl
theorem cW.hint {C:Ctx}{fr nh:List Nat}{Φ:aJ}(h:cW C Φ):cW {C with fr:=fr,nh:=nh} Φ:=
 fun f ds d e s hs=>⟨fun hm=>((h f ds d e s hs).1 hm).hint,fun shs obs hm=>((h f ds d e s hs).2 shs obs hm).hint⟩
theorem fm.hint {C:Ctx}{fr nh:List Nat}{Φ:aJ}(h:fm C Φ):fm {C with fr:=fr,nh:=nh} Φ:=
 fun f cs ys hc hi=>let⟨h1,h2⟩:=h f cs ys hc hi;⟨h1,fun ds d e=>let⟨xs,e1,e2,e3⟩:=h2 ds d e;⟨xs,e1,e2,e3.hint⟩⟩
theorem du.hint {C:Ctx}{fr nh:List Nat}(h:du C):du {C with fr:=fr,nh:=nh}:=h
def Js (C:Ctx)(f:Nat)(s:Sig)(ds:List D)(d:D):Prop:=(oR s.mode=false→jP C f s ds d)∧∀shs obs,s.mode=.ob shs obs→eH C f shs obs s.res ds d
structure TabOK (C:Ctx) (tab:Nat→Option PC) (ext:Nat→Option (aJ→List D→Option D)):Prop where
 clos:du C
 its:∀f cs ys,C.cap f=some cs→lE cs.args cs.res=some ys→tab f=none∧∃fn,C.P.funcs[f]?=some fn∧fn.body.isSome=true∧(fn.name== "runtime.NumGoroutine")=false
 tab:∀f pc,ext f=none→tab f=some pc→∃fn s ids fr nh,C.P.funcs[f]?=some fn∧C.sig f=some s∧kl {C with fr:=fr,nh:=nh} fn s ids=some pc
 ext:∀f g,ext f=some g→∀Φ,cW C Φ→fm C Φ→∀ds d,g Φ ds=some d→(∀s,C.sig f=some s→Js C f s ds d)∧
  ∀cs ys,C.cap f=some cs→lE cs.args cs.res=some ys→∃xs,d=.list xs∧(∀x,x∈xs→∃ds',x=.tup ds'∧ds'.length=ys.length)∧kg C f cs.caps ys ds xs
theorem Tb {C:Ctx}{tab:Nat→Option PC}{ext:Nat→Option (aJ→List D→Option D)}(h:TabOK C tab ext):∀n,cW C (cH tab ext n)∧fm C (cH tab ext n)
 |0=>⟨fun f ds d e=>by simp[cH] at e,fun f cs ys hc hi=>⟨(h.its f cs ys hc hi).2,fun ds d e=>by simp[cH] at e⟩⟩
 |n+1=>by
  obtain⟨ih,se⟩:=Tb h n;refine⟨fun f ds d e=>?_,fun f cs ys hc hi=>⟨(h.its f cs ys hc hi).2,fun ds d e=>?_⟩⟩
  ·simp only[cH] at e;split at e
   ·rename_i g hg;exact(h.ext f g hg _ ih se ds d e).1
   ·rename_i hx;split at e
    ·rename_i pc ae;split at e
     ·rename_i d' he;cases e;obtain⟨fn,s,ids,fr,nh,h1,h2,h3⟩:=h.tab f pc hx ae;intro s' jz;rw[h2] at jz;cases jz
      exact⟨fun hm=>(KC (C:={C with fr:=fr,nh:=nh}) (du.hint h.clos) (cW.hint ih) (fm.hint se) h1 h3 hm he).unhint,
       fun shs obs hm=>(adw (C:={C with fr:=fr,nh:=nh}) (du.hint h.clos) (cW.hint ih) (fm.hint se) h1 h3 hm he).unhint⟩
     ·cases e
    ·cases e
  ·simp only[cH] at e;split at e
   ·rename_i g hg;exact(h.ext f g hg _ ih se ds d e).2 cs ys hc hi
   ·rw[(h.its f cs ys hc hi).1] at e;cases e
def abG (Φ:aJ)(pc:PC)(J k:Nat)(ds xs:List D):Prop:=SL Φ pc J ds xs∧∀x,x∈xs→∃ds',x=.tup ds'∧ds'.length=k
open Classical in
def sk (pc:PC)(J k:Nat)(spec:List D→List D):aJ→List D→Option D:=fun Φ ds=>if abG Φ pc J k ds (spec ds) then some (.list (spec ds)) else none
theorem ajN {C:Ctx}{Φ:aJ}(aV:du C)(hΦ:cW C Φ)(dO:fm C Φ){f:Nat}{fn:Func}{cts ys:List Ty}{J k:Nat}{ids fr nh:List Nat}{pc:PC}(hf:C.P.funcs[f]?=some fn)(hc:∀yv,Aq {C with fr:=fr,nh:=nh,yv:=yv} fn cts ys J ids=some pc){spec:List D→List D}
 {ds:List D} {d:D} (h:sk pc J k spec Φ ds=some d) (hk:k=ys.length):∃xs,d=.list xs∧(∀x,x∈xs→∃ds',x=.tup ds'∧ds'.length=ys.length)∧kg C f cts ys ds xs:=by
 unfold sk at h;split at h
 ·rename_i hs;cases h;subst hk;exact⟨_,rfl,hs.2,(adx (C:={C with fr:=fr,nh:=nh}) (du.hint aV) (cW.hint hΦ) (fm.hint dO) hf hc hs.1).unhint⟩
 ·cases h
def bu {α:Type}:List (Nat×α)→Nat→Option α
 |[],_=>none
 |x::l,f=>bif Nat.beq x.1 f then some x.2 else bu l f
def DO {α:Type}(R:Nat→α→Prop):List (Nat×α)→Prop
 |[]=>True
 |x::l=>R x.1 x.2∧DO R l
theorem Cg {α:Type}{R:Nat→α→Prop}:∀{l:List (Nat×α)},DO R l→∀f x,bu l f=some x→R f x
 |[],_,f,x,h=>by cases h
 |y::l,⟨h1,h2⟩,f,x,h=>by
  simp only[bu] at h;cases hb:Nat.beq y.1 f<;>simp only[hb,cond_true,cond_false] at h
  ·exact Cg h2 f x h
  ·cases h;rw[←cV hb];exact h1
def Qh (P:Program):List (Nat×Sig)→Bool
 |[]=>true
 |x::l=>(match P.funcs[x.1]? with|some fn=>fn.body.isSome&& !(fn.name== "runtime.NumGoroutine")|none=>false)&&Qh P l
theorem aa8 {P:Program}:∀{l:List (Nat×Sig)},Qh P l=true→∀f s,bu l f=some s→∃fn,P.funcs[f]?=some fn∧fn.body.isSome=true∧(fn.name== "runtime.NumGoroutine")=false
 |[],_,f,s,h=>by cases h
 |y::l,hl,f,s,h=>by
  simp only[Qh,aq] at hl;simp only[bu] at h;cases hb:Nat.beq y.1 f<;>simp only[hb,cond_true,cond_false] at h
  ·exact aa8 hl.2 f s h
  ·rw[←cV hb];have h1:=hl.1;split at h1
   ·rename_i fn e;simp only[aq,jf] at h1;exact⟨fn,e,h1.1,h1.2⟩
   ·cases h1
def Qa (a b:Sig):Bool:=Ty.beqs a.args b.args&&Ty.beq a.res b.res&&(match a.mode,b.mode with|.dat,.dat=>true|_,_=>false)
theorem aoT {a b:Sig}(h:Qa a b=true):a=b:=by
 obtain⟨a1,a2,a3⟩:=a;obtain⟨b1,b2,b3⟩:=b;simp only[Qa,aq] at h;rw[Ty.beqs_eq _ _ h.1.1,Ty.beq_eq _ _ h.1.2];cases a3<;>cases b3<;>first|rfl|(have:=h.2;cases this)
def DF (P:Program)(f:Nat):Bool:=match P.funcs[f]? with|some fn=>fn.body.isSome&& !(fn.name== "runtime.NumGoroutine")|none=>false
theorem apk {P:Program}{f:Nat}(h:DF P f=true):∃fn,P.funcs[f]?=some fn∧fn.body.isSome=true∧(fn.name== "runtime.NumGoroutine")=false:=by
 unfold DF at h;split at h
 ·rename_i fn e;simp only[aq,jf] at h;exact⟨fn,e,h.1,h.2⟩
 ·cases h
def Ks (P:Program)(sig:List (Nat×Sig))(pcs:List Nat):List (Nat×CSig)→Bool
 |[]=>true
 |x::l=>(match lE x.2.args x.2.res with
   |none=>(match bu sig x.1 with|some s=>Qa s ⟨x.2.args++x.2.caps,x.2.res,.dat⟩|none=>false)
   |some _=> !eE pcs x.1&&DF P x.1)&&Ks P sig pcs l
theorem TN {P:Program}{sig:List (Nat×Sig)}{pcs:List Nat}:∀{l:List (Nat×CSig)},Ks P sig pcs l=true→∀f cs,bu l f=some cs→
 (lE cs.args cs.res=none→bu sig f=some ⟨cs.args++cs.caps,cs.res,.dat⟩)∧∀ys,lE cs.args cs.res=some ys→eE pcs f=false∧DF P f=true
 |[],_,f,cs,h=>by cases h
 |x::l,hl,f,cs,h=>by
  simp only[Ks,aq] at hl;simp only[bu] at h;cases hb:Nat.beq x.1 f<;>simp only[hb,cond_true,cond_false] at h
  ·exact TN hl.2 f cs h
  ·cases h;rw[←cV hb];have h1:=hl.1;refine⟨fun e=>?_,fun ys e=>?_⟩
   ·rw[e] at h1;simp only at h1;split at h1
    ·rename_i s hs;rw[hs,aoT h1]
    ·cases h1
   ·rw[e] at h1;simpa using h1
theorem WQ {α:Type}:∀{l:List (Nat×α)} {f:Nat},eE (l.map (·.1)) f=false→bu l f=none
 |[],f,_=>rfl
 |x::l,f,h=>by
  simp only[fo,eE,List.any_cons,SH] at h;simp only[bu];have hb:Nat.beq x.1 f=false:=by
   cases e:Nat.beq x.1 f
   ·rfl
   ·rw[aw e,jn] at h;cases h.1
  rw[hb];exact WQ (l:=l) h.2
def abP (Φ:aJ)(pa pb:PC)(ds:List D)(d:D):Prop:=(∃N xs,pa.ev Φ N (jt ds)=some (.ret (.list xs))∧xs≠[]∧d=.list xs)∨∃N,pb.ev Φ N (jt ds)=some (.ret (.list []))∧d=.list []
open Classical in
def qK (pa pb:PC)(spec:List D→D):aJ→List D→Option D:=fun Φ ds=>if abP Φ pa pb ds (spec ds) then some (spec ds) else none
theorem amy {C:Ctx}{Φ:aJ}(aV:du C)(hΦ:cW C Φ)(dO:fm C Φ){f:Nat}{fn:Func}{args:List Ty}{e:Ty}{ids ajB fr nh UJ Xw:List Nat}{pa pb:PC}(hf:C.P.funcs[f]?=some fn)(ha:kl {C with fr:=fr,nh:=nh} fn ⟨args,.slice e,.dat⟩ ids=some pa)
 (hb:kl {C with fr:=UJ,nh:=Xw} fn ⟨args,.nils .bool,.dat⟩ ajB=some pb) {spec:List D→D} {ds:List D} {d:D} (h:qK pa pb spec Φ ds=some d):jP C f ⟨args,.nsl e,.dat⟩ ds d:=by
 unfold qK at h;split at h
 case isFalse=>cases h
 rename_i hs;cases h;rcases hs with⟨N,xs,h1,h2,h3⟩|⟨N,h1,h2⟩
 ·rw[h3];have:=(KC (C:={C with fr:=fr,nh:=nh}) (du.hint aV) (cW.hint hΦ) (fm.hint dO) hf ha (N:=N) rfl h1).unhint;intro σ w aa ar hC gu;refine(this σ w aa ar hC gu).mono fun en w' hh=>?_;obtain⟨v,σ',g1,g2,g3,g4,g5,g6,g7⟩:=hh;refine⟨v,σ',g1,g2,g3,g4,g5,g6,?_⟩;change Rep C.cap σ' (.slice e) v (.list xs) at g7;show Rep C.cap σ' (.nsl e) v (.list xs);generalize hd:D.list xs=dd at g7;cases g7 with
  |nil=>injection hd with hd;exact absurd hd h2
  |emp=>injection hd with hd;exact absurd hd h2
  |slice _ k o n c fK vs a1 a2 a3 a4 a5=>exact .nsl e k o n c fK (.slice e k o n c fK vs a1 a2 a3 a4 a5) (by injection hd with hd;rw[←hd];exact h2)
 ·rw[h2];have:=(KC (C:={C with fr:=UJ,nh:=Xw}) (du.hint aV) (cW.hint hΦ) (fm.hint dO) hf hb (N:=N) rfl h1).unhint;intro σ w aa ar hC gu;refine(this σ w aa ar hC gu).mono fun en w' hh=>?_;obtain⟨v,σ',g1,g2,g3,g4,g5,g6,g7⟩:=hh;refine⟨v,σ',g1,g2,g3,g4,g5,g6,?_⟩;change Rep C.cap σ' (.nils .bool) v (.list []) at g7;show Rep C.cap σ' (.nsl e) v (.list []);generalize D.list []=dd at g7;cases g7;exact .nsl0 e
end Cx
namespace Cx
open Go Go.RowKit Go.ChangeShapes Go.WideShapes
def lD (w:World):Im:=
 ⟨fun k o=>w.cell? ⟨k,o,none⟩,fun _=>none⟩
theorem ajD (w:World):(lD w).ok w:=by
 exact⟨fun k o v h=>h,fun k es h=>by cases h⟩
def za (P:Program)(r:TypeId→Option Ty):List Field→Nat→Option (List Ty)
 |[],_=>some []
 |f::fs,off=>(r f.type).bind fun ft=>
  bif Nat.beq f.offset off&&Nat.beq (P.cellsOf f.type) ft.flat.length then(za P r fs (off+ft.flat.length)).map (ft.flat++·) else none
def fj (P:Program):Nat→TypeId→Option Ty
 |0,_=>none
 |n+1,t=>
  match P.underlying t with
  |some .bool=>some .bool
  |some (.int k)=>some (.int k)
  |some .string=>some .str
  |some (.slice e)=>bif qE P e then some (.slice .trm) else(fj P n e).bind fun te=>bif Nat.beq (P.cellsOf e) te.flat.length&&Nat.ble 1 te.flat.length then some (.slice te) else none
  |some (.struct fs)=>(za P (fj P n) fs.toList 0).bind fun ts=>bif Nat.beq (P.cellsOf t) ts.length then some (.agg ts) else none
  |_=>none
theorem ajL {P:Program}{e:TypeId}(h:qE P e=true)(n:Nat):fj P (n+2) e=some .trmA∧P.cellsOf e=3:=by
 unfold qE at h;split at h
 case h_2=>cases h
 rename_i fs hu;split at h
 case h_2=>cases h
 rename_i f0 f1 f2 qu;simp only[aq] at h;obtain⟨⟨⟨⟨⟨⟨⟨⟨⟨h0,h1⟩,h2⟩,o0⟩,o1⟩,o2⟩,c0⟩,c1⟩,c2⟩,c3⟩:=h;split at h0
 case h_2=>cases h0
 rename_i u0;split at h1
 case h_2=>cases h1
 rename_i u1;split at h2
 case h_2=>cases h2
 rename_i e' u2;obtain rfl:=aw h2;have r0:fj P (n+1) f0.type=some (.int .i64):=by simp[fj,u0]
 have r1:fj P (n+1) f1.type=some (.int .i64):=by simp[fj,u1]
 have ht:qE P e'=true:=by
  unfold qE;rw[hu];simp only[qu];simp[u0,u1,u2,aw o0,aw o1,aw o2,aw c0,aw c1,aw c2,aw c3]
 have r2:fj P (n+1) f2.type=some (.slice .trm):=by simp[fj,u2,ht]
 refine⟨?_,aw c3⟩;show fj P (n+1+1) e'=_;rw[fj,hu];simp only[qu,za,r0,r1,r2,nY,Ty.flat,nV,wh,o0,c0,Bool.and_self,cond_true];simp[aw o1,aw o2,aw c1,aw c2,aw c3,Ty.trmA]
theorem PR {P:Program}{n:Nat}{t:TypeId}{ty:Ty}(h:fj P n t=some ty):ty.rowT=true∨ty.one=true:=by
 cases n with
 |zero=>simp[fj] at h
 |succ n=>
  simp only[fj] at h;split at h
  ·cases h;exact .inr rfl
  ·cases h;exact .inr rfl
  ·cases h;exact .inr rfl
  ·rename_i e _;cases ht:qE P e<;>simp only[ht,cond_true,cond_false] at h
   ·simp only[au] at h;obtain⟨te,_,h⟩:=h;cases hb:(Nat.beq (P.cellsOf e) te.flat.length&&Nat.ble 1 te.flat.length)<;>simp only[hb,cond_true,cond_false] at h
    ·cases h
    ·cases h;exact .inr rfl
   ·cases h;exact .inr rfl
  ·rename_i fs _;simp only[au] at h;obtain⟨ts,_,h⟩:=h;cases hb:Nat.beq (P.cellsOf t) ts.length<;>simp only[hb,cond_true,cond_false] at h
   ·cases h
   ·cases h;exact .inl rfl
  ·cases h
def kX (cap:Nat→Option CSig)(σ:Im)(ts:List Ty)(cs:List Value)(ds:List D):Prop:=
 cs.length=ts.length∧ds.length=ts.length∧∀(i:Nat) (u:Ty),ts[i]?=some u→Rep cap σ u (cs.getD i undef) (ds.getD i .none)∧u.one=true
theorem kX.one {cap:Nat→Option CSig}{σ:Im}{t:Ty}{v:Value}{d:D}(h:Rep cap σ t v d)(ht:t.one=true):kX cap σ [t] [v] [d]:=
 ⟨rfl,rfl,fun i u hu=>by
   cases i with
   |zero=>simp at hu;subst hu;exact⟨h,ht⟩
   |succ i=>simp at hu⟩
theorem kX.append {cap:Nat→Option CSig}{σ:Im}{ts us:List Ty}{cs vs:List Value}{ds es:List D}(h:kX cap σ ts cs ds)(k:kX cap σ us vs es):kX cap σ (ts++us) (cs++vs) (ds++es):=by
 obtain⟨h1,h2,h3⟩:=h;obtain⟨k1,k2,k3⟩:=k;refine⟨by simp[h1,k1],by simp[h2,k2],fun i u hu=>?_⟩;by_cases hi:i<ts.length
 ·rw[lS hi] at hu;have:=h3 i u hu;rw[aI,aI,lS (by omega),lS (by omega)];rw[aI,aI] at this;exact this
 ·rw[lT (by omega)] at hu;have:=k3 _ u hu;rw[aI,aI,lT (by omega),lT (by omega),h1,h2];rw[aI,aI] at this;exact this
def T3 (ag:Bool)(ds:List D):D:=if ag then .agg ds else ds.getD 0 .none
theorem afr (t:Ty):t.flat.length=t.size:=by cases t<;>rfl
theorem Rep.ofRow {cap:Nat→Option CSig}{σ:Im}{t:Ty}{cs:List Value}{ds:List D}(gg:t.rowT=true∨t.one=true)(h:kX cap σ t.flat cs ds):Rep cap σ t (Cx.rowOf t.rowT cs) (T3 t.rowT ds):=by
 obtain⟨h1,h2,h3⟩:=h;cases t with
 |agg ts=>exact .agg ts cs ds h1 h2 (fun i u hu=>(h3 i u hu).1) (fun i u hu=>(h3 i u hu).2)
 |trm=>simp[Ty.rowT,Ty.one] at gg
 |_=>exact(h3 0 _ rfl).1
theorem aox {cap:Nat→Option CSig}{σ:Im}{t:Ty}{cs:List Value}{ds:List D}(gg:t.rowT=true∨t.one=true)(h:kX cap σ t.flat cs ds){j:Nat}{u:Value}(hj:(rowOf t.rowT cs).cells[j]?=some u):cs[j]?=some u:=by
 obtain⟨h1,h2,h3⟩:=h;cases t with
 |agg ts=>simpa [rowOf,Ty.rowT,Value.cells] using hj
 |trm=>simp[Ty.rowT,Ty.one] at gg
 |_=>
  have h4:=h3 0 _ rfl;have h5:=(h4.1.oneCell h4.2).1;simp only[rowOf,Ty.rowT,vX,if_false] at hj;rw[h5] at hj;cases j with
  |zero=>
   simp only[DX,Ju,aS] at hj
   match cs,h1 with
   |[c],_=>simpa using hj
  |succ j=>simp at hj
section
variable {H:Type} {enc:TypeId×Value→H} {P:Program} {w:World} {base:Nat} {held:Bool} {cap:Nat→Option CSig}
theorem abl {k:IntKind}{n:Int}(h:(Lit.int k n).wf=true):k.min≤n∧n≤k.max:=by
 simpa [Lit.wf] using h
theorem aat {n m:Nat}(ih:∀(t:TypeId) (cs:List Value) (x:DataW H×List MemPlace) (ty:Ty),DataW.trod enc P w base (fun _=>true) held n t cs=some x→fj P m t=some ty→∃ds,kX cap (lD w) ty.flat cs ds):
 ∀(fs:List Field) (off:Nat) (cs:List Value) (ts:List Ty),za P (fj P m) fs off=some ts→cs.length=off+ts.length→
  (∀f,f∈fs→∃x,DataW.trod enc P w base (fun _=>true) held n f.type ((cs.drop f.offset).take (P.cellsOf f.type))=some x)→∃ds,kX cap (lD w) ts (cs.drop off) ds
 |[],off,cs,ts,h,hl,_=>by
  simp only[za,aS] at h;subst h;have:cs.drop off=[]:=by simp at hl ⊢;omega
  rw[this];exact⟨[],rfl,rfl,fun i u hu=>by simp at hu⟩
 |f::fs,off,cs,ts,h,hl,hx=>by
  simp only[za,au] at h;obtain⟨ft,hft,h⟩:=h;cases hb:(Nat.beq f.offset off&&Nat.beq (P.cellsOf f.type) ft.flat.length)<;>simp only[hb,cond_true,cond_false] at h
  ·cases h
  simp only[ax] at h;obtain⟨us,hus,rfl⟩:=h;simp only[aq] at hb;have e1:=cV hb.1;have e2:=cV hb.2;obtain⟨x,mc⟩:=hx f (ej ..);rw[e1,e2] at mc;obtain⟨Av,j3⟩:=ih _ _ _ _ mc hft;simp only[kV] at hl;obtain⟨ds2,oL⟩:=aat ih fs (off+ft.flat.length) cs us hus (by omega) fun g hg=>hx g (dY _ hg);refine⟨Av++ds2,?_⟩;have:=j3.append oL;rw[←List.drop_drop,Jy] at this;exact this
theorem aru:∀(n m:Nat) (t:TypeId) (cs:List Value) (x:DataW H×List MemPlace) (ty:Ty),DataW.trod enc P w base (fun _=>true) held n t cs=some x→fj P m t=some ty→∃ds,kX cap (lD w) ty.flat cs ds:=by
 intro n
 induction n with
 |zero=>intro m t cs x ty h;simp[DataW.trod] at h
 |succ n ih=>
  intro m t cs x ty h aT;cases m with
  |zero=>simp[fj] at aT
  |succ m=>
   simp only[fj] at aT;split at aT
   ·rename_i hu;cases aT;obtain⟨b,rfl,_⟩:=DataW.trod_bool hu h;exact⟨_,.one (.bool b) rfl⟩
   ·rename_i k hu;cases aT;obtain⟨z,rfl,_,hw⟩:=DataW.trod_int hu h;exact⟨_,.one (.int k z (abl hw).1 (abl hw).2) rfl⟩
   ·rename_i hu;cases aT;obtain⟨s,rfl,_,hs⟩:=DataW.trod_string hu h;exact⟨_,.one (.str s hs) rfl⟩
   ·rename_i e hu;have uG:∃(m':Nat) (te sV:Ty),fj P m' e=some te∧P.cellsOf e=te.flat.length∧1≤te.flat.length∧ty=.slice sV∧sV.unf=te:=by
     cases ht:qE P e<;>simp only[ht,cond_true,cond_false] at aT
     ·simp only[au] at aT;obtain⟨te,uG,aT⟩:=aT;cases hb:(Nat.beq (P.cellsOf e) te.flat.length&&Nat.ble 1 te.flat.length)<;>simp only[hb,cond_true,cond_false] at aT
      ·cases aT
      cases aT;simp only[aq] at hb;exact⟨m,te,te,uG,cV hb.1,jQ hb.2,rfl,Ty.unf_ro (PR uG)⟩
     ·cases aT;obtain⟨k1,k2⟩:=ajL ht 0;exact⟨2,.trmA,.trm,k1,k2,by decide,rfl,rfl⟩
    obtain⟨m',te,sV,uG,e1,e2,rfl,lC⟩:=uG;have gg:=PR uG;rcases DataW.trod_slice hu h with⟨rfl,_⟩|⟨a,len,cp,elems,rest,n',jZ,rfl,_,hba,hl,hm,hlen,fe,rX,_⟩
    ·exact⟨_,.one (.nil sV) rfl⟩
    ·cases jZ;obtain⟨hrl,rT⟩:=rX rfl
     have ng:∀i,i<cp→∃ci y,w.cells? base (a.add (i*P.cellsOf e)) (P.cellsOf e)=some ci∧DataW.trod enc P w base (fun _=>true) held n e ci=some y:=by
      intro i hi
      have ec:∃y,(w.cells? base (a.add (i*P.cellsOf e)) (P.cellsOf e)).bind (DataW.trod enc P w base (fun _=>true) held n e)=some y:=by
           by_cases Gs:i<len
           ·rw[fe i Gs];exact⟨_,aZ (by omega)⟩
           ·have:=rT (i-len) (by omega);rw[show len+(i-len)=i by omega] at this;rw[this];exact⟨_,aZ (by omega)⟩
      obtain⟨y,hy⟩:=ec;rw[au] at hy;obtain⟨ci,h1,h2⟩:=hy;exact⟨ci,y,h1,h2⟩
     by_cases Bc:cp=0
     ·subst Bc;have:len=0:=by omega
      subst this;exact⟨_,.one (.emp sV a) rfl⟩
     ·have V5:a.spot=none:=by
           obtain⟨ci,y,h1,_⟩:=ng 0 (by omega);obtain⟨_,_,h3⟩:=World.cells?_some h1;have:=h3 0 (by omega);simp only[Nat.zero_mul,Addr.add,if_true] at this;unfold World.cell? at this;cases hs:a.spot with
           |none=>rfl
           |some s=>
            exfalso;have hl:ci.length=P.cellsOf e:=(World.cells?_some h1).2.1;split at this
            ·rw[hs] at this;simp at this;subst this;simp at hl;omega
            ·rw[eq_comm,List.getElem?_eq_none_iff] at this;omega
      obtain⟨k,o,s⟩:=a;simp only at V5;subst V5;have aP:∀i,∃p:List Value×List D,i<len→w.cells? base ((⟨k,o,none⟩:Addr).add (i*P.cellsOf e)) (P.cellsOf e)=some p.1∧kX cap (lD w) te.flat p.1 p.2:=by
           intro i;by_cases hi:i<len
           ·obtain⟨ci,y,h1,h2⟩:=ng i (by omega);obtain⟨ds,hr⟩:=ih m' _ _ _ _ h2 uG;exact⟨(ci,ds),fun _=>⟨h1,hr⟩⟩
           ·exact⟨([],[]),fun h=>absurd h hi⟩
      obtain⟨f,hf⟩:=Classical.axiomOfChoice aP;refine⟨_,.one (.slice sV k o len cp ((List.range len).map fun i=>T3 te.rowT (f i).2) (fun i=>rowOf te.rowT (f i).1) (by simp) hl hm (fun i x hx=>?_) (fun i j u hi hj=>?_)) rfl⟩
      ·rw[cf,ax] at hx;obtain⟨i',dH,rfl⟩:=hx;have af:i<len:=by have:=(dX.1 dH).1;simpa using this
       rw[nU af] at dH;cases dH;rw[lC];exact Rep.ofRow gg (hf i af).2
      ·obtain⟨h1,h2⟩:=hf i hi;have cY:=aox gg h2 hj;obtain⟨_,h4,h5⟩:=World.cells?_some h1;have fC:j<P.cellsOf e:=by rw[←h4];exact(dX.1 cY).1
       have:=h5 j fC;rw[cY] at this;show w.cell? ⟨k,o+i*sV.size+j,none⟩=some u;rw[←sV.unf_size,lC,←afr,←e1,←this]
       congr 1
       simp only[Addr.add];split<;>split<;>simp_all
   ·rename_i fs hu;simp only[au] at aT;obtain⟨ts,uI,aT⟩:=aT;cases hb:Nat.beq (P.cellsOf t) ts.length<;>simp only[hb,cond_true,cond_false] at aT
    ·cases aT
    cases aT;obtain⟨xs,n',jZ,_,hl,uK,hf⟩:=DataW.trod_struct hu h;cases jZ
    have:=aat (ih m) fs.toList 0 cs ts uI (by rw[hl,cV hb];omega) (fun f hm=>by
     obtain⟨i,hi⟩:=ri hm;have dH:fs[i]?=some f:=by simpa using hi
     have h1:=hf i f dH;have af:i<fs.size:=(ei.1 dH).1;exact⟨_,h1.trans (aZ (by omega))⟩)
    show ∃ds,kX cap (lD w) ts cs ds;simpa using this
   ·cases aT
theorem Af {base:Nat}{t:TypeId}{v:Value}(h:Cell.okWide P w .any base t v):v.cells=#[v]:=by
 cases v<;>first|rfl|(exfalso;simp only[Cell.okWide,Cell.ok] at h;revert h;cases P.underlying t with|none=>simp|some T=>cases T<;>simp)
theorem ach {base base':Nat}{m:Nat}{t:TypeId}{v:Value}{d:DataW H}{ps:List MemPlace}{ty:Ty}(ar:Value.okWide P w .any base' t v)(h:DataW.Trod enc P w base (fun _=>true) held t v d ps)(aT:fj P m t=some ty):∃d,Rep cap (lD w) ty v d:=by
 obtain⟨fuel,h⟩:=h;obtain⟨ds,hr⟩:=aru (cap:=cap) fuel m t _ _ _ h aT;have bF:=Rep.ofRow (PR aT) hr;cases m with
 |zero=>simp[fj] at aT
 |succ m=>
  suffices hs:rowOf ty.rowT v.cells.toList=v by rw[hs] at bF;exact⟨_,bF⟩
  simp only[fj] at aT;unfold Value.okWide at ar;split at aT
  ·rename_i hu;cases aT;rw[hu] at ar;simp only at ar;rw[Af ar];rfl
  ·rename_i hu;cases aT;rw[hu] at ar;simp only at ar;rw[Af ar];rfl
  ·rename_i hu;cases aT;rw[hu] at ar;simp only at ar;rw[Af ar];rfl
  ·rename_i e hu;cases ht:qE P e<;>simp only[ht,cond_true,cond_false] at aT
   ·simp only[au] at aT;obtain⟨te,_,aT⟩:=aT;cases hb:(Nat.beq (P.cellsOf e) te.flat.length&&Nat.ble 1 te.flat.length)<;>simp only[hb,cond_true,cond_false] at aT
    ·cases aT
    cases aT;rw[hu] at ar;simp only at ar;rw[Af ar];rfl
   ·cases aT;rw[hu] at ar;simp only at ar;rw[Af ar];rfl
  ·rename_i fs hu;simp only[au] at aT;obtain⟨ts,_,aT⟩:=aT;cases hb:Nat.beq (P.cellsOf t) ts.length<;>simp only[hb,cond_true,cond_false] at aT
   ·cases aT
   cases aT;rw[hu] at ar;obtain⟨cs,rfl,_⟩:=ar;simp[rowOf,Ty.rowT,Value.cells]
  ·cases aT
def Dl (P:Program)(m:Nat):List TypeId→Option (List Ty)
 |[]=>some []
 |t::ts=>(fj P m t).bind fun x=>(Dl P m ts).map (x::·)
theorem Tl {base base' m:Nat}:∀(ts:List TypeId) (vs:List Value) (ds:List (DataW H)) (ps:List MemPlace) (eG:List Ty),DataW.TrodAll enc P w base (fun _=>true) held ts vs ds ps→Dl P m ts=some eG→
 (∀(j:Nat) t v,ts[j]?=some t→vs[j]?=some v→Value.okWide P w .any base' t v)→
 ∃es:List D,vs.length=eG.length∧es.length=eG.length∧∀(i:Nat) (t:Ty),eG[i]?=some t→Rep cap (lD w) t (vs.getD i undef) (es.getD i .none)
 |[],vs,ds,ps,eG,h,aT,_=>by
  simp only[Dl,aS] at aT;subst aT;cases vs with
  |nil=>exact⟨[],rfl,rfl,fun i t h=>by simp at h⟩
  |cons=>cases ds<;>exact h.elim
 |t::ts,vs,ds,ps,eG,h,aT,ar=>by
  simp only[Dl,au,ax] at aT;obtain⟨ty,aji,arw,ajj,rfl⟩:=aT;cases vs with
  |nil=>cases ds<;>exact h.elim
  |cons v vs=>
   cases ds with
   |nil=>exact h.elim
   |cons d ds=>
    obtain⟨p,q,h1,h2,_⟩:=h;obtain⟨e,he⟩:=ach (cap:=cap) (ar 0 t v rfl rfl) h1 aji;obtain⟨es,k1,k2,k3⟩:=Tl ts vs ds q arw h2 ajj (fun j t' v' hj hv=>ar (j+1) t' v' hj hv);refine⟨e::es,by simp[k1],by simp[k2],fun i u hu=>?_⟩;cases i with
    |zero=>simp at hu;subst hu;exact he
    |succ i=>simpa using k3 i u (by simpa using hu)
end
mutual
inductive DTy:Ty→D→Prop where
 |int (k:IntKind) (n:Int) (h1:k.min≤n) (h2:n≤k.max):DTy (.int k) (.v (.int k n))
 |bool (b:Bool):DTy .bool (.v (.bool b))
 |str (s:ByteArray) (h:s.size≤maxLen):DTy .str (.v (.string s))
 |slice (e:Ty) (xs:List D) (hm:xs.length≤maxLen) (h:∀x,x∈xs→DTy e.unf x):DTy (.slice e) (.list xs)
 |agg (ts:List Ty) (ds:List D) (h:DTys ts ds):DTy (.agg ts) (.agg ds)
 |other (t:Ty) (d:D) (h:match t with|.int _|.bool|.str|.slice _|.agg _=>False|_=>True):DTy t d
inductive DTys:List Ty→List D→Prop where
 |nil:DTys [] []
 |cons {t:Ty} {d:D} {ts:List Ty} {ds:List D} (h:DTy t d) (hs:DTys ts ds):DTys (t::ts) (d::ds)
end
theorem DTys.of_get:∀{ts:List Ty} {ds:List D},ds.length=ts.length→(∀(i:Nat) (t:Ty),ts[i]?=some t→DTy t (ds.getD i .none))→DTys ts ds
 |[],[],_,_=>.nil
 |t::ts,d::ds,hl,h=>.cons (h 0 t rfl) (DTys.of_get (by simpa using hl) fun i u hu=>by simpa using h (i+1) u (by simpa using hu))
 |[],_::_,hl,_=>by simp at hl
 |_::_,[],hl,_=>by simp at hl
theorem Rep.dty {cap:Nat→Option CSig}{σ:Im}{t:Ty}{v:Value}{d:D}(h:Rep cap σ t v d):DTy t d:=by
 induction h with
 |int k n h1 h2=>exact .int k n h1 h2
 |bool b=>exact .bool b
 |str s h=>exact .str s h
 |agg ts vs ds h1 h2 _ ho ih=>exact .agg ts ds (.of_get h2 ih)
 |nil e=>exact .slice e [] (by decide) (fun x hx=>by cases hx)
 |emp e a=>exact .slice e [] (by decide) (fun x hx=>by cases hx)
 |slice e k o n c xs vs hn hc hm _ hv ih=>
  refine .slice e xs (by omega) fun x hx=>?_;obtain⟨i,hi⟩:=ri hx;exact ih i x hi
 |_=>exact .other _ _ trivial
theorem ajW {H:Type}{enc:TypeId×Value→H}{C:Ctx}{f:Nat}{fn:Func}{sg:Sig}{spec:ChangeSpec}{tb:TypeId}{apart fresh handsOn again:Bool}(hl:laidOutB C.P=true)
 (oN:Dl C.P 12 fn.params.toList=some sg.args) (aiL:fn.params.toList.all (fun t=>C.P.readableRec t&&decide (t<C.P.types.size))=true) (Mz:spec.vars=[])
 (ai2:∀ds:List (DataW H),ds.length=fn.params.size→(spec.fn H ds).results=[.lit (.bool true)]∧(spec.fn H ds).args=ds∧(spec.fn H ds).vars=[])
 (j4:fn.resultTypes=#[tb]) (Wb:C.P.underlying tb=some .bool) (ls:sg.mode=.dat) (rU:sg.res=.bool)
 (LS:∀ds,DTys sg.args ds→jP C f sg ds (.v (.bool true)))
 (W:World) (rO:CtxOK C (lD W)) (base:Nat) (args:Array Value) (ds gs:List (DataW H)) (before:List MemPlace)
 (bY:∀(j:Nat) t v,fn.params[j]?=some t→args[j]?=some v→Value.okWide C.P W .any base t v)
 (hW:DataW.Whole enc C.P fn.params.toList spec.vars apart W args.toList ds gs before):
 Calls C.P f args W fun e W'=>∃v,e=.returned v∧spec.post enc C.P fn apart fresh handsOn again W args v W':=by
 have Ga:=hW;have af:∀p∈before,p.block<W.heap.size:=fun p hp=>Ga.lt p hp;obtain⟨p,q,hA,hV,rfl,Bn,bm⟩:=hW;rw[Mz] at hV;obtain⟨rfl,rfl⟩:=trodVars_none hV;obtain⟨es,k1,k2,k3⟩:=Tl (cap:=C.cap) (base':=base) fn.params.toList args.toList ds p sg.args hA oN (fun j t v hj hv=>bY j t v (by simpa using hj) (by simpa using hv));have aT:DTys sg.args es:=.of_get k2 fun i t ht=>(k3 i t ht).dty
 have hlen:∀(ts:List TypeId) (vs:List Value) (ds:List (DataW H)) (ps:List MemPlace),DataW.TrodAll enc C.P W 0 (fun _=>true) true ts vs ds ps→ds.length=ts.length:=by
  intro ts
  induction ts with
  |nil=>intro vs ds ps h;cases vs<;>cases ds<;>first|rfl|exact h.elim
  |cons t ts ih=>
   intro vs ds ps h;cases vs with
   |nil=>cases ds<;>exact h.elim
   |cons v vs=>cases ds with
    |nil=>exact h.elim
    |cons d ds=>obtain⟨p,q,_,h2,_⟩:=h;simp[ih vs ds q h2]
 have Bf:ds.length=fn.params.size:=by simpa using hlen _ _ _ _ hA
 obtain⟨s1,s2,s3⟩:=ai2 (ds++[]) (by simpa using Bf);refine(LS es aT (lD W) W args (ajD W) rO ⟨k1,k2,k3⟩).mono fun e W' hh=>?_;obtain⟨v,σ',rfl,_,_,hb,_,_,hr⟩:=hh;refine⟨v,rfl,?_⟩;simp only[mR,ls,rU] at hr;obtain⟨b,rfl,uk⟩:=hr.bool_inv;cases uk
 have stays:∀(sp:Nat→Bool) (ts:List TypeId) (vs:List Value) (ds:List (DataW H)) (ps:List MemPlace),ts.all (fun t=>C.P.readableRec t&&decide (t<C.P.types.size))=true→(∀x∈ps,x.block<W.heap.size)→(∀x∈ps,sp x.block=true)→
  DataW.TrodAll enc C.P W 0 (fun _=>true) true ts vs ds ps→DataW.TrodAll enc C.P W' 0 sp true ts vs ds ps:=by
  intro sp ts
  induction ts with
  |nil=>intro vs ds ps _ _ _ h;cases vs<;>cases ds<;>first|exact h|exact h.elim
  |cons t ts ih=>
   intro vs ds ps ha qz rX h;cases vs with
   |nil=>cases ds<;>exact h.elim
   |cons v vs=>cases ds with
    |nil=>exact h.elim
    |cons d ds=>
     obtain⟨p,q,h1,h2,rfl⟩:=h;simp only[nS,aq,decide_eq_true_eq] at ha
     exact⟨p,q,WideElems.Trod_stays hl ha.1.1 ha.1.2 h1 (fun x hx=>hb.same (qz x (iN _ hx))) (fun x hx=>rX x (iN _ hx)),
      ih vs ds q (by simpa using ha.2) (fun x hx=>qz x (jk _ hx)) (fun x hx=>rX x (jk _ hx)) h2,rfl⟩
 have VI:∀x∈p,x.block<W.heap.size:=fun x hx=>af x (iN _ hx);have gu:=fun sp (h:∀x∈p,sp x.block=true)=>stays sp _ _ _ _ aiL VI h hA;have rT:∀(b:Nat) (sp:Nat→Bool) (hd:Bool),DataW.TrodAll enc C.P W' b sp hd fn.resultTypes.toList ((Value.bool true).resultList fn.resultTypes.size) [.lit (.bool true)] []:=by
  intro b sp hd;rw[j4];exact trodAll_mk1 (shut_bool Wb true)
 refine⟨ds,[],p++[],[],p,[],Ga,?_,?_,?_,World.keptBut_mono (fun x hx=>⟨hx,?_⟩) (hb.frame (·∈p++[])),fun _=>?_⟩
 ·rw[s1];exact rT _ _ _
 ·rw[s2];simpa using gu _ (fun x hx=>by simpa using VI x hx)
 ·rw[s3,Mz];rfl
 ·simpa using hx
 ·refine⟨ok_one j4 rfl (okWide_bool_mk Wb true),_,[],([]++p)++[],⟨[]++p,[],trodAll_append (gu _ (fun _ _=>rfl)) (rT _ _ _),by rw[Mz];exact rfl,rfl,?_,?_⟩,?_⟩
  ·intro b off hp;have cu:MemPlace.cell b off∈p++[]:=by simpa using hp
   rw[hb.frozen (af _ cu)];exact Bn b off cu
  ·intro ha;simpa using bm ha
  ·intro x hx _;simpa using hx
end Cx
namespace Cx
open Go Go.RowKit
abbrev cA:=Nat→aJ
def ak (T:cA)(f:Nat)(ds:List D)(d:D):Prop:=∃n0,∀n,n0≤n→T n f ds=some d
def v7 (T:cA)(l:List PI)(ρ:Env)(Q:Env→Prop):Prop:=∃ρ',Q ρ'∧∃n0,∀n,n0≤n→PI.runs (T n) l ρ=some ρ'
def aH (T:cA)(c:PC)(ρ:Env)(Q:Out→Prop):Prop:=∃x,Q x∧∃n0,∀n,n0≤n→c.ev (T n) n ρ=some x
theorem aH.mono {T:cA}{c:PC}{ρ:Env}{Q Q':Out→Prop}(h:aH T c ρ Q)(hq:∀x,Q x→Q' x):aH T c ρ Q':=by
 obtain⟨x,hx,n0,hn⟩:=h;exact⟨x,hq x hx,n0,hn⟩
theorem v7.nil {T:cA}{ρ:Env}{Q:Env→Prop}(h:Q ρ):v7 T [] ρ Q:=⟨ρ,h,0,fun _ _=>rfl⟩
theorem v7.cons {T:cA}{p:PI}{l:List PI}{ρ ρ1:Env}{Q:Env→Prop}{n0:Nat}(h:∀n,n0≤n→p.run (T n) ρ=some ρ1)(k:v7 T l ρ1 Q):v7 T (p::l) ρ Q:=by
 obtain⟨ρ',hQ,n1,h1⟩:=k;exact⟨ρ',hQ,max n0 n1,fun n hn=>by simp[PI.runs,h n (by omega),h1 n (by omega)]⟩
def fT (T:cA):List PI→Env→(Env→Prop)→Prop
 |[],ρ,Q=>Q ρ
 |.setR t e::l,ρ,Q=>fT T l (ρ.setR t (e.ev ρ)) Q
 |.setO t e::l,ρ,Q=>fT T l (ρ.setO t (e.ev ρ)) Q
 |.chk e::l,ρ,Q=>(e.ev ρ).b=true∧fT T l ρ Q
 |.call gs dst f args::l,ρ,Q=>if holds gs ρ=true then ∃d,ak T f (PE.evs ρ args) d∧fT T l (ρ.setR dst d) Q else fT T l ρ Q
 |.callc gs dst e args::l,ρ,Q=>if holds gs ρ=true then ∃f caps d,e.ev ρ=.clo f caps∧ak T f (PE.evs ρ args++caps) d∧fT T l (ρ.setR dst d) Q else fT T l ρ Q
 |.mcall j f args::l,ρ,Q=>∃d,ak T f (PE.evs ρ args) d∧fT T l (ρ.setO j d) Q
theorem q8 {T:cA}:∀{l:List PI} {ρ:Env} {Q:Env→Prop},fT T l ρ Q→v7 T l ρ Q
 |[],ρ,Q,h=>.nil h
 |.setR t e::l,ρ,Q,h=>.cons (n0:=0) (fun _ _=>rfl) (q8 h)
 |.setO t e::l,ρ,Q,h=>.cons (n0:=0) (fun _ _=>rfl) (q8 h)
 |.chk e::l,ρ,Q,h=>.cons (n0:=0) (fun n _=>by simp[PI.run,h.1]) (q8 h.2)
 |.call gs dst f args::l,ρ,Q,h=>by
  unfold fT at h;split at h
  ·rename_i hg;obtain⟨d,⟨n0,hn⟩,h⟩:=h;exact .cons (n0:=n0) (fun n hle=>by simp[PI.run,hg,hn n hle]) (q8 h)
  ·rename_i hg;exact .cons (n0:=0) (fun n hle=>by simp[PI.run,hg]) (q8 h)
 |.callc gs dst e args::l,ρ,Q,h=>by
  unfold fT at h;split at h
  ·rename_i hg;obtain⟨f,caps,d,he,⟨n0,hn⟩,h⟩:=h;exact .cons (n0:=n0) (fun n hle=>by simp[PI.run,hg,he,hn n hle]) (q8 h)
  ·rename_i hg;exact .cons (n0:=0) (fun n hle=>by simp[PI.run,hg]) (q8 h)
 |.mcall j f args::l,ρ,Q,h=>by
  obtain⟨d,⟨n0,hn⟩,h⟩:=h;exact .cons (n0:=n0) (fun n hle=>by simp[PI.run,hn n hle]) (q8 h)
def jC (ρ:Env)(lr lo:List Nat)(Q:Out→Prop):Out→Prop
 |.next ρ'=>Q (.next (ρ.join lr lo ρ'))
 |x=>Q x
def kj (ρ:Env)(id:Nat)(lr lo:List Nat)(Q:Out→Prop):Out→Prop
 |.next ρ'=>Q (.next (ρ.join lr lo ρ'))
 |.exit bM ρ'=>if bM=id then Q (.next (ρ.join lr lo ρ')) else Q (.exit bM ρ')
 |.ret d=>Q (.ret d)
def fS (K:Env→Prop)(Q:Out→Prop):Out→Prop
 |.next ρ'=>K ρ'
 |.exit id ρ'=>Q (.exit id ρ')
 |.ret d=>Q (.ret d)
theorem aH.is {T:cA}{l:List PI}{ρ:Env}{Q:Out→Prop}(h:fT T l ρ fun ρ'=>Q (.next ρ')):aH T (.is l) ρ Q:=by
 obtain⟨ρ',hQ,n0,hn⟩:=q8 h;exact⟨.next ρ',hQ,n0,fun n hle=>by simp[PC.ev,hn n hle]⟩
theorem aH.skip {T:cA}{ρ:Env}{Q:Out→Prop}(h:Q (.next ρ)):aH T .skip ρ Q:=⟨_,h,0,fun _ _=>rfl⟩
theorem aH.exit {T:cA}{ρ:Env}{id:Nat}{Q:Out→Prop}(h:Q (.exit id ρ)):aH T (.exit id) ρ Q:=⟨_,h,0,fun _ _=>rfl⟩
theorem aH.ret {T:cA}{ρ:Env}{e:PE}{Q:Out→Prop}(h:Q (.ret (e.ev ρ))):aH T (.ret e) ρ Q:=⟨_,h,0,fun _ _=>rfl⟩
theorem aH.seq {T:cA}{a b:PC}{ρ:Env}{Q:Out→Prop}(h:aH T a ρ (fS (fun ρ'=>aH T b ρ' Q) Q)):aH T (.seq a b) ρ Q:=by
 obtain⟨x,hx,n0,hn⟩:=h;cases x with
 |next ρ'=>
  obtain⟨y,hy,n1,h1⟩:=hx;exact⟨y,hy,max n0 n1,fun n hle=>by simp[PC.ev,hn n (by omega),h1 n (by omega)]⟩
 |exit id ρ'=>exact⟨_,hx,n0,fun n hle=>by simp[PC.ev,hn n hle]⟩
 |ret d=>exact⟨_,hx,n0,fun n hle=>by simp[PC.ev,hn n hle]⟩
theorem aH.ite {T:cA}{c:PE}{lr lo:List Nat}{a b:PC}{ρ:Env}{Q:Out→Prop}(h:if(c.ev ρ).b=true then aH T a ρ (jC ρ lr lo Q) else aH T b ρ (jC ρ lr lo Q)):aH T (.ite c lr lo a b) ρ Q:=by
 split at h
 all_goals
  rename_i hc;obtain⟨x,hx,n0,hn⟩:=h;cases x with
  |next ρ'=>exact⟨_,hx,n0,fun n hle=>by simp[PC.ev,hc,hn n hle]⟩
  |exit id ρ'=>exact⟨_,hx,n0,fun n hle=>by simp[PC.ev,hc,hn n hle]⟩
  |ret d=>exact⟨_,hx,n0,fun n hle=>by simp[PC.ev,hc,hn n hle]⟩
theorem aH.block {T:cA}{id:Nat}{lr lo:List Nat}{a:PC}{ρ:Env}{Q:Out→Prop}(h:aH T a ρ (kj ρ id lr lo Q)):aH T (.block id lr lo a) ρ Q:=by
 obtain⟨x,hx,n0,hn⟩:=h;cases x with
 |next ρ'=>exact⟨_,hx,n0,fun n hle=>by simp[PC.ev,hn n hle]⟩
 |exit bM ρ'=>
  simp only[kj] at hx;split at hx
  ·rename_i e;subst e;exact⟨_,hx,n0,fun n hle=>by simp[PC.ev,hn n hle]⟩
  ·rename_i e;exact⟨_,hx,n0,fun n hle=>by simp[PC.ev,hn n hle,eJ e]⟩
 |ret d=>exact⟨_,hx,n0,fun n hle=>by simp[PC.ev,hn n hle]⟩
theorem aH.loop {T:cA}{lr lo:List Nat}{a:PC}{ρ:Env}{Q:Out→Prop}{α:Type}(inv:α→List D→List D→Prop)(sv:α→Nat)(s0:α)(h0:inv s0 (lr.map ρ.r) (lo.map ρ.o))
 (step:∀s vr vo,inv s vr vo→aH T a (ρ.put lr vr lo vo) (fS (fun ρ'=>∃s',sv s'<sv s∧inv s' (lr.map ρ'.r) (lo.map ρ'.o)) Q)):aH T (.loop lr lo a) ρ Q:=by
 have key:∀(m:Nat) (s:α) (vr vo:List D),sv s≤m→inv s vr vo→∃x,Q x∧∃n0,∀n k,n0≤n→n0≤k→eP (a.ev (T n) n) ρ lr lo k vr vo=some x:=by
  intro m
  induction m with
  |zero=>
   intro s vr vo hm hi;obtain⟨x,hx,n0,hn⟩:=step s vr vo hi;cases x with
   |next ρ'=>obtain⟨s',af,_⟩:=hx;omega
   |exit id ρ'=>
    refine⟨_,hx,n0+1,fun n k hle hk=>?_⟩;obtain⟨k',rfl⟩:∃k',k=k'+1:=⟨k-1,by omega⟩
    simp[eP,hn n (by omega)]
   |ret d=>
    refine⟨_,hx,n0+1,fun n k hle hk=>?_⟩;obtain⟨k',rfl⟩:∃k',k=k'+1:=⟨k-1,by omega⟩
    simp[eP,hn n (by omega)]
  |succ m ih=>
   intro s vr vo hm hi;obtain⟨x,hx,n0,hn⟩:=step s vr vo hi;cases x with
   |next ρ'=>
    obtain⟨s',af,dH⟩:=hx;obtain⟨y,hy,n1,h1⟩:=ih s' _ _ (by omega) dH;refine⟨y,hy,max n0 n1+1,fun n k hle hk=>?_⟩;obtain⟨k',rfl⟩:∃k',k=k'+1:=⟨k-1,by omega⟩
    simp[eP,hn n (by omega),h1 n k' (by omega) (by omega)]
   |exit id ρ'=>
    refine⟨_,hx,n0+1,fun n k hle hk=>?_⟩;obtain⟨k',rfl⟩:∃k',k=k'+1:=⟨k-1,by omega⟩
    simp[eP,hn n (by omega)]
   |ret d=>
    refine⟨_,hx,n0+1,fun n k hle hk=>?_⟩;obtain⟨k',rfl⟩:∃k',k=k'+1:=⟨k-1,by omega⟩
    simp[eP,hn n (by omega)]
 obtain⟨x,hx,n0,hn⟩:=key (sv s0) s0 _ _ (aU _) h0;exact⟨x,hx,n0,fun n hle=>by simp only[PC.ev];exact hn n n hle hle⟩
def rC (ρ:Env)(lo:List Nat)(rt:Option PE)(K:List D→Prop)(Q:Out→Prop):Out→Prop
 |.next ρ'=>K (lo.map ρ'.o)
 |.exit id ρ'=>if id=cD then ∃e,rt=some e∧Q (.ret (e.ev (ρ.put [] [] lo (lo.map ρ'.o)))) else Q (.exit id (ρ.put [] [] lo (lo.map ρ'.o)))
 |.ret _=>False
theorem aH.each {T:cA}{e:PE}{ps lo:List Nat}{rt:Option PE}{a:PC}{ρ:Env}{Q:Out→Prop}(xs:List D)(he:(e.ev ρ).l=xs)(inv:Nat→List D→Prop)(h0:inv 0 (lo.map ρ.o))
 (step:∀k x vo,xs[k]?=some x→inv k vo→aH T a (ρ.put ps (partsOf ps x) lo vo) (rC ρ lo rt (inv (k+1)) Q)) (done:∀vo,inv xs.length vo→Q (.next (ρ.put [] [] lo vo))):aH T (.each e ps lo rt a) ρ Q:=by
 have key:∀(r k:Nat) (vo:List D),k+r=xs.length→inv k vo→∃x,Q x∧∃n0,∀n,n0≤n→fw (a.ev (T n) n) ρ ps lo rt (xs.drop k) vo=some x:=by
  intro r
  induction r with
  |zero=>
   intro k vo hk hi;have:xs.drop k=[]:=by rw[SN];omega
   obtain rfl:k=xs.length:=by omega
   exact⟨_,done vo hi,0,fun n _=>by rw[this];rfl⟩
  |succ r ih=>
   intro k vo hk hi;have af:k<xs.length:=by omega
   rw[abI af];obtain⟨y,hy,n0,hn⟩:=step k xs[k] vo (aZ af) hi;cases y with
   |next ρ'=>
    obtain⟨z,hz,n1,h1⟩:=ih (k+1) _ (by omega) hy;exact⟨z,hz,max n0 n1,fun n hle=>by simp only[fw,hn n (by omega)];exact h1 n (by omega)⟩
   |exit id ρ'=>
    simp only[rC] at hy;split at hy
    ·rename_i ct;obtain⟨e,h1,h2⟩:=hy;exact⟨_,h2,n0,fun n hle=>by subst ct;simp[fw,hn n hle,h1]⟩
    ·rename_i ct;exact⟨_,hy,n0,fun n hle=>by simp[fw,hn n hle,eJ ct]⟩
   |ret d=>exact hy.elim
 obtain⟨x,hx,n0,hn⟩:=key xs.length 0 _ (by omega) h0;exact⟨x,hx,n0,fun n hle=>by simp only[PC.ev,he];exact hn n hle⟩
theorem Zk {α:Type}:∀(l:List α),∃L:List (List α),∀ys,ys∈L↔ys.Perm l
 |[]=>⟨[[]],fun ys=>by simp⟩
 |x::l=>by
  obtain⟨L,hL⟩:=Zk l;refine⟨L.flatMap fun ys=>(List.range (ys.length+1)).map fun i=>ys.take i++x::ys.drop i,fun zs=>?_⟩;simp only[DY,cX,fp];constructor
  ·rintro⟨ys,hy,i,_,rfl⟩;have h1:=(hL ys).1 hy;refine(List.perm_middle).trans (.cons x ?_);rw[Jy];exact h1
  ·intro h;have hx:x∈zs:=h.symm.subset (ej ..);obtain⟨s,t,rfl⟩:=List.append_of_mem hx;refine⟨s++t,(hL _).2 ?_,s.length,by simp;omega,by simp⟩;exact(List.perm_cons x).1 ((List.perm_middle).symm.trans h)
theorem aH.meach {T:cA}{J:Nat}{ps cE lo:List Nat}{a:PC}{ρ:Env}{Q:Out→Prop}(es:List (D×D))(he:ρ.o J=.tup [.list [],.map es])(inv:List D→List D→Prop)(h0:inv [] (lo.map ρ.o))
 (step:∀done x rest vo,(done++x::rest).Perm (gl (.map es))→inv done vo→aH T a ((ρ.put ps (cE.map x.tget) lo vo).setO J (.tup [.list (done++[x]),.map es])) (fun y=>∃ρ',y=.next ρ'∧inv (done++[x]) (lo.map ρ'.o)))
 (last:∃vo,(∀done,done.Perm (gl (.map es))→∀kQ,inv done kQ→kQ=vo)∧Q (.next (ρ.put [] [] lo vo))):aH T (.meach J ps cE lo a) ρ Q:=by
 obtain⟨vo,hl,hQ⟩:=last;have key:∀(xs done:List D) (vs:List D),(done++xs).Perm (gl (.map es))→inv done vs→∃n0,∀n,n0≤n→j7 (a.ev (T n) n) ρ J (.map es) ps cE lo xs done vs=some vo:=by
  intro xs
  induction xs with
  |nil=>intro done vs hp hi;exact⟨0,fun n _=>by rw[hl done (by simpa using hp) vs hi];rfl⟩
  |cons x xs ih=>
   intro done vs hp hi;obtain⟨y,⟨ρ',rfl,dH⟩,n0,hn⟩:=step done x xs vs hp hi;obtain⟨n1,h1⟩:=ih (done++[x]) _ (by simpa using hp) dH;exact⟨max n0 n1,fun n hle=>by simp only[j7,hn n (by omega)];exact h1 n (by omega)⟩
 have lj:∀(L:List (List D)),(∀ys,ys∈L→ys.Perm (gl (.map es)))→∃n0,∀n,n0≤n→∀ys,ys∈L→j7 (a.ev (T n) n) ρ J (.map es) ps cE lo ys [] (lo.map ρ.o)=some vo:=by
  intro L
  induction L with
  |nil=>intro _;exact⟨0,fun n _ ys hy=>by cases hy⟩
  |cons y L ih=>
   intro hL;obtain⟨n0,gF⟩:=ih fun ys hy=>hL ys (dY _ hy);obtain⟨n1,h1⟩:=key y [] _ (by simpa using hL y (ej ..)) h0;refine⟨max n0 n1,fun n hle ys hy=>?_⟩;rcases cG.1 hy with e|hy
   ·subst e;exact h1 n (by omega)
   ·exact gF n (by omega) ys hy
 obtain⟨L,hL⟩:=Zk (gl (.map es));obtain⟨n0,hn⟩:=lj L fun ys hy=>(hL ys).1 hy;refine⟨_,hQ,n0,fun n hle=>?_⟩;simp only[PC.ev,vi];refine⟨vo,⟨by rw[he];rfl,fun ys hy=>?_⟩,rfl⟩;rw[he] at hy ⊢;exact hn n hle ys ((hL ys).2 hy)
theorem bounded {Q:Nat→Nat→Prop}:∀(L:Nat),(∀m,m≤L→∃n0,∀n,n0≤n→Q m n)→∃n0,∀n,n0≤n→∀m,m≤L→Q m n
 |0,h=>by
  obtain⟨n0,hn⟩:=h 0 (aU _)
  exact⟨n0,fun n hle m hm=>by obtain rfl:m=0:=by omega
                              exact hn n hle⟩
 |L+1,h=>by
  obtain⟨n0,hn⟩:=bounded L fun m hm=>h m (by omega);obtain⟨n1,h1⟩:=h (L+1) (aU _);refine⟨max n0 n1,fun n hle m hm=>?_⟩;by_cases e:m=L+1
  ·subst e;exact h1 n (by omega)
  ·exact hn n (by omega) m (by omega)
theorem ak.of_pc {tab:Nat→Option PC}{ext:Nat→Option (aJ→List D→Option D)}{f:Nat}{pc:PC}{ds:List D}{d:D}(hx:ext f=none)(ht:tab f=some pc)(h:aH (cH tab ext) pc (jt ds) (fun x=>x=.ret d)):ak (cH tab ext) f ds d:=by
 obtain⟨x,rfl,n0,hn⟩:=h;refine⟨n0+1,fun n hle=>?_⟩;obtain⟨k,rfl⟩:∃k,n=k+1:=⟨n-1,by omega⟩
 simp[cH,hx,ht,hn k (by omega)]
theorem ak.of_ext {tab:Nat→Option PC}{ext:Nat→Option (aJ→List D→Option D)}{f:Nat}{g:aJ→List D→Option D}{ds:List D}{d:D}(hx:ext f=some g)(h:∃n0,∀n,n0≤n→g (cH tab ext n) ds=some d):ak (cH tab ext) f ds d:=by
 obtain⟨n0,hn⟩:=h;refine⟨n0+1,fun n hle=>?_⟩;obtain⟨k,rfl⟩:∃k,n=k+1:=⟨n-1,by omega⟩
 simp[cH,hx,hn k (by omega)]
def DN (T:cA)(xs:List D)(m:Nat):cA:=fun n=>yldΦ (T n) xs m
theorem ak.yld {T:cA}{xs:List D}{m f:Nat}{ds:List D}{d:D}(h:ak T f ds d)(hf:f≠kS):ak (DN T xs m) f ds d:=by
 obtain⟨n0,hn⟩:=h;exact⟨n0,fun n hle=>by simp[DN,yldΦ,hf,hn n hle]⟩
theorem ak.answer {T:cA}{xs l:List D}{m i:Nat}(hl:l=xs.take (i+1))(hi:i<xs.length)(hm:i≤m):ak (DN T xs m) kS [.list l] (.v (.bool (decide (i<m)))):=by
 subst hl;refine⟨0,fun n _=>?_⟩;have h1:(xs.take (i+1)).length=i+1:=by rw[gp];omega
 simp only[DN,yldΦ,if_true,h1];rw[if_pos ⟨by omega,by omega,trivial⟩];rfl
theorem ak.of_it {tab:Nat→Option PC}{ext:Nat→Option (aJ→List D→Option D)}{f:Nat}{pc:PC}{J k:Nat}{spec:List D→List D}{ds:List D}(hx:ext f=some (sk pc J k spec))(hk:∀x,x∈spec ds→∃ds',x=.tup ds'∧ds'.length=k)
 (h:∀m,m≤(spec ds).length→aH (DN (cH tab ext) (spec ds) m) pc (xD J ds) (fun x=>x=.ret (.list ((spec ds).take (m+1))))):ak (cH tab ext) f ds (.list (spec ds)):=by
 refine ak.of_ext hx ?_
 obtain⟨n0,hn⟩:=bounded (Q:=fun m n=>pc.ev (yldΦ (cH tab ext n) (spec ds) m) n (xD J ds)=some (.ret (.list ((spec ds).take (m+1))))) (spec ds).length (fun m hm=>by
  obtain⟨x,rfl,n0,hn⟩:=h m hm;exact⟨n0,hn⟩)
 refine⟨n0,fun n hle=>?_⟩;unfold sk;rw[if_pos];exact⟨fun m hm=>⟨n,hn n hle m hm⟩,hk⟩
theorem yldΦ_mono {Φ Ψ:aJ}(h:∀f ds d,Φ f ds=some d→Ψ f ds=some d)(xs:List D)(m:Nat):∀f ds d,yldΦ Φ xs m f ds=some d→yldΦ Ψ xs m f ds=some d:=by
 intro f ds d e;unfold yldΦ at e ⊢;split at e
 ·rename_i hf;rw[if_pos hf];exact e
 ·rename_i hf;rw[if_neg hf];exact h f ds d e
theorem ak.fnOK {C:Ctx}{tab:Nat→Option PC}{ext:Nat→Option (aJ→List D→Option D)}(h:TabOK C tab ext){f:Nat}{s:Sig}{ds:List D}{d:D}(hs:C.sig f=some s)(hr:ak (cH tab ext) f ds d)(hm:oR s.mode=false:=by rfl):jP C f s ds d:=by
 obtain⟨n0,hn⟩:=hr;exact((Tb h n0).1 f ds d (hn n0 (aU _)) s hs).1 hm
def Le (Φ Ψ:aJ):Prop:=∀f ds d,Φ f ds=some d→Ψ f ds=some d
theorem PI.run_mono {Φ Ψ:aJ}(h:Le Φ Ψ){p:PI}{ρ ρ':Env}(hr:p.run Φ ρ=some ρ'):p.run Ψ ρ=some ρ':=by
 cases p with
 |setR t e=>exact hr
 |setO t e=>exact hr
 |chk e=>exact hr
 |call gs d f aa=>
  simp only[PI.run] at hr ⊢;cases hg:holds gs ρ<;>simp only[hg,cond_true,cond_false] at hr ⊢
  ·exact hr
  ·simp only[ax] at hr ⊢;obtain⟨x,hx,e⟩:=hr;exact⟨x,h _ _ _ hx,e⟩
 |callc gs d f aa=>
  simp only[PI.run] at hr ⊢;cases hg:holds gs ρ<;>simp only[hg,cond_true,cond_false] at hr ⊢
  ·exact hr
  ·split at hr
   ·simp only[ax] at hr ⊢;obtain⟨x,hx,e⟩:=hr;exact⟨x,h _ _ _ hx,e⟩
   ·cases hr
 |mcall j f aa=>
  simp only[PI.run,ax] at hr ⊢;obtain⟨x,hx,e⟩:=hr;exact⟨x,h _ _ _ hx,e⟩
theorem PI.runs_mono {Φ Ψ:aJ}(h:Le Φ Ψ):∀{l:List PI} {ρ ρ':Env},PI.runs Φ l ρ=some ρ'→PI.runs Ψ l ρ=some ρ'
 |[],ρ,ρ',hr=>hr
 |p::l,ρ,ρ',hr=>by
  simp only[PI.runs,au] at hr ⊢;obtain⟨x,hx,e⟩:=hr;exact⟨x,PI.run_mono h hx,PI.runs_mono h e⟩
theorem W0 {b c:Env→Option Out}(h:∀ρ x,b ρ=some x→c ρ=some x){ρ:Env}{lr lo:List Nat}:∀{n m:Nat} {vr vo:List D} {x:Out},n≤m→eP b ρ lr lo n vr vo=some x→eP c ρ lr lo m vr vo=some x
 |0,m,vr,vo,x,_,hr=>by simp[eP] at hr
 |n+1,m,vr,vo,x,hle,hr=>by
  obtain⟨m,rfl⟩:∃k,m=k+1:=⟨m-1,by omega⟩
  simp only[eP] at hr ⊢;cases hb:b (ρ.put lr vr lo vo) with
  |none=>rw[hb] at hr;cases hr
  |some y=>
   rw[h _ _ hb];rw[hb] at hr;cases y with
   |next ρ'=>exact W0 h (by omega) hr
   |exit id ρ'=>exact hr
   |ret d=>exact hr
theorem Ug {b c:Env→Option Out}(h:∀ρ x,b ρ=some x→c ρ=some x){ρ:Env}{ps lo:List Nat}{rt:Option PE}:∀{xs vo:List D} {x:Out},fw b ρ ps lo rt xs vo=some x→fw c ρ ps lo rt xs vo=some x
 |[],vo,x,hr=>hr
 |y::xs,vo,x,hr=>by
  simp only[fw] at hr ⊢;cases hb:b (ρ.put ps (partsOf ps y) lo vo) with
  |none=>rw[hb] at hr;cases hr
  |some z=>
   rw[h _ _ hb];rw[hb] at hr;cases z with
   |next ρ'=>exact Ug h hr
   |exit id ρ'=>exact hr
   |ret d=>cases hr
theorem Zj {b c:Env→Option Out}(h:∀ρ x,b ρ=some x→c ρ=some x){ρ:Env}{J:Nat}{es:D}{ps cE lo:List Nat}:∀{xs done vo kQ:List D},j7 b ρ J es ps cE lo xs done vo=some kQ→j7 c ρ J es ps cE lo xs done vo=some kQ
 |[],_,_,_,hr=>hr
 |x::xs,done,vo,kQ,hr=>by
  simp only[j7] at hr ⊢;split at hr
  ·rename_i ρ' hb;rw[h _ _ hb];exact Zj h hr
  ·cases hr
theorem PC.ev_mono {Φ Ψ:aJ}(h:Le Φ Ψ){n m:Nat}(hle:n≤m):∀{c:PC} {ρ:Env} {x:Out},c.ev Φ n ρ=some x→c.ev Ψ m ρ=some x:=by
 intro c
 induction c with
 |skip=>intro ρ x hr;exact hr
 |is l=>
  intro ρ x hr;simp only[PC.ev,ax] at hr ⊢;obtain⟨y,hy,e⟩:=hr;exact⟨y,PI.runs_mono h hy,e⟩
 |seq a b aX cZ=>
  intro ρ x hr;simp only[PC.ev] at hr ⊢;cases ha:a.ev Φ n ρ with
  |none=>rw[ha] at hr;cases hr
  |some y=>rw[aX ha];rw[ha] at hr;cases y<;>first|exact cZ hr|exact hr
 |ite c lr lo a b aX cZ=>
  intro ρ x hr;simp only[PC.ev] at hr ⊢;cases hc:(c.ev ρ).b<;>simp only[hc,cond_true,cond_false] at hr ⊢
  ·cases ha:b.ev Φ n ρ with
   |none=>rw[ha] at hr;cases hr
   |some y=>rw[cZ ha];rw[ha] at hr;exact hr
  ·cases ha:a.ev Φ n ρ with
   |none=>rw[ha] at hr;cases hr
   |some y=>rw[aX ha];rw[ha] at hr;exact hr
 |block id lr lo a aX=>
  intro ρ x hr;simp only[PC.ev] at hr ⊢;cases ha:a.ev Φ n ρ with
  |none=>rw[ha] at hr;cases hr
  |some y=>rw[aX ha];rw[ha] at hr;exact hr
 |loop lr lo a aX=>intro ρ x hr;exact W0 (fun ρ x=>aX) hle hr
 |exit id=>intro ρ x hr;exact hr
 |ret e=>intro ρ x hr;exact hr
 |each e ps lo rt a aX=>intro ρ x hr;exact Ug (fun ρ x=>aX) hr
 |meach J ps cE lo a aX=>
  intro ρ x hr;simp only[PC.ev,vi] at hr ⊢;obtain⟨vo,⟨h1,h2⟩,rfl⟩:=hr;exact⟨vo,⟨h1,fun ys hy=>Zj (fun ρ x=>aX) (h2 ys hy)⟩,rfl⟩
theorem Ta {tab:Nat→Option PC}{ext:Nat→Option (aJ→List D→Option D)}(hx:∀f g,ext f=some g→∀Φ Ψ,Le Φ Ψ→∀ds d,g Φ ds=some d→g Ψ ds=some d):∀{n m:Nat},n≤m→Le (cH tab ext n) (cH tab ext m)
 |0,m,_=>fun f ds d h=>by simp[cH] at h
 |n+1,m,hle=>by
  obtain⟨m,rfl⟩:∃k,m=k+1:=⟨m-1,by omega⟩
  have ih:=Ta (tab:=tab) hx (n:=n) (m:=m) (by omega);intro f ds d h;simp only[cH] at h ⊢;split at h
  ·rename_i g hg;exact hx f g hg _ _ ih ds d h
  ·split at h
   ·rename_i pc _;cases he:pc.ev (cH tab ext n) n (jt ds) with
    |none=>rw[he] at h;cases h
    |some x=>
     rw[PC.ev_mono ih (by omega) he];rw[he] at h;exact h
   ·cases h
theorem ajM {pc:PC}{J k:Nat}{spec:List D→List D}{Φ Ψ:aJ}(h:Le Φ Ψ){ds:List D}{d:D}(e:sk pc J k spec Φ ds=some d):sk pc J k spec Ψ ds=some d:=by
 unfold sk at e ⊢;split at e
 ·rename_i hs;rw[if_pos]
  ·exact e
  ·exact⟨fun m hm=>let⟨N,hN⟩:=hs.1 m hm;⟨N,PC.ev_mono (yldΦ_mono h _ m) (aU _) hN⟩,hs.2⟩
 ·cases e
theorem ak.of_at {tab:Nat→Option PC}{ext:Nat→Option (aJ→List D→Option D)}(hx:∀f g,ext f=some g→∀Φ Ψ,Le Φ Ψ→∀ds d,g Φ ds=some d→g Ψ ds=some d)(n:Nat){f:Nat}{ds:List D}{d:D}(h:cH tab ext n f ds=some d):ak (cH tab ext) f ds d:=
 ⟨n,fun m hm=>Ta hx hm f ds d h⟩
theorem Env.setR_r (ρ:Env)(t u:Nat)(d:D):(ρ.setR t d).r u=if u=t then d else ρ.r u:=by simp only[Env.setR,eX]
theorem Env.setO_o (ρ:Env)(t u:Nat)(d:D):(ρ.setO t d).o u=if u=t then d else ρ.o u:=by simp only[Env.setO,eX]
theorem Env.join_r (ρ ρ':Env)(lr lo:List Nat)(u:Nat):(ρ.join lr lo ρ').r u=if u∈lr then ρ'.r u else ρ.r u:=by simp only[Env.join,Env.put,qP]
theorem Env.join_o (ρ ρ':Env)(lr lo:List Nat)(u:Nat):(ρ.join lr lo ρ').o u=if u∈lo then ρ'.o u else ρ.o u:=by simp only[Env.join,Env.put,qP]
theorem HK (f:Nat→D)(i:Nat)(is:List Nat)(x:D)(xs:List D)(u:Nat):putL f (i::is) (x::xs) u=if u=i then x else putL f is xs u:=by simp only[putL,eX]
theorem HL (f:Nat→D)(xs:List D)(u:Nat):putL f [] xs u=f u:=by cases xs<;>rfl
theorem aiv (g:Nat×Bool)(gs:List (Nat×Bool))(ρ:Env):holds (g::gs) ρ=((ρ.r g.1).b==g.2&&holds gs ρ):=rfl
theorem D.tget_tup (x:List D)(i:Nat):(D.tup x).tget i=x.getD i .none:=rfl
theorem D.c_agg (x:List D)(i:Nat):(D.agg x).c i=x.getD i .none:=rfl
end Cx
