/-
  Shared texts of this claim.
-/
import Derived.Test.YtmnnipoiigfapaaGreatDoorKAH
import Derived.Below
import Derived.ChangeSame
import Derived.WalkKit
import Derived.ProofKit
import Derived.OpenShut
import Derived.Carry
import Derived.JoinedCond
set_option linter.unusedSimpArgs false
set_option linter.unusedVariables false
noncomputable section
namespace Cx
open Go Go.RowKit
def UL (m:Nat)(s:Sig):Snap:=⟨s.args.map .dat++List.replicate (m-s.args.length) .none,[]⟩
def kr (ds:List D):Env:=⟨fun t=>ds.getD t .none,fun _=>.none⟩
def th (C:Ctx)(fn:Func)(s:Sig)(ids:List Nat)(S0:Snap):Option PC:=
 match fn.body with
 |some c=>
  (comp C fn s fn.ntmps ids (Jk C fn.ntmps ids) false c S0).bind fun r=>
    match r.out with
    |none=>some r.pc
    |some S=>(wY C fn s (S.st ids)).map fun e=>.seq r.pc (.ret e)
 |none=>none
def Lw (m:Nat)(shs:List Sh)(obs:List (Nat×Ob))(ids:List Nat):Snap:=⟨shs++List.replicate (m-shs.length) .none,ids.map (dU obs)⟩
def GA (shs:List Sh)(obs:List (Nat×Ob))(ds:List D):Env:=l8 obs ds (ds.drop shs.length)
def Da (l:List Nat):Nat→List Sh→Bool
 |_,[]=>true
 |t,s::ss=>(mO s|| !eZ l t)&&Da l (t+1) ss
def Ay:List (Nat×Ob)→Nat→List PI
 |[],_=>[]
 |x::l,k=>Ay l (k+1)++[.setO x.1 (.r k)]
theorem aa7 {Φ:aP}:∀(l:List (Nat×Ob)) (k:Nat) (ρ:Env) (ds:List D),(∀i,ρ.r (k+i)=ds.getD i .none)→(∀j,ρ.o j=.none)→PI.runs Φ (Ay l k) ρ=some ⟨ρ.r,fun j=>mR l ds j⟩
 |[],k,ρ,ds,h,ho=>by
  simp only[Ay,PI.runs]
  congr 1
  cases ρ with|mk r o=>congr 1;funext j;exact ho j
 |x::l,k,ρ,ds,h,ho=>by
  simp only[Ay,nX]
  rw[aa7 l (k+1) ρ ds.tail (fun i=>by
   have:=h (i+1);rw[uZ,AY 1 i,this];cases ds<;>simp) ho]
  simp only[jN,PI.runs,PI.run,PE.ev,Env.setO]
  congr 1
  congr 1
  funext j;rw[eN];have h0:=h 0;simp only[hG] at h0;cases ds with
  |nil=>
   have e:∀m j,mR m [] j=D.none:=fun m j=>by cases m<;>rfl
   rw[h0];split<;>simp[e]
  |cons d ds=>
   simp only[mR,List.tail_cons];by_cases hj:j=x.1
   ·subst hj;rw[if_pos rfl,gy,h0];rfl
   ·rw[if_neg hj,dY (fun e=>hj e.symm)];rfl
theorem aoa {Φ:aP}(shs:List Sh)(obs:List (Nat×Ob))(ds:List D):PI.runs Φ (Ay obs shs.length) (kr ds)=some (GA shs obs ds):=by
 rw[aa7 obs shs.length (kr ds) (ds.drop shs.length) (fun i=>by simp[kr,aK]) (fun j=>rfl)];rfl
def Fe (fn:Func):List Nat:=match fn.body with|some c=>cm c|none=>[]
def ui:List (Nat×Ob)→Bool
 |[]=>true
 |x::l=>(match x.2 with|.tr=>false|_=>true)&&ui l
def lL (C:Ctx)(fn:Func)(s:Sig)(ids:List Nat):Option PC:=
 match C.yl with
 |none=>
  match s.mode with
  |.ob shs obs=>bif Nat.ble shs.length fn.ntmps&&Da (Fe fn) 0 shs&&shs.all sq&&ui obs then(th C fn s ids (Lw fn.ntmps shs obs ids)).map fun pc=>.seq (.is (Ay obs shs.length)) pc else none
  |_=>bif Nat.ble s.args.length fn.ntmps then th C fn s ids (UL fn.ntmps s) else none
 |some _=>none
theorem Xl:∀(ids:List Nat) (j:Nat),di ids [] j=.dead
 |[],_=>rfl
 |_::_,_=>rfl
theorem Lf {C:Ctx}{Φ:aP}(aW:dj C)(hΦ:cT C Φ)(fu:gf C Φ){fn:Func}{s:Sig}{ids:List Nat}{S0:Snap}{pc:PC}{c:Code}(hb:fn.body=some c)(hc:th C fn s ids S0=some pc){w0:World}{σ0:Base}(lQ:σ0.fin)(hC:CtxOK C σ0)(hY:ou C Φ w0 σ0)
 {N:Nat} {ρ:Env} {d:D} {a:Act} {w:World} (hn:a.tmps.size=fn.ntmps) (hg:Good C w0 σ0 (S0.st ids) ρ (fun _=>False) a w) (he:pc.ev Φ N ρ=some (.ret d)):
 c.wpIn (FR none) 0 C.P (fun e a' w'=>(e=.normal∨e=.ret)∧pS C w0 σ0 fn s d a'.tmps a'.defers w'∧SameBut (fun t=>t∈cm c) a a') a w:=by
 unfold th at hc;rw[hb] at hc;simp only[au] at hc;obtain⟨r,hr,hc⟩:=hc;have M1:=fun x hx=>adF (fn:=fn) (s:=s) (N:=N) fu (anM (n:=fn.ntmps) (ids:=ids) aW hΦ) c false S0 r hr none w0 σ0 (fun t=>t∈cm c) ρ x a w (fun _=>⟨rfl,lQ⟩) hC hY (fun _ h=>h) hn hg hx;split at hc
 ·rename_i jV;cases hc;refine wpIn_mono (M1 (.ret d) he) fun e a' w' ho=>?_;cases e with
  |normal=>obtain⟨_,_,h,_⟩:=ho;cases h
  |exit id=>obtain⟨_,_,h,_⟩:=ho;cases h
  |ret=>obtain⟨d',h,h2⟩:=ho;cases h;exact⟨.inr rfl,h2⟩
  |_=>exact ho.elim
 ·rename_i S jV;simp only[az] at hc;obtain⟨pe,tP,rfl⟩:=hc;simp only[PC.ev] at he;split at he
  ·rename_i ρ1 h1;cases he;refine wpIn_mono (M1 (.next ρ1) h1) fun e a' w' ho=>?_;cases e with
   |normal=>
    obtain⟨ρ2,S2,e1,e2,oT,ij⟩:=ho;cases e1;rw[jV] at e2;cases e2;obtain⟨σ2,own,hv,hi⟩:=ij;exact⟨.inl rfl,Inv.retD hC (fun _=>rfl) lQ tP _ hi rfl,oT⟩
   |exit id=>obtain⟨_,_,h,_⟩:=ho;cases h
   |ret=>obtain⟨d',h,h2⟩:=ho;cases h
   |_=>exact ho.elim
  ·rename_i aB;refine wpIn_mono (M1 (.ret d) he) fun e a' w' ho=>?_;cases e with
   |normal=>obtain⟨_,_,h,_⟩:=ho;cases h
   |exit id=>obtain⟨_,_,h,_⟩:=ho;cases h
   |ret=>obtain⟨d',h,h2⟩:=ho;cases h;exact⟨.inr rfl,h2⟩
   |_=>exact ho.elim
theorem pS.leaves {C:Ctx}{w0:World}{σ0:Base}{fn:Func}{s:Sig}{d:D}{tmps:Array Value}{R:Ending→World→Prop}(hR:∀w',Kb C w0 σ0 fn s d {tmps:=tmps,defers:=[]} w'→∃v,(results fn tmps).run C.P w'=.ok v w'∧R (.returned v) w'):
 ∀(ds:List Deferred) (w:World),pS C w0 σ0 fn s d tmps ds w→LeavesInM (FR none) 0 C.P fn tmps R ds .returning w
 |[],w,h=>hR w h
 |x::ds,w,⟨D,h1,h2,h3⟩=>⟨by simp,.inl ⟨D,_,h1,run_takeDeferred h2,pS.leaves hR ds _ h3⟩⟩
theorem aeQ {C:Ctx}{σ:Im}{w:World}{args:Array Value}{ds:List D}{s:Sig}{m:Nat}{ids:List Nat}(aA:σ.ok w)(ha:oe C σ s.args args.toList ds):
 Good C w (Base.mk0 σ w.heap.size) ((UL m s).st ids) (kr ds) (fun _=>False) {tmps:=args++Array.replicate (m-args.size) undef,defers:=[]} w:=by
 obtain⟨h1,h2,h3⟩:=ha;have aJ:args.size=s.args.length:=by simpa using h1
 refine⟨σ,fun _=>none,fun _=>undef,trivial,aA,.refl σ,fun _ k e=>(aA.m k _ e).lt,fun _ _ _ h=>.inl h,fun _ _ h=>.inl h,.refl _ _,bf _,(fun k j h=>by cases h),fun t=>?_,fun j=>?_,fun t gs s' e=>absurd e (Snap.noOpt _ _ t gs s'),
  .none,fun _=>False,fun _=>False,⟨⟨fun _=>id,fun _=>id⟩,(fun k j h=>by cases h),fun _ _ _ _=>id,fun _ _ _=>id,fun _ _ _=>id⟩,fun j hj=>?_⟩
 ·show aH C _ _ σ _ (cr ((s.args.map Sh.dat++List.replicate (m-s.args.length) Sh.none).getD t .none)) _ _;rw[aK];by_cases ht:t<s.args.length
  ·rw[kl (by simpa using ht),cw,bA ht];simp only[jO,jj,cr];have:=h3 t _ (bA ht);have e1:(args++Array.replicate (m-args.size) undef).getD t undef=args.toList.getD t undef:=by
        simp only[dL,aK];rw[Tj (by omega)];simp
   show aH C _ _ σ _ (.dat _) ((args++Array.replicate (m-args.size) undef).getD t undef) (ds.getD t .none);rw[e1];exact this
  ·rw[km (by simpa using ht),TD];split<;>trivial
 ·show cd C _ _ σ _ _ w _ j (di ids [] j);rw[Xl];trivial
 ·change di ids [] j=.tr at hj;rw[Xl] at hj;cases hj
theorem Lg {C:Ctx}{Φ:aP}(aW:dj C)(hΦ:cT C Φ)(fu:gf C Φ){f:Nat}{fn:Func}{s:Sig}{ids:List Nat}{pc:PC}(hf:C.P.funcs[f]?=some fn)(hc:lL C fn s ids=some pc){N:Nat}{ds:List D}{d:D}(cJ:pg s.mode=false)
 (he:pc.ev Φ N (kr ds)=some (.ret d)):gK C f s ds d:=by
 intro σ w args aA hC ha;unfold lL at hc;split at hc
 case h_2=>cases hc
 rename_i jZ;split at hc
 case h_1=>rename_i e;rw[e] at cJ;cases cJ
 cases hle:Nat.ble s.args.length fn.ntmps<;>simp only[hle,cond_true,cond_false] at hc
 ·cases hc
 have Cu:=ji hle;have aJ:args.size=s.args.length:=by simpa using ha.1
 cases hb:fn.body with
 |none=>unfold th at hc;rw[hb] at hc;cases hc
 |some c=>
 refine(callsIn_wide (n:=0)).1 (callsIn_of_wp_marks (F:=FR none) hf hb trivial ?_);have hg:=aeQ (C:=C) (m:=fn.ntmps) (ids:=ids) aA ha;have hn:(args++Array.replicate (fn.ntmps-args.size) undef).size=fn.ntmps:=by simp;omega
 refine wpIn_mono (Lf aW hΦ fu hb hc (σ0:=Base.mk0 σ w.heap.size) trivial hC (fun J ys e=>by rw[jZ] at e;cases e) hn hg he) fun e a' w' ho=>?_
 have main:=pS.leaves (R:=fun e w'=>∃v σ',e=.returned v∧σ.le σ'∧σ'.ok w'∧Below w.heap.size w w'∧
  (∀k o x,σ'.c k o=some x→σ.c k o=some x∨w.heap.size≤k)∧(∀k x,σ'.m k=some x→σ.m k=some x∨w.heap.size≤k)∧lH C s σ' w w' v d) (fun w2 CQ=>by
  obtain⟨v,σ',_,h2,h3,h4,h5,h6,h7,h8⟩:=CQ;exact⟨v,h2,v,σ',rfl,h3,h4,h5,h6,h7,h8⟩) _ _ ho.2.1
 rcases ho.1 with rfl|rfl<;>exact main
def Base.mkO (σ:Im)(own:Nat→Option Nat)(w:World)(cx:Nat→Prop):Base:=
 {σ with
  B:=0
  fin:=True
  F:=fun _ fx jQ w'=>(∀k,fx k↔(k<w.heap.size∧own k=none))∧(∀k,jQ k↔(fx k∧cx k))∧w.heap.size≤w'.heap.size∧∀k,fx k→w'.heap[k]?=w.heap[k]?
  lt:=fun t' fx cx w' h k hk=>u7 ((h.1 k).1 hk).1 h.2.2.1
  sub:=fun t' fx cx w' h k hk=>((h.2.1 k).1 hk).1
  keep:=fun t' fx cx w' kh h hb hs=>⟨h.1,h.2.1,lG h.2.2.1 hb.size,fun k hk=>(hs k hk).trans (h.2.2.2 k hk)⟩}
theorem WU {l:List Nat}:∀{shs:List Sh} {k:Nat},Da l k shs=true→∀(t:Nat) (s:Sh),shs[t]?=some s→mO s=false→(k+t)∉l
 |[],k,_,t,s,h,_=>by simp at h
 |x::shs,k,hk,t,s,h,hd=>by
  simp only[Da,ak,gr,gd] at hk;cases t with
  |zero=>
   simp at h;subst h;rcases hk.1 with h1|h1
   ·rw[hd] at h1;cases h1
   ·intro hm;rw[hG] at hm;rw[(ph _ _).2 hm] at h1;cases h1
  |succ t=>
   simp at h;have:=WU hk.2 t s h hd
   rwa [uZ,AY 1 t] at this
theorem NG (obs:List (Nat×Ob))(j:Nat):∀ids:List Nat,di ids (ids.map (dU obs)) j=.dead∨di ids (ids.map (dU obs)) j=dU obs j
 |[]=>.inl rfl
 |i::is=>by
  simp only[gx,di];cases hb:Nat.beq i j
  ·exact NG obs j is
  ·right;rw[ay hb];rfl
theorem XY:∀{l:List (Nat×Ob)},ui l=true→∀x,x∈l→x.2≠.tr
 |[],_,x,hx=>by cases hx
 |y::l,h,x,hx=>by
  simp only[ui,ak] at h;rcases cD.1 hx with rfl|hx
  ·intro e;rw[e] at h;cases h.1
  ·exact XY h.2 x hx
theorem XZ:∀{l:List (Nat×Ob)},ui l=true→∀j,dU l j≠.tr
 |[],_,j,e=>by cases e
 |x::l,h,j,e=>by
  simp only[ui,ak] at h;simp only[dU] at e;cases hb:Nat.beq x.1 j<;>simp only[hb,cond_true,cond_false] at e
  ·exact XZ h.2 j e
  ·have h1:=h.1;rw[e] at h1;cases h1
theorem aeP {C:Ctx}{σ:Im}{own:Nat→Option Nat}{hv:Nat→Value}{w w0:World}{args:Array Value}{cx:Nat→Prop}{shs:List Sh}{obs:List (Nat×Ob)}{ds:List D}{m:Nat}{ids:List Nat}(hN:w0.heap.size≤w.heap.size)(Ca:Below 0 w0 w)(aA:σ.ok w)(bk:∀k,σ.m k≠some cO)(aJ:args.size=shs.length)
 (bY:∀k j,own k=some j→w0.heap.size≤k∧k<w.heap.size∧(∀o,σ.c k o=none)∧σ.m k=none) (ky:∀k,cx k→k<w.heap.size∧own k=none∧(∀o,σ.c k o=none)∧σ.m k=none) (rX:ui obs=true) (eX:shs.all sq=true)
 (h1:∀t,aH C (fG shs obs) (GA shs obs ds) σ hv (shs.getD t .none) (args.getD t undef) (ds.getD t .none)) (h2:∀j,cd C (fG shs obs) (GA shs obs ds) σ own hv w w0.heap.size j (dU obs j)):
 Good C w0 (Base.mkO σ own w cx) ((Lw m shs obs ids).st ids) (GA shs obs ds) (fun _=>False) {tmps:=args++Array.replicate (m-args.size) undef,defers:=[]} w:=by
 have qf:Compat (fG shs obs) hv ((Lw m shs obs ids).st ids) hv:=⟨fun _=>bf _,fun _ _=>rfl⟩
 refine⟨σ,own,hv,trivial,aA,.refl σ,fun _ k e=>absurd e (bk k),fun _ _ _ h=>.inl h,fun _ _ h=>.inl h,Ca,ot _,bY,fun t=>?_,fun j=>?_,fun t gs s' e=>absurd e (Snap.noOpt _ _ t gs s'),
  .none,(fun k=>k<w.heap.size∧own k=none),cx,⟨⟨fun _=>Iff.rfl,fun k=>⟨fun h=>⟨⟨(ky k h).1,(ky k h).2.1⟩,h⟩,fun h=>h.2⟩,bf _,fun _ _=>rfl⟩,(fun k j h hf=>by rw[hf.2] at h;cases h),(fun k o x e hc=>by rw[(ky k hc).2.2.1 o] at e;cases e),(fun k x e hc=>by rw[(ky k hc).2.2.2] at e;cases e),fun k e=>absurd e (bk k)⟩,fun j hj=>?_⟩
 ·show aH C _ _ σ _ (cr ((shs++List.replicate (m-shs.length) Sh.none).getD t .none)) _ _;refine JO ?_;rw[aK];by_cases ht:t<shs.length
  ·rw[kl ht];have:=h1 t;rw[aK (l:=shs)] at this;have e1:(args++Array.replicate (m-args.size) undef).getD t undef=args.getD t undef:=by
        simp only[dL];rw[Tj (by omega)]
   show aH C _ _ σ _ _ ((args++Array.replicate (m-args.size) undef).getD t undef) (ds.getD t .none);rw[e1];refine aH.mono' (.refl σ) qf (fun gs s' e=>?_) this;have hp:=bE.1 eX _ (dA ht);rw[bA ht] at e;simp only[jj] at e;rw[e] at hp;cases hp
  ·rw[km (by omega),TD];split<;>trivial
 ·show cd C _ _ σ _ _ w _ j (di ids (ids.map (dU obs)) j);rcases NG obs j ids with e|e
  ·rw[e];trivial
  ·rw[e];exact(h2 j).mono (.refl σ) qf rfl rfl (fun k hk=>⟨hk,rfl⟩)
 ·change di ids (ids.map (dU obs)) j=.tr at hj;rcases NG obs j ids with e|e
  ·rw[e] at hj;cases hj
  ·rw[e] at hj;exact absurd hj (XZ rX j)
def Gx (w:World)(N:Nat):World:={w with heap:=w.heap.extract 0 N}
theorem adz {C:Ctx}{Φ:aP}(aW:dj C)(hΦ:cT C Φ)(fu:gf C Φ){f:Nat}{fn:Func}{s:Sig}{ids:List Nat}{pc:PC}(hf:C.P.funcs[f]?=some fn)(hc:lL C fn s ids=some pc){N:Nat}{ds:List D}{d:D}{shs:List Sh}{obs:List (Nat×Ob)}(cJ:s.mode=.ob shs obs)
 (he:pc.ev Φ N (kr ds)=some (.ret d)):gu C f shs obs s.res ds d:=by
 unfold lL at hc;split at hc
 case h_2=>cases hc
 rename_i jZ;rw[cJ] at hc;simp only at hc;cases hle:(Nat.ble shs.length fn.ntmps&&Da (Fe fn) 0 shs&&shs.all sq&&ui obs)<;>simp only[hle,cond_true,cond_false] at hc
 ·cases hc
 simp only[ak] at hle;obtain⟨⟨⟨l1,l2⟩,l3⟩,l4⟩:=hle;refine gu.of (XY l4) ?_;intro B σ own hv w args cx _ aA hC bk hB aJ bY ky h1 h2;simp only[az] at hc;obtain⟨pc,hc,rfl⟩:=hc;simp only[PC.ev,aoa,jO] at he;have Cu:=ji l1;cases hb:fn.body with
 |none=>unfold th at hc;rw[hb] at hc;cases hc
 |some c=>
 have bB:Fe fn=cm c:=by unfold Fe;rw[hb]
 rw[bB] at l2;refine(callsIn_wide (n:=0)).1 (callsIn_of_wp_marks (F:=FR none) hf hb trivial ?_);have qt:(Gx w B).heap.size=B:=by simp[Gx];omega
 have Ca:Below 0 (Gx w B) w:=⟨rfl,rfl,rfl,by rw[qt];exact hB,fun k hk=>by omega⟩
 have hg:=aeP (C:=C) (m:=fn.ntmps) (ids:=ids) (w0:=Gx w B) (cx:=cx) (by rw[qt];exact hB) Ca aA bk aJ (by rw[qt];exact bY) ky l4 l3 h1 (by rw[qt];exact h2);have hn:(args++Array.replicate (fn.ntmps-args.size) undef).size=fn.ntmps:=by simp;omega
 refine wpIn_mono (Lf aW hΦ fu hb hc (σ0:=Base.mkO σ own w cx) trivial hC (fun J ys e=>by rw[jZ] at e;cases e) hn hg he) fun e a' w' ho=>?_;obtain⟨ju,CQ,iU⟩:=ho
 have main:=pS.leaves (R:=fun e w'=>∃v σ' own' hv' dr os,e=.returned v∧d=.tup (dr::os)∧os.length=obs.length∧σ.le σ'∧σ'.ok w'∧Below 0 w w'∧
  (∀k,k<w.heap.size→own k=none→w'.heap[k]?=w.heap[k]?)∧
  (∀k o x,σ'.c k o=some x→(σ.c k o=some x∨B≤k)∧¬cx k)∧(∀k x,σ'.m k=some x→(σ.m k=some x∨B≤k)∧¬cx k)∧(∀k,σ'.m k=some cO→B≤k→k<w.heap.size→own k≠none)∧
  (∀k j,own' k=some j→B≤k∧k<w'.heap.size∧(∀o,σ'.c k o=none)∧σ'.m k=none∧(k<w.heap.size→own k≠none))∧
  (∀(t:Nat) (sh:Sh),shs[t]?=some sh→mO sh=false→aH C (fG shs obs) (l8 obs ds os) σ' hv' sh (args.getD t undef) (ds.getD t .none))∧
  (∀j,cd C (fG shs obs) (l8 obs ds os) σ' own' hv' w' B j (dU obs j))∧Rep C.cap σ' s.res v dr) (fun w2 hr=>by
  obtain⟨v,σ',⟨own',t,fx,jQ,cS,_,HC⟩,ah,jx,MJ,B8,cP,cI,_⟩:=hr;obtain⟨hv',dr,os,e1,e2,e3,e4,e5,e6⟩:=HC shs obs cJ;obtain⟨f1,f2,f3,f4⟩:=cS.F;have VF:∀k,cx k→jQ k:=fun k hk=>(f2 k).2 ⟨(f1 k).2 ⟨(ky k hk).1,(ky k hk).2.1⟩,hk⟩;rw[qt] at cP cI e3 e5
  refine⟨v,ah,v,σ',own',hv',dr,os,rfl,e1,e2,jx,MJ,⟨B8.os,B8.tape,B8.output,f3,fun k hk=>by omega⟩,fun k hk hn=>f4 k ((f1 k).2 ⟨hk,hn⟩),fun k o x e=>⟨cP k o x e,fun hk=>cS.c k o x e (VF k hk)⟩,fun k x e=>⟨cI k x e,fun hk=>cS.m k x e (VF k hk)⟩,
   fun k e LU hk hn=>cS.d k e (by rw[qt];exact LU) ((f1 k).2 ⟨hk,hn⟩),fun k j hk=>?_,fun t sh hs hd=>?_,fun j=>?_,e6⟩
  ·obtain⟨g1,g2,g3,g4⟩:=e3 k j hk;exact⟨g1,g2,g3,g4,fun af hn=>cS.own k j hk ((f1 k).2 ⟨af,hn⟩)⟩
  ·have:=e4 t sh hs hd (ds.getD t .none);have af:t<shs.length:=(eh.1 hs).1;have mJ:t∉cm c:=by have:=WU l2 t sh hs hd;simpa using this
   have bZ:a'.tmps.getD t undef=args.getD t undef:=by
        rw[iU.get t mJ];simp only[dL];rw[Tj (by omega)]
   simp only at this;rw[bZ] at this;have hp:=bE.1 l3 _ (lF hs);exact aH.mono' (.refl σ') ⟨fun _=>bf _,fun _ _=>rfl⟩ (fun gs s' e=>by rw[e] at hp;cases hp) this
  ·exact cd.mono (S:=fG shs obs) (S':=fG shs obs) (ρ:=l8 obs [] os) (ρ':=l8 obs ds os) (hv:=hv') (hv':=hv') (own:=own') (own':=own') (w:=w2) (w':=w2) (.refl σ') ⟨fun _=>bf _,fun _ _=>rfl⟩ rfl rfl (fun k hk=>⟨hk,rfl⟩) (e5 j)) _ _ CQ
 rcases ju with rfl|rfl<;>exact main
def UK (m:Nat)(cts:List Ty)(J:Nat)(ids:List Nat):Snap:=⟨.yv::(cts.map .dat++List.replicate (m-(cts.length+1)) .none),ids.map fun j=>bif Nat.beq j J then .tr else .dead⟩
def yJ (J:Nat)(ds:List D):Env:=⟨fun t=>(D.none::ds).getD t .none,fun j=>bif Nat.beq j J then .list [] else .none⟩
def Bp (C:Ctx)(fn:Func)(cts ys:List Ty)(J:Nat)(ids:List Nat):Option PC:=
 match C.yl,C.sig mw,C.cap mw with
 |none,none,none=>bif Nat.ble (cts.length+1) fn.ntmps then th {C with yl:=some (J,ys)} fn ⟨[],.tup [],.it J⟩ ids (UK fn.ntmps cts J ids) else none
 |_,_,_=>none
open Classical in
def yldΦ (Φ:aP)(xs:List D)(m:Nat):aP:=fun f ds=>
 if f=mw then(match ds with|[.list l]=>if 0<l.length∧l.length≤m+1∧l=xs.take l.length then some (.v (.bool (decide (l.length≤m)))) else none|_=>none)
 else Φ f ds
theorem yldΦ_at {Φ:aP}{xs l ds:List D}{d:D}{m:Nat}(h:yldΦ Φ xs m mw [.list (l++[.tup ds])]=some d):l.length≤m∧l=xs.take l.length∧xs[l.length]?=some (.tup ds)∧l++[.tup ds]=xs.take (l.length+1)∧d=.v (.bool (decide (l.length<m))):=by
 simp only[yldΦ,if_true] at h;split at h
 ·rename_i hc;obtain⟨h1,h2,h3⟩:=hc;simp only[ko,m8,xn,gz] at h2 h3 h;have hx:xs[l.length]?=some (.tup ds):=by
   have:(xs.take (l.length+1))[l.length]?=some (.tup ds):=by rw[←h3];simp
   rw[fj] at this;simpa using this
  have hl:l=xs.take l.length:=by
   have:=congrArg (List.take l.length) h3;simpa [List.take_take] using this
  refine⟨by omega,hl,hx,h3,?_⟩;cases h
  congr 2
 ·cases h
theorem cT.yl {C:Ctx}{Φ:aP}(h:cT C Φ){y:Option (Nat×List Ty)}{v:Value}{xs:List D}{m:Nat}(hs:C.sig mw=none):cT {C with yl:=y,yv:=v} (yldΦ Φ xs m):=by
 intro f ds d e s er;have aB:f≠mw:=fun e'=>by subst e';change C.sig mw=some s at er;rw[hs] at er;cases er
 simp only[yldΦ,if_neg aB] at e;obtain⟨h1,h2⟩:=h f ds d e s er;exact⟨fun hm σ w args aA hC ha=>h1 hm σ w args aA ⟨hC.glob⟩ ha,fun shs obs hm=>(h2 shs obs hm).ctx rfl rfl rfl⟩
theorem lz.yl {C:Ctx}{y:Option (Nat×List Ty)}{v:Value}{f:Nat}{cts ys:List Ty}{ds xs:List D}(h:lz C f cts ys ds xs):lz {C with yl:=y,yv:=v} f cts ys ds xs:=
 fun σ w yv vs F fx cx m aA hC=>h σ w yv vs F fx cx m aA ⟨hC.glob⟩
theorem gf.yl {C:Ctx}{Φ:aP}(h:gf C Φ){y:Option (Nat×List Ty)}{v:Value}{xs:List D}{m:Nat}(hs:C.cap mw=none):gf {C with yl:=y,yv:=v} (yldΦ Φ xs m):=by
 intro f cs ys hc hi;have aB:f≠mw:=fun e'=>by subst e';change C.cap mw=some cs at hc;rw[hs] at hc;cases hc
 obtain⟨h1,h2⟩:=h f cs ys hc hi;refine⟨h1,fun ds d e=>?_⟩;simp only[yldΦ,if_neg aB] at e;obtain⟨xs,e1,e2,e3⟩:=h2 ds d e;exact⟨xs,e1,e2,e3.yl⟩
def Tu (Φ:aP)(pc:PC)(J:Nat)(ds xs:List D):Prop:=∀m,m≤xs.length→∃N,pc.ev (yldΦ Φ xs m) N (yJ J ds)=some (.ret (.list (xs.take (m+1))))
theorem aeO {C:Ctx}{σ:Im}{σ0:Base}{w:World}{yv:Value}{vs:List Value}{ds:List D}{cts ys:List Ty}{J m:Nat}{ids:List Nat}(aA:σ.ok w)(ha:oe C σ cts vs ds)(hm:cts.length+1≤m)(jZ:C.yl=some (J,ys))(C3:C.yv=yv)
 (h0:σ0.toIm=σ) (hB:σ0.B=0) {fx cx:Nat→Prop} (hF:σ0.F (.list []) fx cx w) (ib:∀k o x,σ.c k o=some x→¬cx k) (nu:∀k x,σ.m k=some x→¬cx k):
 Good C w σ0 ((UK m cts J ids).st ids) (yJ J ds) (fun _=>False) {tmps:=#[yv]++vs.toArray++Array.replicate (m-(vs.length+1)) undef,defers:=[]} w:=by
 obtain⟨h1,h2,h3⟩:=ha
 refine⟨σ,fun _=>none,fun _=>undef,trivial,aA,by rw[h0];exact .refl σ,fun _ k e=>by rw[h0] at e;exact(aA.m k _ e).lt,fun _ _ _ h=>by rw[h0];exact .inl h,fun _ _ h=>by rw[h0];exact .inl h,.refl _ _,by omega,(fun k j h=>by cases h),fun t=>?_,fun j=>?_,fun t gs s' e=>absurd e (Snap.noOpt _ _ t gs s'),
  .list [],fx,cx,⟨hF,(fun k j h=>by cases h),ib,nu,fun k e hk=>by have:=(aA.m k _ e).lt;omega⟩,fun j hj=>?_⟩
 ·show aH C _ _ σ _ (cr ((Sh.yv::(cts.map Sh.dat++List.replicate (m-(cts.length+1)) Sh.none)).getD t .none)) ((#[yv]++vs.toArray++Array.replicate (m-(vs.length+1)) undef).getD t undef) ((D.none::ds).getD t .none);have ea:((#[yv]++vs.toArray++Array.replicate (m-(vs.length+1)) undef).getD t undef)=(yv::(vs++List.replicate (m-(vs.length+1)) undef)).getD t undef:=by
   rw[dL,←AN,aK];simp
  rw[ea];cases t with
  |zero=>simp only[sS,cr];exact C3.symm
  |succ t=>
   simp only[AU];rw[aK];by_cases ht:t<cts.length
   ·rw[kl (by simpa using ht),cw,bA ht];simp only[jO,jj,cr];have:=h3 t _ (bA ht);have e1:(vs++List.replicate (m-(vs.length+1)) undef).getD t undef=vs.getD t undef:=by
     simp only[aK];rw[kl (by omega)]
    show aH C _ _ σ _ (.dat _) _ (ds.getD t .none);rw[e1];exact this
   ·rw[km (by simpa using ht),TD];split<;>trivial
 ·show cd C _ _ σ _ _ w _ j (di ids (ids.map fun j=>bif Nat.beq j J then .tr else .dead) j);refine wk _ (fun ob=>cd C _ _ σ _ _ w _ j ob) trivial j ?_ ids;cases Nat.beq j J<;>trivial
 ·change di ids (ids.map fun j=>bif Nat.beq j J then .tr else .dead) j=.tr at hj
  have hb:=wk (fun j=>bif Nat.beq j J then Ob.tr else .dead) (fun ob=>ob=.tr→Nat.beq j J=true) (fun e=>by cases e) j (fun e=>by
   cases hb:Nat.beq j J
   ·rw[hb] at e;cases e
   ·rfl) ids hj
  have:=ay hb;subst this;refine⟨⟨ys,jZ⟩,?_⟩;show(bif Nat.beq j j then D.list [] else .none)=_;rw[gy];rfl
theorem adA {C:Ctx}{Φ:aP}(aW:dj C)(hΦ:cT C Φ)(fu:gf C Φ){f:Nat}{fn:Func}{cts ys:List Ty}{J:Nat}{ids:List Nat}{pc:PC}(hf:C.P.funcs[f]?=some fn)(hc:∀yv,Bp {C with yv:=yv} fn cts ys J ids=some pc){ds xs:List D}
 (hr:Tu Φ pc J ds xs):lz C f cts ys ds xs:=by
 intro σ w yv vs F fx cx m aA hC ha hm af bJ vM hF ib nu Nm;have hc:=hc yv;unfold Bp at hc;split at hc
 case h_2=>cases hc
 rename_i jZ hsy hcy;cases hle:Nat.ble (cts.length+1) fn.ntmps<;>simp only[hle,cond_true,cond_false] at hc
 ·cases hc
 have Cu:=ji hle;obtain⟨N,he⟩:=hr m hm;cases hb:fn.body with
 |none=>unfold th at hc;rw[hb] at hc;cases hc
 |some c=>
 refine(callsIn_wide (n:=0)).1 (callsIn_of_wp_marks (F:=FR none) hf hb trivial ?_);obtain⟨σ0,hσ0⟩:∃σ0:Base,σ0={σ with B:=0,fin:=True,F:=fun t fx cx w=>(∃l,t=.list l)∧F t fx cx w,lt:=fun t fx cx w h=>af t fx cx w h.2,sub:=fun t fx cx w h=>bJ t fx cx w h.2,keep:=fun t fx cx w w' h hb hs=>⟨h.1,vM t fx cx w w' h.2 hb hs⟩}:=⟨_,rfl⟩
 have e1:σ0.toIm=σ:=by rw[hσ0]
 have e2:σ0.B=0:=by rw[hσ0]
 have e3:σ0.fin:=by rw[hσ0];trivial
 have e4:∀t fx cx w,σ0.F t fx cx w↔(∃l,t=.list l)∧F t fx cx w:=fun t fx cx w=>by rw[hσ0]
 have hg:=aeO (C:={C with yl:=some (J,ys),yv:=yv}) (σ0:=σ0) (w:=w) (yv:=yv) (vs:=vs) (ds:=ds) (cts:=cts) (ys:=ys) (J:=J) (m:=fn.ntmps) (ids:=ids) aA ha Cu rfl rfl e1 e2 ((e4 _ _ _ _).2 ⟨⟨_,rfl⟩,hF⟩) ib nu;have aJ:(#[yv]++vs.toArray).size=vs.length+1:=by simp<;>omega
 have HI:vs.length=cts.length:=ha.1;have hY:ou {C with yl:=some (J,ys),yv:=yv} (yldΦ Φ xs m) w σ0:=by
  intro J' ys' e;cases e;refine⟨e2,fun t fx cx w h=>((e4 _ _ _ _).1 h).1,fun jK ds' d hd fx cx w1 σ1 args yU aim vG G7 Cv cP cI=>?_⟩;obtain⟨g1,g2,g3,g4,rfl⟩:=yldΦ_at hd;rw[e1] at cP cI;have:=Nm jK.length fx cx w1 σ1 args ds' g1 g3 (by rw[←g2];exact((e4 _ _ _ _).1 yU).2) aim vG G7 Cv cP cI;intro rd o a x aa ts K Q bS hv has hK;refine this rd o a x aa ts K Q bS hv has fun u w2 hu=>hK u w2 ?_;obtain⟨u1,u2,u3,mG,jQ,u4,u5,u6⟩:=hu;refine⟨_,rfl,u1,u2,u3,mG,jQ,(e4 _ _ _ _).2 ⟨⟨_,rfl⟩,?_⟩,u5,u6⟩;rw[g4];exact u4
 have hn:(#[yv]++vs.toArray++Array.replicate (fn.ntmps-(vs.length+1)) undef).size=fn.ntmps:=by simp;omega
 rw[aJ];refine wpIn_mono (Lf (C:={C with yl:=some (J,ys),yv:=yv}) aW (hΦ.yl hsy) (fu.yl hcy) hb hc (σ0:=σ0) e3 (by rw[e1];exact⟨hC.glob⟩) hY hn hg he) fun e a' w' ho=>?_
 have main:=pS.leaves (R:=fun e w'=>(∃v,e=.returned v)∧∃fx cx,F (.list (xs.take (m+1))) fx cx w') (fun w2 CQ=>by
  obtain⟨v,σ',⟨own,t,fx,cx,h1,ht,_⟩,h2,_⟩:=CQ;refine⟨v,h2,⟨v,rfl⟩,fx,cx,?_⟩;rw[ht J rfl];exact((e4 _ _ _ _).1 h1.F).2) _ _ ho.2.1
 rcases ho.1 with rfl|rfl<;>exact main
def dM (tab:Nat→Option PC)(ext:Nat→Option (aP→List D→Option D)):Nat→aP
 |0=>fun _ _=>none
 |n+1=>fun f ds=>
  match ext f with
  |some g=>g (dM tab ext n) ds
  |none=>
   match tab f with
   |some pc=>(match pc.ev (dM tab ext n) n (kr ds) with|some (.ret d)=>some d|_=>none)
   |none=>none
theorem gK.hint {C:Ctx}{fr nh:List Nat}{f:Nat}{s:Sig}{ds:List D}{d:D}(h:gK C f s ds d):gK {C with fr:=fr,nh:=nh} f s ds d:=
 fun σ w args aA hC ha=>h σ w args aA ⟨hC.glob⟩ ha
theorem gK.unhint {C:Ctx}{fr nh:List Nat}{f:Nat}{s:Sig}{ds:List D}{d:D}(h:gK {C with fr:=fr,nh:=nh} f s ds d):gK C f s ds d:=
 fun σ w args aA hC ha=>h σ w args aA ⟨hC.glob⟩ ha
theorem lz.hint {C:Ctx}{fr nh:List Nat}{f:Nat}{cts ys:List Ty}{ds xs:List D}(h:lz C f cts ys ds xs):lz {C with fr:=fr,nh:=nh} f cts ys ds xs:=
 fun σ w yv vs F fx cx m aA hC=>h σ w yv vs F fx cx m aA ⟨hC.glob⟩
theorem lz.unhint {C:Ctx}{fr nh:List Nat}{f:Nat}{cts ys:List Ty}{ds xs:List D}(h:lz {C with fr:=fr,nh:=nh} f cts ys ds xs):lz C f cts ys ds xs:=
 fun σ w yv vs F fx cx m aA hC=>h σ w yv vs F fx cx m aA ⟨hC.glob⟩
theorem gu.hint {C:Ctx}{fr nh:List Nat}{f:Nat}{shs:List Sh}{obs:List (Nat×Ob)}{res:Ty}{ds:List D}{d:D}(h:gu C f shs obs res ds d):gu {C with fr:=fr,nh:=nh} f shs obs res ds d:=h.ctx rfl rfl rfl
theorem gu.unhint {C:Ctx}{fr nh:List Nat}{f:Nat}{shs:List Sh}{obs:List (Nat×Ob)}{res:Ty}{ds:List D}{d:D}(h:gu {C with fr:=fr,nh:=nh} f shs obs res ds d):gu C f shs obs res ds d:=gu.ctx (C':=C) h rfl rfl rfl
theorem cT.hint {C:Ctx}{fr nh:List Nat}{Φ:aP}(h:cT C Φ):cT {C with fr:=fr,nh:=nh} Φ:=
 fun f ds d e s hs=>⟨fun hm=>((h f ds d e s hs).1 hm).hint,fun shs obs hm=>((h f ds d e s hs).2 shs obs hm).hint⟩
theorem gf.hint {C:Ctx}{fr nh:List Nat}{Φ:aP}(h:gf C Φ):gf {C with fr:=fr,nh:=nh} Φ:=
 fun f cs ys hc hi=>let⟨h1,h2⟩:=h f cs ys hc hi;⟨h1,fun ds d e=>let⟨xs,e1,e2,e3⟩:=h2 ds d e;⟨xs,e1,e2,e3.hint⟩⟩
theorem dj.hint {C:Ctx}{fr nh:List Nat}(h:dj C):dj {C with fr:=fr,nh:=nh}:=h
def JS (C:Ctx)(f:Nat)(s:Sig)(ds:List D)(d:D):Prop:=(pg s.mode=false→gK C f s ds d)∧∀shs obs,s.mode=.ob shs obs→gu C f shs obs s.res ds d
structure TabOK (C:Ctx) (tab:Nat→Option PC) (ext:Nat→Option (aP→List D→Option D)):Prop where
 clos:dj C
 its:∀f cs ys,C.cap f=some cs→lY cs.args cs.res=some ys→tab f=none∧∃fn,C.P.funcs[f]?=some fn∧fn.body.isSome=true∧(fn.name== "runtime.NumGoroutine")=false
 tab:∀f pc,ext f=none→tab f=some pc→∃fn s ids fr nh,C.P.funcs[f]?=some fn∧C.sig f=some s∧lL {C with fr:=fr,nh:=nh} fn s ids=some pc
 ext:∀f g,ext f=some g→∀Φ,cT C Φ→gf C Φ→∀ds d,g Φ ds=some d→(∀s,C.sig f=some s→JS C f s ds d)∧
  ∀cs ys,C.cap f=some cs→lY cs.args cs.res=some ys→∃xs,d=.list xs∧(∀x,x∈xs→∃ds',x=.tup ds'∧ds'.length=ys.length)∧lz C f cs.caps ys ds xs
theorem TK {C:Ctx}{tab:Nat→Option PC}{ext:Nat→Option (aP→List D→Option D)}(h:TabOK C tab ext):∀n,cT C (dM tab ext n)∧gf C (dM tab ext n)
 |0=>⟨fun f ds d e=>by simp[dM] at e,fun f cs ys hc hi=>⟨(h.its f cs ys hc hi).2,fun ds d e=>by simp[dM] at e⟩⟩
 |n+1=>by
  obtain⟨ih,lW⟩:=TK h n;refine⟨fun f ds d e=>?_,fun f cs ys hc hi=>⟨(h.its f cs ys hc hi).2,fun ds d e=>?_⟩⟩
  ·simp only[dM] at e;split at e
   ·rename_i g hg;exact(h.ext f g hg _ ih lW ds d e).1
   ·rename_i hx;split at e
    ·rename_i pc ae;split at e
     ·rename_i d' he;cases e;obtain⟨fn,s,ids,fr,nh,h1,h2,h3⟩:=h.tab f pc hx ae;intro s' er;rw[h2] at er;cases er
      exact⟨fun hm=>(Lg (C:={C with fr:=fr,nh:=nh}) (dj.hint h.clos) (cT.hint ih) (gf.hint lW) h1 h3 hm he).unhint,
       fun shs obs hm=>(adz (C:={C with fr:=fr,nh:=nh}) (dj.hint h.clos) (cT.hint ih) (gf.hint lW) h1 h3 hm he).unhint⟩
     ·cases e
    ·cases e
  ·simp only[dM] at e;split at e
   ·rename_i g hg;exact(h.ext f g hg _ ih lW ds d e).2 cs ys hc hi
   ·rw[(h.its f cs ys hc hi).1] at e;cases e
def ab5 (Φ:aP)(pc:PC)(J k:Nat)(ds xs:List D):Prop:=Tu Φ pc J ds xs∧∀x,x∈xs→∃ds',x=.tup ds'∧ds'.length=k
open Classical in
def C7 (pc:PC)(J k:Nat)(spec:List D→List D):aP→List D→Option D:=fun Φ ds=>if ab5 Φ pc J k ds (spec ds) then some (.list (spec ds)) else none
theorem ajw {C:Ctx}{Φ:aP}(aW:dj C)(hΦ:cT C Φ)(fu:gf C Φ){f:Nat}{fn:Func}{cts ys:List Ty}{J k:Nat}{ids fr nh:List Nat}{pc:PC}(hf:C.P.funcs[f]?=some fn)(hc:∀yv,Bp {C with fr:=fr,nh:=nh,yv:=yv} fn cts ys J ids=some pc){spec:List D→List D}
 {ds:List D} {d:D} (h:C7 pc J k spec Φ ds=some d) (hk:k=ys.length):∃xs,d=.list xs∧(∀x,x∈xs→∃ds',x=.tup ds'∧ds'.length=ys.length)∧lz C f cts ys ds xs:=by
 unfold C7 at h;split at h
 ·rename_i hs;cases h;subst hk;exact⟨_,rfl,hs.2,(adA (C:={C with fr:=fr,nh:=nh}) (dj.hint aW) (cT.hint hΦ) (gf.hint fu) hf hc hs.1).unhint⟩
 ·cases h
def bz {α:Type}:List (Nat×α)→Nat→Option α
 |[],_=>none
 |x::l,f=>bif Nat.beq x.1 f then some x.2 else bz l f
def ES {α:Type}(R:Nat→α→Prop):List (Nat×α)→Prop
 |[]=>True
 |x::l=>R x.1 x.2∧ES R l
theorem NH {α:Type}{R:Nat→α→Prop}:∀{l:List (Nat×α)},ES R l→∀f x,bz l f=some x→R f x
 |[],_,f,x,h=>by cases h
 |y::l,⟨h1,h2⟩,f,x,h=>by
  simp only[bz] at h;cases hb:Nat.beq y.1 f<;>simp only[hb,cond_true,cond_false] at h
  ·exact NH h2 f x h
  ·cases h;rw[←cM hb];exact h1
def QM (P:Program):List (Nat×Sig)→Bool
 |[]=>true
 |x::l=>(match P.funcs[x.1]? with|some fn=>fn.body.isSome&& !(fn.name== "runtime.NumGoroutine")|none=>false)&&QM P l
theorem abz {P:Program}:∀{l:List (Nat×Sig)},QM P l=true→∀f s,bz l f=some s→∃fn,P.funcs[f]?=some fn∧fn.body.isSome=true∧(fn.name== "runtime.NumGoroutine")=false
 |[],_,f,s,h=>by cases h
 |y::l,hl,f,s,h=>by
  simp only[QM,ak] at hl;simp only[bz] at h;cases hb:Nat.beq y.1 f<;>simp only[hb,cond_true,cond_false] at h
  ·exact abz hl.2 f s h
  ·rw[←cM hb];have h1:=hl.1;split at h1
   ·rename_i fn e;simp only[ak,gd] at h1;exact⟨fn,e,h1.1,h1.2⟩
   ·cases h1
def QD (a b:Sig):Bool:=Ty.beqs a.args b.args&&Ty.beq a.res b.res&&(match a.mode,b.mode with|.dat,.dat=>true|_,_=>false)
theorem aoe {a b:Sig}(h:QD a b=true):a=b:=by
 obtain⟨a1,a2,a3⟩:=a;obtain⟨b1,b2,b3⟩:=b;simp only[QD,ak] at h;rw[Ty.beqs_eq _ _ h.1.1,Ty.beq_eq _ _ h.1.2];cases a3<;>cases b3<;>first|rfl|(have:=h.2;cases this)
def EJ (P:Program)(f:Nat):Bool:=match P.funcs[f]? with|some fn=>fn.body.isSome&& !(fn.name== "runtime.NumGoroutine")|none=>false
theorem aoI {P:Program}{f:Nat}(h:EJ P f=true):∃fn,P.funcs[f]?=some fn∧fn.body.isSome=true∧(fn.name== "runtime.NumGoroutine")=false:=by
 unfold EJ at h;split at h
 ·rename_i fn e;simp only[ak,gd] at h;exact⟨fn,e,h.1,h.2⟩
 ·cases h
def K6 (P:Program)(sig:List (Nat×Sig))(pcs:List Nat):List (Nat×CSig)→Bool
 |[]=>true
 |x::l=>(match lY x.2.args x.2.res with
   |none=>(match bz sig x.1 with|some s=>QD s ⟨x.2.args++x.2.caps,x.2.res,.dat⟩|none=>false)
   |some _=> !eZ pcs x.1&&EJ P x.1)&&K6 P sig pcs l
theorem Ue {P:Program}{sig:List (Nat×Sig)}{pcs:List Nat}:∀{l:List (Nat×CSig)},K6 P sig pcs l=true→∀f cs,bz l f=some cs→
 (lY cs.args cs.res=none→bz sig f=some ⟨cs.args++cs.caps,cs.res,.dat⟩)∧∀ys,lY cs.args cs.res=some ys→eZ pcs f=false∧EJ P f=true
 |[],_,f,cs,h=>by cases h
 |x::l,hl,f,cs,h=>by
  simp only[K6,ak] at hl;simp only[bz] at h;cases hb:Nat.beq x.1 f<;>simp only[hb,cond_true,cond_false] at h
  ·exact Ue hl.2 f cs h
  ·cases h;rw[←cM hb];have h1:=hl.1;refine⟨fun e=>?_,fun ys e=>?_⟩
   ·rw[e] at h1;simp only at h1;split at h1
    ·rename_i s hs;rw[hs,aoe h1]
    ·cases h1
   ·rw[e] at h1;simpa using h1
theorem Xi {α:Type}:∀{l:List (Nat×α)} {f:Nat},eZ (l.map (·.1)) f=false→bz l f=none
 |[],f,_=>rfl
 |x::l,f,h=>by
  simp only[gx,eZ,List.any_cons,Tp] at h;simp only[bz];have hb:Nat.beq x.1 f=false:=by
   cases e:Nat.beq x.1 f
   ·rfl
   ·rw[ay e,gy] at h;cases h.1
  rw[hb];exact Xi (l:=l) h.2
def acd (Φ:aP)(pa pb:PC)(ds:List D)(d:D):Prop:=(∃N xs,pa.ev Φ N (kr ds)=some (.ret (.list xs))∧xs≠[]∧d=.list xs)∨∃N,pb.ev Φ N (kr ds)=some (.ret (.list []))∧d=.list []
open Classical in
def zA (pa pb:PC)(spec:List D→D):aP→List D→Option D:=fun Φ ds=>if acd Φ pa pb ds (spec ds) then some (spec ds) else none
theorem alG {C:Ctx}{Φ:aP}(aW:dj C)(hΦ:cT C Φ)(fu:gf C Φ){f:Nat}{fn:Func}{args:List Ty}{e:Ty}{ids ajo fr nh Va XX:List Nat}{pa pb:PC}(hf:C.P.funcs[f]?=some fn)(ha:lL {C with fr:=fr,nh:=nh} fn ⟨args,.slice e,.dat⟩ ids=some pa)
 (hb:lL {C with fr:=Va,nh:=XX} fn ⟨args,.nils .bool,.dat⟩ ajo=some pb) {spec:List D→D} {ds:List D} {d:D} (h:zA pa pb spec Φ ds=some d):gK C f ⟨args,.nsl e,.dat⟩ ds d:=by
 unfold zA at h;split at h
 case isFalse=>cases h
 rename_i hs;cases h;rcases hs with⟨N,xs,h1,h2,h3⟩|⟨N,h1,h2⟩
 ·rw[h3];have:=(Lg (C:={C with fr:=fr,nh:=nh}) (dj.hint aW) (cT.hint hΦ) (gf.hint fu) hf ha (N:=N) rfl h1).unhint;intro σ w aa aA hC ia;refine(this σ w aa aA hC ia).mono fun en w' hh=>?_;obtain⟨v,σ',g1,g2,g3,g4,g5,g6,g7⟩:=hh;refine⟨v,σ',g1,g2,g3,g4,g5,g6,?_⟩;change Rep C.cap σ' (.slice e) v (.list xs) at g7;show Rep C.cap σ' (.nsl e) v (.list xs);generalize hd:D.list xs=dd at g7;cases g7 with
  |nil=>injection hd with hd;exact absurd hd h2
  |emp=>injection hd with hd;exact absurd hd h2
  |slice _ k o n c jK vs a1 a2 a3 a4 a5=>exact .nsl e k o n c jK (.slice e k o n c jK vs a1 a2 a3 a4 a5) (by injection hd with hd;rw[←hd];exact h2)
 ·rw[h2];have:=(Lg (C:={C with fr:=Va,nh:=XX}) (dj.hint aW) (cT.hint hΦ) (gf.hint fu) hf hb (N:=N) rfl h1).unhint;intro σ w aa aA hC ia;refine(this σ w aa aA hC ia).mono fun en w' hh=>?_;obtain⟨v,σ',g1,g2,g3,g4,g5,g6,g7⟩:=hh;refine⟨v,σ',g1,g2,g3,g4,g5,g6,?_⟩;change Rep C.cap σ' (.nils .bool) v (.list []) at g7;show Rep C.cap σ' (.nsl e) v (.list []);generalize D.list []=dd at g7;cases g7;exact .nsl0 e
end Cx
namespace Cx
open Go Go.RowKit Go.ChangeShapes Go.WideShapes
def lX (w:World):Im:=
 ⟨fun k o=>w.cell? ⟨k,o,none⟩,fun _=>none⟩
theorem ajq (w:World):(lX w).ok w:=by
 exact⟨fun k o v h=>h,fun k es h=>by cases h⟩
def Au (P:Program)(r:TypeId→Option Ty):List Field→Nat→Option (List Ty)
 |[],_=>some []
 |f::fs,off=>(r f.type).bind fun ft=>
  bif Nat.beq f.offset off&&Nat.beq (P.cellsOf f.type) ft.flat.length then(Au P r fs (off+ft.flat.length)).map (ft.flat++·) else none
def fX (P:Program):Nat→TypeId→Option Ty
 |0,_=>none
 |n+1,t=>
  match P.underlying t with
  |some .bool=>some .bool
  |some (.int k)=>some (.int k)
  |some .string=>some .str
  |some (.slice e)=>bif se P e then some (.slice .trm) else(fX P n e).bind fun te=>bif Nat.beq (P.cellsOf e) te.flat.length&&Nat.ble 1 te.flat.length then some (.slice te) else none
  |some (.struct fs)=>(Au P (fX P n) fs.toList 0).bind fun ts=>bif Nat.beq (P.cellsOf t) ts.length then some (.agg ts) else none
  |_=>none
theorem ajv {P:Program}{e:TypeId}(h:se P e=true)(n:Nat):fX P (n+2) e=some .trmA∧P.cellsOf e=3:=by
 unfold se at h;split at h
 case h_2=>cases h
 rename_i fs hu;split at h
 case h_2=>cases h
 rename_i f0 f1 f2 vJ;simp only[ak] at h;obtain⟨⟨⟨⟨⟨⟨⟨⟨⟨h0,h1⟩,h2⟩,o0⟩,o1⟩,o2⟩,c0⟩,c1⟩,c2⟩,c3⟩:=h;split at h0
 case h_2=>cases h0
 rename_i u0;split at h1
 case h_2=>cases h1
 rename_i u1;split at h2
 case h_2=>cases h2
 rename_i e' u2;obtain rfl:=ay h2;have r0:fX P (n+1) f0.type=some (.int .i64):=by simp[fX,u0]
 have r1:fX P (n+1) f1.type=some (.int .i64):=by simp[fX,u1]
 have ht:se P e'=true:=by
  unfold se;rw[hu];simp only[vJ];simp[u0,u1,u2,ay o0,ay o1,ay o2,ay c0,ay c1,ay c2,ay c3]
 have r2:fX P (n+1) f2.type=some (.slice .trm):=by simp[fX,u2,ht]
 refine⟨?_,ay c3⟩;show fX P (n+1+1) e'=_;rw[fX,hu];simp only[vJ,Au,r0,r1,r2,jN,Ty.flat,m8,xn,o0,c0,Bool.and_self,cond_true];simp[ay o1,ay o2,ay c1,ay c2,ay c3,Ty.trmA]
theorem Ql {P:Program}{n:Nat}{t:TypeId}{ty:Ty}(h:fX P n t=some ty):ty.rowT=true∨ty.one=true:=by
 cases n with
 |zero=>simp[fX] at h
 |succ n=>
  simp only[fX] at h;split at h
  ·cases h;exact .inr rfl
  ·cases h;exact .inr rfl
  ·cases h;exact .inr rfl
  ·rename_i e _;cases ht:se P e<;>simp only[ht,cond_true,cond_false] at h
   ·simp only[au] at h;obtain⟨te,_,h⟩:=h;cases hb:(Nat.beq (P.cellsOf e) te.flat.length&&Nat.ble 1 te.flat.length)<;>simp only[hb,cond_true,cond_false] at h
    ·cases h
    ·cases h;exact .inr rfl
   ·cases h;exact .inr rfl
  ·rename_i fs _;simp only[au] at h;obtain⟨ts,_,h⟩:=h;cases hb:Nat.beq (P.cellsOf t) ts.length<;>simp only[hb,cond_true,cond_false] at h
   ·cases h
   ·cases h;exact .inl rfl
  ·cases h
def mB (cap:Nat→Option CSig)(σ:Im)(ts:List Ty)(cs:List Value)(ds:List D):Prop:=
 cs.length=ts.length∧ds.length=ts.length∧∀(i:Nat) (u:Ty),ts[i]?=some u→Rep cap σ u (cs.getD i undef) (ds.getD i .none)∧u.one=true
theorem mB.one {cap:Nat→Option CSig}{σ:Im}{t:Ty}{v:Value}{d:D}(h:Rep cap σ t v d)(ht:t.one=true):mB cap σ [t] [v] [d]:=
 ⟨rfl,rfl,fun i u hu=>by
   cases i with
   |zero=>simp at hu;subst hu;exact⟨h,ht⟩
   |succ i=>simp at hu⟩
theorem mB.append {cap:Nat→Option CSig}{σ:Im}{ts us:List Ty}{cs vs:List Value}{ds es:List D}(h:mB cap σ ts cs ds)(k:mB cap σ us vs es):mB cap σ (ts++us) (cs++vs) (ds++es):=by
 obtain⟨h1,h2,h3⟩:=h;obtain⟨k1,k2,k3⟩:=k;refine⟨by simp[h1,k1],by simp[h2,k2],fun i u hu=>?_⟩;by_cases hi:i<ts.length
 ·rw[kl hi] at hu;have:=h3 i u hu;rw[aK,aK,kl (by omega),kl (by omega)];rw[aK,aK] at this;exact this
 ·rw[km (by omega)] at hu;have:=k3 _ u hu;rw[aK,aK,km (by omega),km (by omega),h1,h2];rw[aK,aK] at this;exact this
def Uq (ag:Bool)(ds:List D):D:=if ag then .agg ds else ds.getD 0 .none
theorem aff (t:Ty):t.flat.length=t.size:=by cases t<;>rfl
theorem Rep.ofRow {cap:Nat→Option CSig}{σ:Im}{t:Ty}{cs:List Value}{ds:List D}(gS:t.rowT=true∨t.one=true)(h:mB cap σ t.flat cs ds):Rep cap σ t (Cx.rowOf t.rowT cs) (Uq t.rowT ds):=by
 obtain⟨h1,h2,h3⟩:=h;cases t with
 |agg ts=>exact .agg ts cs ds h1 h2 (fun i u hu=>(h3 i u hu).1) (fun i u hu=>(h3 i u hu).2)
 |trm=>simp[Ty.rowT,Ty.one] at gS
 |_=>exact(h3 0 _ rfl).1
theorem anZ {cap:Nat→Option CSig}{σ:Im}{t:Ty}{cs:List Value}{ds:List D}(gS:t.rowT=true∨t.one=true)(h:mB cap σ t.flat cs ds){j:Nat}{u:Value}(hj:(rowOf t.rowT cs).cells[j]?=some u):cs[j]?=some u:=by
 obtain⟨h1,h2,h3⟩:=h;cases t with
 |agg ts=>simpa [rowOf,Ty.rowT,Value.cells] using hj
 |trm=>simp[Ty.rowT,Ty.one] at gS
 |_=>
  have h4:=h3 0 _ rfl;have h5:=(h4.1.oneCell h4.2).1;simp only[rowOf,Ty.rowT,uW,if_false] at hj;rw[h5] at hj;cases j with
  |zero=>
   simp only[EY,JZ,aR] at hj
   match cs,h1 with
   |[c],_=>simpa using hj
  |succ j=>simp at hj
section
variable {H:Type} {enc:TypeId×Value→H} {P:Program} {w:World} {base:Nat} {held:Bool} {cap:Nat→Option CSig}
theorem abN {k:IntKind}{n:Int}(h:(Lit.int k n).wf=true):k.min≤n∧n≤k.max:=by
 simpa [Lit.wf] using h
theorem aaE {n m:Nat}(ih:∀(t:TypeId) (cs:List Value) (x:DataW H×List MemPlace) (ty:Ty),DataW.trod enc P w base (fun _=>true) held n t cs=some x→fX P m t=some ty→∃ds,mB cap (lX w) ty.flat cs ds):
 ∀(fs:List Field) (off:Nat) (cs:List Value) (ts:List Ty),Au P (fX P m) fs off=some ts→cs.length=off+ts.length→
  (∀f,f∈fs→∃x,DataW.trod enc P w base (fun _=>true) held n f.type ((cs.drop f.offset).take (P.cellsOf f.type))=some x)→∃ds,mB cap (lX w) ts (cs.drop off) ds
 |[],off,cs,ts,h,hl,_=>by
  simp only[Au,aR] at h;subst h;have:cs.drop off=[]:=by simp at hl ⊢;omega
  rw[this];exact⟨[],rfl,rfl,fun i u hu=>by simp at hu⟩
 |f::fs,off,cs,ts,h,hl,hx=>by
  simp only[Au,au] at h;obtain⟨ft,hft,h⟩:=h;cases hb:(Nat.beq f.offset off&&Nat.beq (P.cellsOf f.type) ft.flat.length)<;>simp only[hb,cond_true,cond_false] at h
  ·cases h
  simp only[az] at h;obtain⟨us,hus,rfl⟩:=h;simp only[ak] at hb;have e1:=cM hb.1;have e2:=cM hb.2;obtain⟨x,nE⟩:=hx f (dt ..);rw[e1,e2] at nE;obtain⟨Bv,il⟩:=ih _ _ _ _ nE hft;simp only[ko] at hl;obtain⟨ds2,lT⟩:=aaE ih fs (off+ft.flat.length) cs us hus (by omega) fun g hg=>hx g (dk _ hg);refine⟨Bv++ds2,?_⟩;have:=il.append lT;rw[←List.drop_drop,J5] at this;exact this
theorem aqK:∀(n m:Nat) (t:TypeId) (cs:List Value) (x:DataW H×List MemPlace) (ty:Ty),DataW.trod enc P w base (fun _=>true) held n t cs=some x→fX P m t=some ty→∃ds,mB cap (lX w) ty.flat cs ds:=by
 intro n
 induction n with
 |zero=>intro m t cs x ty h;simp[DataW.trod] at h
 |succ n ih=>
  intro m t cs x ty h aZ;cases m with
  |zero=>simp[fX] at aZ
  |succ m=>
   simp only[fX] at aZ;split at aZ
   ·rename_i hu;cases aZ;obtain⟨b,rfl,_⟩:=DataW.trod_bool hu h;exact⟨_,.one (.bool b) rfl⟩
   ·rename_i k hu;cases aZ;obtain⟨z,rfl,_,hw⟩:=DataW.trod_int hu h;exact⟨_,.one (.int k z (abN hw).1 (abN hw).2) rfl⟩
   ·rename_i hu;cases aZ;obtain⟨s,rfl,_,hs⟩:=DataW.trod_string hu h;exact⟨_,.one (.str s hs) rfl⟩
   ·rename_i e hu;have vZ:∃(m':Nat) (te uL:Ty),fX P m' e=some te∧P.cellsOf e=te.flat.length∧1≤te.flat.length∧ty=.slice uL∧uL.unf=te:=by
     cases ht:se P e<;>simp only[ht,cond_true,cond_false] at aZ
     ·simp only[au] at aZ;obtain⟨te,vZ,aZ⟩:=aZ;cases hb:(Nat.beq (P.cellsOf e) te.flat.length&&Nat.ble 1 te.flat.length)<;>simp only[hb,cond_true,cond_false] at aZ
      ·cases aZ
      cases aZ;simp only[ak] at hb;exact⟨m,te,te,vZ,cM hb.1,ji hb.2,rfl,Ty.unf_ro (Ql vZ)⟩
     ·cases aZ;obtain⟨k1,k2⟩:=ajv ht 0;exact⟨2,.trmA,.trm,k1,k2,by decide,rfl,rfl⟩
    obtain⟨m',te,uL,vZ,e1,e2,rfl,mM⟩:=vZ;have gS:=Ql vZ;rcases DataW.trod_slice hu h with⟨rfl,_⟩|⟨a,len,cp,elems,rest,n',jy,rfl,_,hba,hl,hm,hlen,iP,qq,_⟩
    ·exact⟨_,.one (.nil uL) rfl⟩
    ·cases jy;obtain⟨hrl,tR⟩:=qq rfl
     have oP:∀i,i<cp→∃ci y,w.cells? base (a.add (i*P.cellsOf e)) (P.cellsOf e)=some ci∧DataW.trod enc P w base (fun _=>true) held n e ci=some y:=by
      intro i hi
      have gi:∃y,(w.cells? base (a.add (i*P.cellsOf e)) (P.cellsOf e)).bind (DataW.trod enc P w base (fun _=>true) held n e)=some y:=by
           by_cases vK:i<len
           ·rw[iP i vK];exact⟨_,bA (by omega)⟩
           ·have:=tR (i-len) (by omega);rw[show len+(i-len)=i by omega] at this;rw[this];exact⟨_,bA (by omega)⟩
      obtain⟨y,hy⟩:=gi;rw[au] at hy;obtain⟨ci,h1,h2⟩:=hy;exact⟨ci,y,h1,h2⟩
     by_cases Cb:cp=0
     ·subst Cb;have:len=0:=by omega
      subst this;exact⟨_,.one (.emp uL a) rfl⟩
     ·have Wr:a.spot=none:=by
           obtain⟨ci,y,h1,_⟩:=oP 0 (by omega);obtain⟨_,_,h3⟩:=World.cells?_some h1;have:=h3 0 (by omega);simp only[Nat.zero_mul,Addr.add,if_true] at this;unfold World.cell? at this;cases hs:a.spot with
           |none=>rfl
           |some s=>
            exfalso;have hl:ci.length=P.cellsOf e:=(World.cells?_some h1).2.1;split at this
            ·rw[hs] at this;simp at this;subst this;simp at hl;omega
            ·rw[eq_comm,List.getElem?_eq_none_iff] at this;omega
      obtain⟨k,o,s⟩:=a;simp only at Wr;subst Wr;have aO:∀i,∃p:List Value×List D,i<len→w.cells? base ((⟨k,o,none⟩:Addr).add (i*P.cellsOf e)) (P.cellsOf e)=some p.1∧mB cap (lX w) te.flat p.1 p.2:=by
           intro i;by_cases hi:i<len
           ·obtain⟨ci,y,h1,h2⟩:=oP i (by omega);obtain⟨ds,hr⟩:=ih m' _ _ _ _ h2 vZ;exact⟨(ci,ds),fun _=>⟨h1,hr⟩⟩
           ·exact⟨([],[]),fun h=>absurd h hi⟩
      obtain⟨f,hf⟩:=Classical.axiomOfChoice aO;refine⟨_,.one (.slice uL k o len cp ((List.range len).map fun i=>Uq te.rowT (f i).2) (fun i=>rowOf te.rowT (f i).1) (by simp) hl hm (fun i x hx=>?_) (fun i j u hi hj=>?_)) rfl⟩
      ·rw[cw,az] at hx;obtain⟨i',cU,rfl⟩:=hx;have af:i<len:=by have:=(eh.1 cU).1;simpa using this
       rw[pQ af] at cU;cases cU;rw[mM];exact Rep.ofRow gS (hf i af).2
      ·obtain⟨h1,h2⟩:=hf i hi;have dE:=anZ gS h2 hj;obtain⟨_,h4,h5⟩:=World.cells?_some h1;have fO:j<P.cellsOf e:=by rw[←h4];exact(eh.1 dE).1
       have:=h5 j fO;rw[dE] at this;show w.cell? ⟨k,o+i*uL.size+j,none⟩=some u;rw[←uL.unf_size,mM,←aff,←e1,←this]
       congr 1
       simp only[Addr.add];split<;>split<;>simp_all
   ·rename_i fs hu;simp only[au] at aZ;obtain⟨ts,HJ,aZ⟩:=aZ;cases hb:Nat.beq (P.cellsOf t) ts.length<;>simp only[hb,cond_true,cond_false] at aZ
    ·cases aZ
    cases aZ;obtain⟨xs,n',jy,_,hl,v7,hf⟩:=DataW.trod_struct hu h;cases jy
    have:=aaE (ih m) fs.toList 0 cs ts HJ (by rw[hl,cM hb];omega) (fun f hm=>by
     obtain⟨i,hi⟩:=xm hm;have cU:fs[i]?=some f:=by simpa using hi
     have h1:=hf i f cU;have af:i<fs.size:=(ga.1 cU).1;exact⟨_,h1.trans (bA (by omega))⟩)
    show ∃ds,mB cap (lX w) ts cs ds;simpa using this
   ·cases aZ
theorem Bm {base:Nat}{t:TypeId}{v:Value}(h:Cell.okWide P w .any base t v):v.cells=#[v]:=by
 cases v<;>first|rfl|(exfalso;simp only[Cell.okWide,Cell.ok] at h;revert h;cases P.underlying t with|none=>simp|some T=>cases T<;>simp)
theorem acC {base base':Nat}{m:Nat}{t:TypeId}{v:Value}{d:DataW H}{ps:List MemPlace}{ty:Ty}(aA:Value.okWide P w .any base' t v)(h:DataW.Trod enc P w base (fun _=>true) held t v d ps)(aZ:fX P m t=some ty):∃d,Rep cap (lX w) ty v d:=by
 obtain⟨fuel,h⟩:=h;obtain⟨ds,hr⟩:=aqK (cap:=cap) fuel m t _ _ _ h aZ;have bM:=Rep.ofRow (Ql aZ) hr;cases m with
 |zero=>simp[fX] at aZ
 |succ m=>
  suffices hs:rowOf ty.rowT v.cells.toList=v by rw[hs] at bM;exact⟨_,bM⟩
  simp only[fX] at aZ;unfold Value.okWide at aA;split at aZ
  ·rename_i hu;cases aZ;rw[hu] at aA;simp only at aA;rw[Bm aA];rfl
  ·rename_i hu;cases aZ;rw[hu] at aA;simp only at aA;rw[Bm aA];rfl
  ·rename_i hu;cases aZ;rw[hu] at aA;simp only at aA;rw[Bm aA];rfl
  ·rename_i e hu;cases ht:se P e<;>simp only[ht,cond_true,cond_false] at aZ
   ·simp only[au] at aZ;obtain⟨te,_,aZ⟩:=aZ;cases hb:(Nat.beq (P.cellsOf e) te.flat.length&&Nat.ble 1 te.flat.length)<;>simp only[hb,cond_true,cond_false] at aZ
    ·cases aZ
    cases aZ;rw[hu] at aA;simp only at aA;rw[Bm aA];rfl
   ·cases aZ;rw[hu] at aA;simp only at aA;rw[Bm aA];rfl
  ·rename_i fs hu;simp only[au] at aZ;obtain⟨ts,_,aZ⟩:=aZ;cases hb:Nat.beq (P.cellsOf t) ts.length<;>simp only[hb,cond_true,cond_false] at aZ
   ·cases aZ
   cases aZ;rw[hu] at aA;obtain⟨cs,rfl,_⟩:=aA;simp[rowOf,Ty.rowT,Value.cells]
  ·cases aZ
def Er (P:Program)(m:Nat):List TypeId→Option (List Ty)
 |[]=>some []
 |t::ts=>(fX P m t).bind fun x=>(Er P m ts).map (x::·)
theorem TW {base base' m:Nat}:∀(ts:List TypeId) (vs:List Value) (ds:List (DataW H)) (ps:List MemPlace) (fh:List Ty),DataW.TrodAll enc P w base (fun _=>true) held ts vs ds ps→Er P m ts=some fh→
 (∀(j:Nat) t v,ts[j]?=some t→vs[j]?=some v→Value.okWide P w .any base' t v)→
 ∃es:List D,vs.length=fh.length∧es.length=fh.length∧∀(i:Nat) (t:Ty),fh[i]?=some t→Rep cap (lX w) t (vs.getD i undef) (es.getD i .none)
 |[],vs,ds,ps,fh,h,aZ,_=>by
  simp only[Er,aR] at aZ;subst aZ;cases vs with
  |nil=>exact⟨[],rfl,rfl,fun i t h=>by simp at h⟩
  |cons=>cases ds<;>exact h.elim
 |t::ts,vs,ds,ps,fh,h,aZ,aA=>by
  simp only[Er,au,az] at aZ;obtain⟨ty,ai6,aqO,ai7,rfl⟩:=aZ;cases vs with
  |nil=>cases ds<;>exact h.elim
  |cons v vs=>
   cases ds with
   |nil=>exact h.elim
   |cons d ds=>
    obtain⟨p,q,h1,h2,_⟩:=h;obtain⟨e,he⟩:=acC (cap:=cap) (aA 0 t v rfl rfl) h1 ai6;obtain⟨es,k1,k2,k3⟩:=TW ts vs ds q aqO h2 ai7 (fun j t' v' hj hv=>aA (j+1) t' v' hj hv);refine⟨e::es,by simp[k1],by simp[k2],fun i u hu=>?_⟩;cases i with
    |zero=>simp at hu;subst hu;exact he
    |succ i=>simpa using k3 i u (by simpa using hu)
end
mutual
inductive DTy:Ty→D→Prop where
 |int (k:IntKind) (n:Int) (h1:k.min≤n) (h2:n≤k.max):DTy (.int k) (.v (.int k n))
 |bool (b:Bool):DTy .bool (.v (.bool b))
 |str (s:ByteArray) (h:s.size≤maxLen):DTy .str (.v (.string s))
 |slice (e:Ty) (xs:List D) (hm:xs.length≤maxLen) (h:∀x,x∈xs→DTy e.unf x):DTy (.slice e) (.list xs)
 |agg (ts:List Ty) (ds:List D) (h:DTys ts ds):DTy (.agg ts) (.agg ds)
 |other (t:Ty) (d:D) (h:match t with|.int _|.bool|.str|.slice _|.agg _=>False|_=>True):DTy t d
inductive DTys:List Ty→List D→Prop where
 |nil:DTys [] []
 |cons {t:Ty} {d:D} {ts:List Ty} {ds:List D} (h:DTy t d) (hs:DTys ts ds):DTys (t::ts) (d::ds)
end
theorem DTys.of_get:∀{ts:List Ty} {ds:List D},ds.length=ts.length→(∀(i:Nat) (t:Ty),ts[i]?=some t→DTy t (ds.getD i .none))→DTys ts ds
 |[],[],_,_=>.nil
 |t::ts,d::ds,hl,h=>.cons (h 0 t rfl) (DTys.of_get (by simpa using hl) fun i u hu=>by simpa using h (i+1) u (by simpa using hu))
 |[],_::_,hl,_=>by simp at hl
 |_::_,[],hl,_=>by simp at hl
theorem Rep.dty {cap:Nat→Option CSig}{σ:Im}{t:Ty}{v:Value}{d:D}(h:Rep cap σ t v d):DTy t d:=by
 induction h with
 |int k n h1 h2=>exact .int k n h1 h2
 |bool b=>exact .bool b
 |str s h=>exact .str s h
 |agg ts vs ds h1 h2 _ ho ih=>exact .agg ts ds (.of_get h2 ih)
 |nil e=>exact .slice e [] (by decide) (fun x hx=>by cases hx)
 |emp e a=>exact .slice e [] (by decide) (fun x hx=>by cases hx)
 |slice e k o n c xs vs hn hc hm _ hv ih=>
  refine .slice e xs (by omega) fun x hx=>?_;obtain⟨i,hi⟩:=xm hx;exact ih i x hi
 |_=>exact .other _ _ trivial
theorem W4 {H:Type}{enc:TypeId×Value→H}{C:Ctx}{f:Nat}{fn:Func}{sg:Sig}{spec:ChangeSpec}{tb:TypeId}{apart fresh handsOn again:Bool}(hl:laidOutB C.P=true)
 (tT:Er C.P 12 fn.params.toList=some sg.args) (aiF:fn.params.toList.all (fun t=>C.P.readableRec t&&decide (t<C.P.types.size))=true) (Nc:spec.vars=[])
 (aiU:∀ds:List (DataW H),ds.length=fn.params.size→(spec.fn H ds).results=[.lit (.bool true)]∧(spec.fn H ds).args=ds∧(spec.fn H ds).vars=[])
 (fB:fn.resultTypes=#[tb]) (Ww:C.P.underlying tb=some .bool) (kE:sg.mode=.dat) (tS:sg.res=.bool)
 (Mu:∀ds,DTys sg.args ds→gK C f sg ds (.v (.bool true)))
 (W:World) (tK:CtxOK C (lX W)) (base:Nat) (args:Array Value) (ds gs:List (DataW H)) (before:List MemPlace)
 (bZ:∀(j:Nat) t v,fn.params[j]?=some t→args[j]?=some v→Value.okWide C.P W .any base t v)
 (hW:DataW.Whole enc C.P fn.params.toList spec.vars apart W args.toList ds gs before):
 Calls C.P f args W fun e W'=>∃v,e=.returned v∧spec.post enc C.P fn apart fresh handsOn again W args v W':=by
 have G0:=hW;have af:∀p∈before,p.block<W.heap.size:=fun p hp=>G0.lt p hp;obtain⟨p,q,hA,hV,rfl,Ck,bk⟩:=hW;rw[Nc] at hV;obtain⟨rfl,rfl⟩:=trodVars_none hV;obtain⟨es,k1,k2,k3⟩:=TW (cap:=C.cap) (base':=base) fn.params.toList args.toList ds p sg.args hA tT (fun j t v hj hv=>bZ j t v (by simpa using hj) (by simpa using hv));have aZ:DTys sg.args es:=.of_get k2 fun i t ht=>(k3 i t ht).dty
 have hlen:∀(ts:List TypeId) (vs:List Value) (ds:List (DataW H)) (ps:List MemPlace),DataW.TrodAll enc C.P W 0 (fun _=>true) true ts vs ds ps→ds.length=ts.length:=by
  intro ts
  induction ts with
  |nil=>intro vs ds ps h;cases vs<;>cases ds<;>first|rfl|exact h.elim
  |cons t ts ih=>
   intro vs ds ps h;cases vs with
   |nil=>cases ds<;>exact h.elim
   |cons v vs=>cases ds with
    |nil=>exact h.elim
    |cons d ds=>obtain⟨p,q,_,h2,_⟩:=h;simp[ih vs ds q h2]
 have Mc:ds.length=fn.params.size:=by simpa using hlen _ _ _ _ hA
 obtain⟨s1,s2,s3⟩:=aiU (ds++[]) (by simpa using Mc);refine(Mu es aZ (lX W) W args (ajq W) tK ⟨k1,k2,k3⟩).mono fun e W' hh=>?_;obtain⟨v,σ',rfl,_,_,hb,_,_,hr⟩:=hh;refine⟨v,rfl,?_⟩;simp only[lH,kE,tS] at hr;obtain⟨b,rfl,vH⟩:=hr.bool_inv;cases vH
 have stays:∀(sp:Nat→Bool) (ts:List TypeId) (vs:List Value) (ds:List (DataW H)) (ps:List MemPlace),ts.all (fun t=>C.P.readableRec t&&decide (t<C.P.types.size))=true→(∀x∈ps,x.block<W.heap.size)→(∀x∈ps,sp x.block=true)→
  DataW.TrodAll enc C.P W 0 (fun _=>true) true ts vs ds ps→DataW.TrodAll enc C.P W' 0 sp true ts vs ds ps:=by
  intro sp ts
  induction ts with
  |nil=>intro vs ds ps _ _ _ h;cases vs<;>cases ds<;>first|exact h|exact h.elim
  |cons t ts ih=>
   intro vs ds ps ha rW qq h;cases vs with
   |nil=>cases ds<;>exact h.elim
   |cons v vs=>cases ds with
    |nil=>exact h.elim
    |cons d ds=>
     obtain⟨p,q,h1,h2,rfl⟩:=h;simp only[pO,ak,decide_eq_true_eq] at ha
     exact⟨p,q,WideElems.Trod_stays hl ha.1.1 ha.1.2 h1 (fun x hx=>hb.same (rW x (jh _ hx))) (fun x hx=>qq x (jh _ hx)),
      ih vs ds q (by simpa using ha.2) (fun x hx=>rW x (jM _ hx)) (fun x hx=>qq x (jM _ hx)) h2,rfl⟩
 have V4:∀x∈p,x.block<W.heap.size:=fun x hx=>af x (jh _ hx);have ia:=fun sp (h:∀x∈p,sp x.block=true)=>stays sp _ _ _ _ aiF V4 h hA;have tR:∀(b:Nat) (sp:Nat→Bool) (hd:Bool),DataW.TrodAll enc C.P W' b sp hd fn.resultTypes.toList ((Value.bool true).resultList fn.resultTypes.size) [.lit (.bool true)] []:=by
  intro b sp hd;rw[fB];exact trodAll_mk1 (shut_bool Ww true)
 refine⟨ds,[],p++[],[],p,[],G0,?_,?_,?_,World.keptBut_mono (fun x hx=>⟨hx,?_⟩) (hb.frame (·∈p++[])),fun _=>?_⟩
 ·rw[s1];exact tR _ _ _
 ·rw[s2];simpa using ia _ (fun x hx=>by simpa using V4 x hx)
 ·rw[s3,Nc];rfl
 ·simpa using hx
 ·refine⟨ok_one fB rfl (okWide_bool_mk Ww true),_,[],([]++p)++[],⟨[]++p,[],trodAll_append (ia _ (fun _ _=>rfl)) (tR _ _ _),by rw[Nc];exact rfl,rfl,?_,?_⟩,?_⟩
  ·intro b off hp;have bD:MemPlace.cell b off∈p++[]:=by simpa using hp
   rw[hb.frozen (af _ bD)];exact Ck b off bD
  ·intro ha;simpa using bk ha
  ·intro x hx _;simpa using hx
end Cx
namespace Cx
open Go Go.RowKit
abbrev cC:=Nat→aP
def ao (T:cC)(f:Nat)(ds:List D)(d:D):Prop:=∃n0,∀n,n0≤n→T n f ds=some d
def xk (T:cC)(l:List PI)(ρ:Env)(Q:Env→Prop):Prop:=∃ρ',Q ρ'∧∃n0,∀n,n0≤n→PI.runs (T n) l ρ=some ρ'
def aT (T:cC)(c:PC)(ρ:Env)(Q:Out→Prop):Prop:=∃x,Q x∧∃n0,∀n,n0≤n→c.ev (T n) n ρ=some x
theorem aT.mono {T:cC}{c:PC}{ρ:Env}{Q Q':Out→Prop}(h:aT T c ρ Q)(hq:∀x,Q x→Q' x):aT T c ρ Q':=by
 obtain⟨x,hx,n0,hn⟩:=h;exact⟨x,hq x hx,n0,hn⟩
theorem xk.nil {T:cC}{ρ:Env}{Q:Env→Prop}(h:Q ρ):xk T [] ρ Q:=⟨ρ,h,0,fun _ _=>rfl⟩
theorem xk.cons {T:cC}{p:PI}{l:List PI}{ρ ρ1:Env}{Q:Env→Prop}{n0:Nat}(h:∀n,n0≤n→p.run (T n) ρ=some ρ1)(k:xk T l ρ1 Q):xk T (p::l) ρ Q:=by
 obtain⟨ρ',hQ,n1,h1⟩:=k;exact⟨ρ',hQ,max n0 n1,fun n hn=>by simp[PI.runs,h n (by omega),h1 n (by omega)]⟩
def gI (T:cC):List PI→Env→(Env→Prop)→Prop
 |[],ρ,Q=>Q ρ
 |.setR t e::l,ρ,Q=>gI T l (ρ.setR t (e.ev ρ)) Q
 |.setO t e::l,ρ,Q=>gI T l (ρ.setO t (e.ev ρ)) Q
 |.chk e::l,ρ,Q=>(e.ev ρ).b=true∧gI T l ρ Q
 |.call gs dst f args::l,ρ,Q=>if holds gs ρ=true then ∃d,ao T f (PE.evs ρ args) d∧gI T l (ρ.setR dst d) Q else gI T l ρ Q
 |.callc gs dst e args::l,ρ,Q=>if holds gs ρ=true then ∃f caps d,e.ev ρ=.clo f caps∧ao T f (PE.evs ρ args++caps) d∧gI T l (ρ.setR dst d) Q else gI T l ρ Q
 |.mcall j f args::l,ρ,Q=>∃d,ao T f (PE.evs ρ args) d∧gI T l (ρ.setO j d) Q
theorem sL {T:cC}:∀{l:List PI} {ρ:Env} {Q:Env→Prop},gI T l ρ Q→xk T l ρ Q
 |[],ρ,Q,h=>.nil h
 |.setR t e::l,ρ,Q,h=>.cons (n0:=0) (fun _ _=>rfl) (sL h)
 |.setO t e::l,ρ,Q,h=>.cons (n0:=0) (fun _ _=>rfl) (sL h)
 |.chk e::l,ρ,Q,h=>.cons (n0:=0) (fun n _=>by simp[PI.run,h.1]) (sL h.2)
 |.call gs dst f args::l,ρ,Q,h=>by
  unfold gI at h;split at h
  ·rename_i hg;obtain⟨d,⟨n0,hn⟩,h⟩:=h;exact .cons (n0:=n0) (fun n hle=>by simp[PI.run,hg,hn n hle]) (sL h)
  ·rename_i hg;exact .cons (n0:=0) (fun n hle=>by simp[PI.run,hg]) (sL h)
 |.callc gs dst e args::l,ρ,Q,h=>by
  unfold gI at h;split at h
  ·rename_i hg;obtain⟨f,caps,d,he,⟨n0,hn⟩,h⟩:=h;exact .cons (n0:=n0) (fun n hle=>by simp[PI.run,hg,he,hn n hle]) (sL h)
  ·rename_i hg;exact .cons (n0:=0) (fun n hle=>by simp[PI.run,hg]) (sL h)
 |.mcall j f args::l,ρ,Q,h=>by
  obtain⟨d,⟨n0,hn⟩,h⟩:=h;exact .cons (n0:=n0) (fun n hle=>by simp[PI.run,hn n hle]) (sL h)
def kH (ρ:Env)(lr lo:List Nat)(Q:Out→Prop):Out→Prop
 |.next ρ'=>Q (.next (ρ.join lr lo ρ'))
 |x=>Q x
def lJ (ρ:Env)(id:Nat)(lr lo:List Nat)(Q:Out→Prop):Out→Prop
 |.next ρ'=>Q (.next (ρ.join lr lo ρ'))
 |.exit bN ρ'=>if bN=id then Q (.next (ρ.join lr lo ρ')) else Q (.exit bN ρ')
 |.ret d=>Q (.ret d)
def gG (K:Env→Prop)(Q:Out→Prop):Out→Prop
 |.next ρ'=>K ρ'
 |.exit id ρ'=>Q (.exit id ρ')
 |.ret d=>Q (.ret d)
theorem aT.is {T:cC}{l:List PI}{ρ:Env}{Q:Out→Prop}(h:gI T l ρ fun ρ'=>Q (.next ρ')):aT T (.is l) ρ Q:=by
 obtain⟨ρ',hQ,n0,hn⟩:=sL h;exact⟨.next ρ',hQ,n0,fun n hle=>by simp[PC.ev,hn n hle]⟩
theorem aT.skip {T:cC}{ρ:Env}{Q:Out→Prop}(h:Q (.next ρ)):aT T .skip ρ Q:=⟨_,h,0,fun _ _=>rfl⟩
theorem aT.exit {T:cC}{ρ:Env}{id:Nat}{Q:Out→Prop}(h:Q (.exit id ρ)):aT T (.exit id) ρ Q:=⟨_,h,0,fun _ _=>rfl⟩
theorem aT.ret {T:cC}{ρ:Env}{e:PE}{Q:Out→Prop}(h:Q (.ret (e.ev ρ))):aT T (.ret e) ρ Q:=⟨_,h,0,fun _ _=>rfl⟩
theorem aT.seq {T:cC}{a b:PC}{ρ:Env}{Q:Out→Prop}(h:aT T a ρ (gG (fun ρ'=>aT T b ρ' Q) Q)):aT T (.seq a b) ρ Q:=by
 obtain⟨x,hx,n0,hn⟩:=h;cases x with
 |next ρ'=>
  obtain⟨y,hy,n1,h1⟩:=hx;exact⟨y,hy,max n0 n1,fun n hle=>by simp[PC.ev,hn n (by omega),h1 n (by omega)]⟩
 |exit id ρ'=>exact⟨_,hx,n0,fun n hle=>by simp[PC.ev,hn n hle]⟩
 |ret d=>exact⟨_,hx,n0,fun n hle=>by simp[PC.ev,hn n hle]⟩
theorem aT.ite {T:cC}{c:PE}{lr lo:List Nat}{a b:PC}{ρ:Env}{Q:Out→Prop}(h:if(c.ev ρ).b=true then aT T a ρ (kH ρ lr lo Q) else aT T b ρ (kH ρ lr lo Q)):aT T (.ite c lr lo a b) ρ Q:=by
 split at h
 all_goals
  rename_i hc;obtain⟨x,hx,n0,hn⟩:=h;cases x with
  |next ρ'=>exact⟨_,hx,n0,fun n hle=>by simp[PC.ev,hc,hn n hle]⟩
  |exit id ρ'=>exact⟨_,hx,n0,fun n hle=>by simp[PC.ev,hc,hn n hle]⟩
  |ret d=>exact⟨_,hx,n0,fun n hle=>by simp[PC.ev,hc,hn n hle]⟩
theorem aT.block {T:cC}{id:Nat}{lr lo:List Nat}{a:PC}{ρ:Env}{Q:Out→Prop}(h:aT T a ρ (lJ ρ id lr lo Q)):aT T (.block id lr lo a) ρ Q:=by
 obtain⟨x,hx,n0,hn⟩:=h;cases x with
 |next ρ'=>exact⟨_,hx,n0,fun n hle=>by simp[PC.ev,hn n hle]⟩
 |exit bN ρ'=>
  simp only[lJ] at hx;split at hx
  ·rename_i e;subst e;exact⟨_,hx,n0,fun n hle=>by simp[PC.ev,hn n hle]⟩
  ·rename_i e;exact⟨_,hx,n0,fun n hle=>by simp[PC.ev,hn n hle,dY e]⟩
 |ret d=>exact⟨_,hx,n0,fun n hle=>by simp[PC.ev,hn n hle]⟩
theorem aT.loop {T:cC}{lr lo:List Nat}{a:PC}{ρ:Env}{Q:Out→Prop}{α:Type}(inv:α→List D→List D→Prop)(uh:α→Nat)(s0:α)(h0:inv s0 (lr.map ρ.r) (lo.map ρ.o))
 (step:∀s vr vo,inv s vr vo→aT T a (ρ.put lr vr lo vo) (gG (fun ρ'=>∃s',uh s'<uh s∧inv s' (lr.map ρ'.r) (lo.map ρ'.o)) Q)):aT T (.loop lr lo a) ρ Q:=by
 have key:∀(m:Nat) (s:α) (vr vo:List D),uh s≤m→inv s vr vo→∃x,Q x∧∃n0,∀n k,n0≤n→n0≤k→fE (a.ev (T n) n) ρ lr lo k vr vo=some x:=by
  intro m
  induction m with
  |zero=>
   intro s vr vo hm hi;obtain⟨x,hx,n0,hn⟩:=step s vr vo hi;cases x with
   |next ρ'=>obtain⟨s',af,_⟩:=hx;omega
   |exit id ρ'=>
    refine⟨_,hx,n0+1,fun n k hle hk=>?_⟩;obtain⟨k',rfl⟩:∃k',k=k'+1:=⟨k-1,by omega⟩
    simp[fE,hn n (by omega)]
   |ret d=>
    refine⟨_,hx,n0+1,fun n k hle hk=>?_⟩;obtain⟨k',rfl⟩:∃k',k=k'+1:=⟨k-1,by omega⟩
    simp[fE,hn n (by omega)]
  |succ m ih=>
   intro s vr vo hm hi;obtain⟨x,hx,n0,hn⟩:=step s vr vo hi;cases x with
   |next ρ'=>
    obtain⟨s',af,cU⟩:=hx;obtain⟨y,hy,n1,h1⟩:=ih s' _ _ (by omega) cU;refine⟨y,hy,max n0 n1+1,fun n k hle hk=>?_⟩;obtain⟨k',rfl⟩:∃k',k=k'+1:=⟨k-1,by omega⟩
    simp[fE,hn n (by omega),h1 n k' (by omega) (by omega)]
   |exit id ρ'=>
    refine⟨_,hx,n0+1,fun n k hle hk=>?_⟩;obtain⟨k',rfl⟩:∃k',k=k'+1:=⟨k-1,by omega⟩
    simp[fE,hn n (by omega)]
   |ret d=>
    refine⟨_,hx,n0+1,fun n k hle hk=>?_⟩;obtain⟨k',rfl⟩:∃k',k=k'+1:=⟨k-1,by omega⟩
    simp[fE,hn n (by omega)]
 obtain⟨x,hx,n0,hn⟩:=key (uh s0) s0 _ _ (bf _) h0;exact⟨x,hx,n0,fun n hle=>by simp only[PC.ev];exact hn n n hle hle⟩
def rC (ρ:Env)(lo:List Nat)(rt:Option PE)(K:List D→Prop)(Q:Out→Prop):Out→Prop
 |.next ρ'=>K (lo.map ρ'.o)
 |.exit id ρ'=>if id=cG then ∃e,rt=some e∧Q (.ret (e.ev (ρ.put [] [] lo (lo.map ρ'.o)))) else Q (.exit id (ρ.put [] [] lo (lo.map ρ'.o)))
 |.ret _=>False
theorem aT.each {T:cC}{e:PE}{ps lo:List Nat}{rt:Option PE}{a:PC}{ρ:Env}{Q:Out→Prop}(xs:List D)(he:(e.ev ρ).l=xs)(inv:Nat→List D→Prop)(h0:inv 0 (lo.map ρ.o))
 (step:∀k x vo,xs[k]?=some x→inv k vo→aT T a (ρ.put ps (partsOf ps x) lo vo) (rC ρ lo rt (inv (k+1)) Q)) (done:∀vo,inv xs.length vo→Q (.next (ρ.put [] [] lo vo))):aT T (.each e ps lo rt a) ρ Q:=by
 have key:∀(r k:Nat) (vo:List D),k+r=xs.length→inv k vo→∃x,Q x∧∃n0,∀n,n0≤n→gh (a.ev (T n) n) ρ ps lo rt (xs.drop k) vo=some x:=by
  intro r
  induction r with
  |zero=>
   intro k vo hk hi;have:xs.drop k=[]:=by rw[JU];omega
   obtain rfl:k=xs.length:=by omega
   exact⟨_,done vo hi,0,fun n _=>by rw[this];rfl⟩
  |succ r ih=>
   intro k vo hk hi;have af:k<xs.length:=by omega
   rw[JT af];obtain⟨y,hy,n0,hn⟩:=step k xs[k] vo (bA af) hi;cases y with
   |next ρ'=>
    obtain⟨z,hz,n1,h1⟩:=ih (k+1) _ (by omega) hy;exact⟨z,hz,max n0 n1,fun n hle=>by simp only[gh,hn n (by omega)];exact h1 n (by omega)⟩
   |exit id ρ'=>
    simp only[rC] at hy;split at hy
    ·rename_i cA;obtain⟨e,h1,h2⟩:=hy;exact⟨_,h2,n0,fun n hle=>by subst cA;simp[gh,hn n hle,h1]⟩
    ·rename_i cA;exact⟨_,hy,n0,fun n hle=>by simp[gh,hn n hle,dY cA]⟩
   |ret d=>exact hy.elim
 obtain⟨x,hx,n0,hn⟩:=key xs.length 0 _ (by omega) h0;exact⟨x,hx,n0,fun n hle=>by simp only[PC.ev,he];exact hn n hle⟩
theorem ZH {α:Type}:∀(l:List α),∃L:List (List α),∀ys,ys∈L↔ys.Perm l
 |[]=>⟨[[]],fun ys=>by simp⟩
 |x::l=>by
  obtain⟨L,hL⟩:=ZH l;refine⟨L.flatMap fun ys=>(List.range (ys.length+1)).map fun i=>ys.take i++x::ys.drop i,fun zs=>?_⟩;simp only[mz,eO,bX];constructor
  ·rintro⟨ys,hy,i,_,rfl⟩;have h1:=(hL ys).1 hy;refine(List.perm_middle).trans (.cons x ?_);rw[J5];exact h1
  ·intro h;have hx:x∈zs:=h.symm.subset (dt ..);obtain⟨s,t,rfl⟩:=Tw hx;refine⟨s++t,(hL _).2 ?_,s.length,by simp;omega,by simp⟩;exact(List.perm_cons x).1 ((List.perm_middle).symm.trans h)
theorem aT.meach {T:cC}{J:Nat}{ps cH lo:List Nat}{a:PC}{ρ:Env}{Q:Out→Prop}(es:List (D×D))(he:ρ.o J=.tup [.list [],.map es])(inv:List D→List D→Prop)(h0:inv [] (lo.map ρ.o))
 (step:∀done x rest vo,(done++x::rest).Perm (gX (.map es))→inv done vo→aT T a ((ρ.put ps (cH.map x.tget) lo vo).setO J (.tup [.list (done++[x]),.map es])) (fun y=>∃ρ',y=.next ρ'∧inv (done++[x]) (lo.map ρ'.o)))
 (last:∃vo,(∀done,done.Perm (gX (.map es))→∀mq,inv done mq→mq=vo)∧Q (.next (ρ.put [] [] lo vo))):aT T (.meach J ps cH lo a) ρ Q:=by
 obtain⟨vo,hl,hQ⟩:=last;have key:∀(xs done:List D) (vs:List D),(done++xs).Perm (gX (.map es))→inv done vs→∃n0,∀n,n0≤n→kW (a.ev (T n) n) ρ J (.map es) ps cH lo xs done vs=some vo:=by
  intro xs
  induction xs with
  |nil=>intro done vs hp hi;exact⟨0,fun n _=>by rw[hl done (by simpa using hp) vs hi];rfl⟩
  |cons x xs ih=>
   intro done vs hp hi;obtain⟨y,⟨ρ',rfl,cU⟩,n0,hn⟩:=step done x xs vs hp hi;obtain⟨n1,h1⟩:=ih (done++[x]) _ (by simpa using hp) cU;exact⟨max n0 n1,fun n hle=>by simp only[kW,hn n (by omega)];exact h1 n (by omega)⟩
 have lQ:∀(L:List (List D)),(∀ys,ys∈L→ys.Perm (gX (.map es)))→∃n0,∀n,n0≤n→∀ys,ys∈L→kW (a.ev (T n) n) ρ J (.map es) ps cH lo ys [] (lo.map ρ.o)=some vo:=by
  intro L
  induction L with
  |nil=>intro _;exact⟨0,fun n _ ys hy=>by cases hy⟩
  |cons y L ih=>
   intro hL;obtain⟨n0,fL⟩:=ih fun ys hy=>hL ys (dk _ hy);obtain⟨n1,h1⟩:=key y [] _ (by simpa using hL y (dt ..)) h0;refine⟨max n0 n1,fun n hle ys hy=>?_⟩;rcases cD.1 hy with e|hy
   ·subst e;exact h1 n (by omega)
   ·exact fL n (by omega) ys hy
 obtain⟨L,hL⟩:=ZH (gX (.map es));obtain⟨n0,hn⟩:=lQ L fun ys hy=>(hL ys).1 hy;refine⟨_,hQ,n0,fun n hle=>?_⟩;simp only[PC.ev,wI];refine⟨vo,⟨by rw[he];rfl,fun ys hy=>?_⟩,rfl⟩;rw[he] at hy ⊢;exact hn n hle ys ((hL ys).2 hy)
theorem bounded {Q:Nat→Nat→Prop}:∀(L:Nat),(∀m,m≤L→∃n0,∀n,n0≤n→Q m n)→∃n0,∀n,n0≤n→∀m,m≤L→Q m n
 |0,h=>by
  obtain⟨n0,hn⟩:=h 0 (bf _)
  exact⟨n0,fun n hle m hm=>by obtain rfl:m=0:=by omega
                              exact hn n hle⟩
 |L+1,h=>by
  obtain⟨n0,hn⟩:=bounded L fun m hm=>h m (by omega);obtain⟨n1,h1⟩:=h (L+1) (bf _);refine⟨max n0 n1,fun n hle m hm=>?_⟩;by_cases e:m=L+1
  ·subst e;exact h1 n (by omega)
  ·exact hn n (by omega) m (by omega)
theorem ao.of_pc {tab:Nat→Option PC}{ext:Nat→Option (aP→List D→Option D)}{f:Nat}{pc:PC}{ds:List D}{d:D}(hx:ext f=none)(ht:tab f=some pc)(h:aT (dM tab ext) pc (kr ds) (fun x=>x=.ret d)):ao (dM tab ext) f ds d:=by
 obtain⟨x,rfl,n0,hn⟩:=h;refine⟨n0+1,fun n hle=>?_⟩;obtain⟨k,rfl⟩:∃k,n=k+1:=⟨n-1,by omega⟩
 simp[dM,hx,ht,hn k (by omega)]
theorem ao.of_ext {tab:Nat→Option PC}{ext:Nat→Option (aP→List D→Option D)}{f:Nat}{g:aP→List D→Option D}{ds:List D}{d:D}(hx:ext f=some g)(h:∃n0,∀n,n0≤n→g (dM tab ext n) ds=some d):ao (dM tab ext) f ds d:=by
 obtain⟨n0,hn⟩:=h;refine⟨n0+1,fun n hle=>?_⟩;obtain⟨k,rfl⟩:∃k,n=k+1:=⟨n-1,by omega⟩
 simp[dM,hx,hn k (by omega)]
def EO (T:cC)(xs:List D)(m:Nat):cC:=fun n=>yldΦ (T n) xs m
theorem ao.yld {T:cC}{xs:List D}{m f:Nat}{ds:List D}{d:D}(h:ao T f ds d)(hf:f≠mw):ao (EO T xs m) f ds d:=by
 obtain⟨n0,hn⟩:=h;exact⟨n0,fun n hle=>by simp[EO,yldΦ,hf,hn n hle]⟩
theorem ao.answer {T:cC}{xs l:List D}{m i:Nat}(hl:l=xs.take (i+1))(hi:i<xs.length)(hm:i≤m):ao (EO T xs m) mw [.list l] (.v (.bool (decide (i<m)))):=by
 subst hl;refine⟨0,fun n _=>?_⟩;have h1:(xs.take (i+1)).length=i+1:=by rw[dR];omega
 simp only[EO,yldΦ,if_true,h1];rw[if_pos ⟨by omega,by omega,trivial⟩];rfl
theorem ao.of_it {tab:Nat→Option PC}{ext:Nat→Option (aP→List D→Option D)}{f:Nat}{pc:PC}{J k:Nat}{spec:List D→List D}{ds:List D}(hx:ext f=some (C7 pc J k spec))(hk:∀x,x∈spec ds→∃ds',x=.tup ds'∧ds'.length=k)
 (h:∀m,m≤(spec ds).length→aT (EO (dM tab ext) (spec ds) m) pc (yJ J ds) (fun x=>x=.ret (.list ((spec ds).take (m+1))))):ao (dM tab ext) f ds (.list (spec ds)):=by
 refine ao.of_ext hx ?_
 obtain⟨n0,hn⟩:=bounded (Q:=fun m n=>pc.ev (yldΦ (dM tab ext n) (spec ds) m) n (yJ J ds)=some (.ret (.list ((spec ds).take (m+1))))) (spec ds).length (fun m hm=>by
  obtain⟨x,rfl,n0,hn⟩:=h m hm;exact⟨n0,hn⟩)
 refine⟨n0,fun n hle=>?_⟩;unfold C7;rw[if_pos];exact⟨fun m hm=>⟨n,hn n hle m hm⟩,hk⟩
theorem ao.fnOK {C:Ctx}{tab:Nat→Option PC}{ext:Nat→Option (aP→List D→Option D)}(h:TabOK C tab ext){f:Nat}{s:Sig}{ds:List D}{d:D}(hs:C.sig f=some s)(hr:ao (dM tab ext) f ds d)(hm:pg s.mode=false:=by rfl):gK C f s ds d:=by
 obtain⟨n0,hn⟩:=hr;exact((TK h n0).1 f ds d (hn n0 (bf _)) s hs).1 hm
def Le (Φ Ψ:aP):Prop:=∀f ds d,Φ f ds=some d→Ψ f ds=some d
theorem PI.run_mono {Φ Ψ:aP}(h:Le Φ Ψ){p:PI}{ρ ρ':Env}(hr:p.run Φ ρ=some ρ'):p.run Ψ ρ=some ρ':=by
 cases p with
 |setR t e=>exact hr
 |setO t e=>exact hr
 |chk e=>exact hr
 |call gs d f aa=>
  simp only[PI.run] at hr ⊢;cases hg:holds gs ρ<;>simp only[hg,cond_true,cond_false] at hr ⊢
  ·exact hr
  ·simp only[az] at hr ⊢;obtain⟨x,hx,e⟩:=hr;exact⟨x,h _ _ _ hx,e⟩
 |callc gs d f aa=>
  simp only[PI.run] at hr ⊢;cases hg:holds gs ρ<;>simp only[hg,cond_true,cond_false] at hr ⊢
  ·exact hr
  ·split at hr
   ·simp only[az] at hr ⊢;obtain⟨x,hx,e⟩:=hr;exact⟨x,h _ _ _ hx,e⟩
   ·cases hr
 |mcall j f aa=>
  simp only[PI.run,az] at hr ⊢;obtain⟨x,hx,e⟩:=hr;exact⟨x,h _ _ _ hx,e⟩
theorem PI.runs_mono {Φ Ψ:aP}(h:Le Φ Ψ):∀{l:List PI} {ρ ρ':Env},PI.runs Φ l ρ=some ρ'→PI.runs Ψ l ρ=some ρ'
 |[],ρ,ρ',hr=>hr
 |p::l,ρ,ρ',hr=>by
  simp only[PI.runs,au] at hr ⊢;obtain⟨x,hx,e⟩:=hr;exact⟨x,PI.run_mono h hx,PI.runs_mono h e⟩
theorem Xt {b c:Env→Option Out}(h:∀ρ x,b ρ=some x→c ρ=some x){ρ:Env}{lr lo:List Nat}:∀{n m:Nat} {vr vo:List D} {x:Out},n≤m→fE b ρ lr lo n vr vo=some x→fE c ρ lr lo m vr vo=some x
 |0,m,vr,vo,x,_,hr=>by simp[fE] at hr
 |n+1,m,vr,vo,x,hle,hr=>by
  obtain⟨m,rfl⟩:∃k,m=k+1:=⟨m-1,by omega⟩
  simp only[fE] at hr ⊢;cases hb:b (ρ.put lr vr lo vo) with
  |none=>rw[hb] at hr;cases hr
  |some y=>
   rw[h _ _ hb];rw[hb] at hr;cases y with
   |next ρ'=>exact Xt h (by omega) hr
   |exit id ρ'=>exact hr
   |ret d=>exact hr
theorem UD {b c:Env→Option Out}(h:∀ρ x,b ρ=some x→c ρ=some x){ρ:Env}{ps lo:List Nat}{rt:Option PE}:∀{xs vo:List D} {x:Out},gh b ρ ps lo rt xs vo=some x→gh c ρ ps lo rt xs vo=some x
 |[],vo,x,hr=>hr
 |y::xs,vo,x,hr=>by
  simp only[gh] at hr ⊢;cases hb:b (ρ.put ps (partsOf ps y) lo vo) with
  |none=>rw[hb] at hr;cases hr
  |some z=>
   rw[h _ _ hb];rw[hb] at hr;cases z with
   |next ρ'=>exact UD h hr
   |exit id ρ'=>exact hr
   |ret d=>cases hr
theorem ZG {b c:Env→Option Out}(h:∀ρ x,b ρ=some x→c ρ=some x){ρ:Env}{J:Nat}{es:D}{ps cH lo:List Nat}:∀{xs done vo mq:List D},kW b ρ J es ps cH lo xs done vo=some mq→kW c ρ J es ps cH lo xs done vo=some mq
 |[],_,_,_,hr=>hr
 |x::xs,done,vo,mq,hr=>by
  simp only[kW] at hr ⊢;split at hr
  ·rename_i ρ' hb;rw[h _ _ hb];exact ZG h hr
  ·cases hr
theorem PC.ev_mono {Φ Ψ:aP}(h:Le Φ Ψ){n m:Nat}(hle:n≤m):∀{c:PC} {ρ:Env} {x:Out},c.ev Φ n ρ=some x→c.ev Ψ m ρ=some x:=by
 intro c
 induction c with
 |skip=>intro ρ x hr;exact hr
 |is l=>
  intro ρ x hr;simp only[PC.ev,az] at hr ⊢;obtain⟨y,hy,e⟩:=hr;exact⟨y,PI.runs_mono h hy,e⟩
 |seq a b bh dq=>
  intro ρ x hr;simp only[PC.ev] at hr ⊢;cases ha:a.ev Φ n ρ with
  |none=>rw[ha] at hr;cases hr
  |some y=>rw[bh ha];rw[ha] at hr;cases y<;>first|exact dq hr|exact hr
 |ite c lr lo a b bh dq=>
  intro ρ x hr;simp only[PC.ev] at hr ⊢;cases hc:(c.ev ρ).b<;>simp only[hc,cond_true,cond_false] at hr ⊢
  ·cases ha:b.ev Φ n ρ with
   |none=>rw[ha] at hr;cases hr
   |some y=>rw[dq ha];rw[ha] at hr;exact hr
  ·cases ha:a.ev Φ n ρ with
   |none=>rw[ha] at hr;cases hr
   |some y=>rw[bh ha];rw[ha] at hr;exact hr
 |block id lr lo a bh=>
  intro ρ x hr;simp only[PC.ev] at hr ⊢;cases ha:a.ev Φ n ρ with
  |none=>rw[ha] at hr;cases hr
  |some y=>rw[bh ha];rw[ha] at hr;exact hr
 |loop lr lo a bh=>intro ρ x hr;exact Xt (fun ρ x=>bh) hle hr
 |exit id=>intro ρ x hr;exact hr
 |ret e=>intro ρ x hr;exact hr
 |each e ps lo rt a bh=>intro ρ x hr;exact UD (fun ρ x=>bh) hr
 |meach J ps cH lo a bh=>
  intro ρ x hr;simp only[PC.ev,wI] at hr ⊢;obtain⟨vo,⟨h1,h2⟩,rfl⟩:=hr;exact⟨vo,⟨h1,fun ys hy=>ZG (fun ρ x=>bh) (h2 ys hy)⟩,rfl⟩
theorem Env.setR_r (ρ:Env)(t u:Nat)(d:D):(ρ.setR t d).r u=if u=t then d else ρ.r u:=by simp only[Env.setR,eN]
theorem Env.setO_o (ρ:Env)(t u:Nat)(d:D):(ρ.setO t d).o u=if u=t then d else ρ.o u:=by simp only[Env.setO,eN]
theorem Env.join_r (ρ ρ':Env)(lr lo:List Nat)(u:Nat):(ρ.join lr lo ρ').r u=if u∈lr then ρ'.r u else ρ.r u:=by simp only[Env.join,Env.put,su]
theorem Env.join_o (ρ ρ':Env)(lr lo:List Nat)(u:Nat):(ρ.join lr lo ρ').o u=if u∈lo then ρ'.o u else ρ.o u:=by simp only[Env.join,Env.put,su]
theorem IB (f:Nat→D)(i:Nat)(is:List Nat)(x:D)(xs:List D)(u:Nat):putL f (i::is) (x::xs) u=if u=i then x else putL f is xs u:=by simp only[putL,eN]
theorem IC (f:Nat→D)(xs:List D)(u:Nat):putL f [] xs u=f u:=by cases xs<;>rfl
theorem ain (g:Nat×Bool)(gs:List (Nat×Bool))(ρ:Env):holds (g::gs) ρ=((ρ.r g.1).b==g.2&&holds gs ρ):=rfl
theorem D.cells_none:D.none.cells=[.none]:=rfl
theorem D.tget_tup (x:List D)(i:Nat):(D.tup x).tget i=x.getD i .none:=rfl
theorem D.c_agg (x:List D)(i:Nat):(D.agg x).c i=x.getD i .none:=rfl
end Cx
