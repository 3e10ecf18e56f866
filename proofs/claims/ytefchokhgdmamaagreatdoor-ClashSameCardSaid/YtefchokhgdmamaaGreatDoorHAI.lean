/-
  Shared texts of this claim.
-/
import Derived.Test.YtefchokhgdmamaaGreatDoorHAH
import Derived.Below
import Derived.ChangeSame
import Derived.WalkKit
import Derived.ProofKit
import Derived.OpenShut
import Derived.Carry
import Derived.JoinedCond
set_option linter.unusedSimpArgs false
set_option linter.unusedVariables false
noncomputable section
namespace Cx
open Go Go.RowKit
def Tz (m:Nat)(s:Sig):Snap:=⟨s.args.map .dat++List.replicate (m-s.args.length) .none,[]⟩
def kR (ds:List D):Env:=⟨fun t=>ds.getD t .none,fun _=>.none⟩
def ye (C:Ctx)(fn:Func)(s:Sig)(ids:List Nat)(S0:Snap):Option PC:=
 match fn.body with
 |some c=>
  (comp C fn s fn.ntmps ids (IW C fn.ntmps ids) false c S0).bind fun r=>
    match r.out with
    |none=>some r.pc
    |some S=>(wO C fn s (S.st ids)).map fun e=>.seq r.pc (.ret e)
 |none=>none
def K1 (m:Nat)(shs:List Sh)(obs:List (Nat×Ob))(ids:List Nat):Snap:=⟨shs++List.replicate (m-shs.length) .none,ids.map (eA obs)⟩
def F9 (shs:List Sh)(obs:List (Nat×Ob))(ds:List D):Env:=l9 obs ds (ds.drop shs.length)
def CT (l:List Nat):Nat→List Sh→Bool
 |_,[]=>true
 |t,s::ss=>(mS s|| !fC l t)&&CT l (t+1) ss
def z8:List (Nat×Ob)→Nat→List PI
 |[],_=>[]
 |x::l,k=>z8 l (k+1)++[.setO x.1 (.r k)]
theorem ZH {Φ:aR}:∀(l:List (Nat×Ob)) (k:Nat) (ρ:Env) (ds:List D),(∀i,ρ.r (k+i)=ds.getD i .none)→(∀j,ρ.o j=.none)→PI.runs Φ (z8 l k) ρ=some ⟨ρ.r,fun j=>mV l ds j⟩
 |[],k,ρ,ds,h,ho=>by
  simp only[z8,PI.runs]
  congr 1
  cases ρ with|mk r o=>congr 1;funext j;exact ho j
 |x::l,k,ρ,ds,h,ho=>by
  simp only[z8,nW]
  rw[ZH l (k+1) ρ ds.tail (fun i=>by
   have:=h (i+1);rw[sI,Ax 1 i,this];cases ds<;>simp) ho]
  simp only[jQ,PI.runs,PI.run,PE.ev,Env.setO]
  congr 1
  congr 1
  funext j;rw[fj];have h0:=h 0;simp only[gK] at h0;cases ds with
  |nil=>
   have e:∀m j,mV m [] j=D.none:=fun m j=>by cases m<;>rfl
   rw[h0];split<;>simp[e]
  |cons d ds=>
   simp only[mV,List.tail_cons];by_cases hj:j=x.1
   ·subst hj;rw[if_pos rfl,gL,h0];rfl
   ·rw[if_neg hj,eX (fun e=>hj e.symm)];rfl
theorem alR {Φ:aR}(shs:List Sh)(obs:List (Nat×Ob))(ds:List D):PI.runs Φ (z8 obs shs.length) (kR ds)=some (F9 shs obs ds):=by
 rw[ZH obs shs.length (kR ds) (ds.drop shs.length) (fun i=>by simp[kR,aF]) (fun j=>rfl)];rfl
def EX (fn:Func):List Nat:=match fn.body with|some c=>cu c|none=>[]
def tR:List (Nat×Ob)→Bool
 |[]=>true
 |x::l=>(match x.2 with|.tr=>false|_=>true)&&tR l
def lN (C:Ctx)(fn:Func)(s:Sig)(ids:List Nat):Option PC:=
 match C.yl with
 |none=>
  match s.mode with
  |.ob shs obs=>bif Nat.ble shs.length fn.ntmps&&CT (EX fn) 0 shs&&shs.all rV&&tR obs then(ye C fn s ids (K1 fn.ntmps shs obs ids)).map fun pc=>.seq (.is (z8 obs shs.length)) pc else none
  |_=>bif Nat.ble s.args.length fn.ntmps then ye C fn s ids (Tz fn.ntmps s) else none
 |some _=>none
theorem V9:∀(ids:List Nat) (j:Nat),dM ids [] j=.dead
 |[],_=>rfl
 |_::_,_=>rfl
theorem Tg {C:Ctx}{Φ:aR}(aP:dY C)(hΦ:dF C Φ)(ic:jM C Φ){fn:Func}{s:Sig}{ids:List Nat}{S0:Snap}{pc:PC}{c:Code}(hb:fn.body=some c)(hc:ye C fn s ids S0=some pc){w0:World}{σ0:Base}(jV:σ0.fin)(hC:CtxOK C σ0)(hY:pP C Φ w0 σ0)
 {N:Nat} {ρ:Env} {d:D} {a:Act} {w:World} (hn:a.tmps.size=fn.ntmps) (hg:Good C w0 σ0 (S0.st ids) ρ (fun _=>False) a w) (he:pc.ev Φ N ρ=some (.ret d)):
 c.wpIn (FR none) 0 C.P (fun e a' w'=>(e=.normal∨e=.ret)∧qV C w0 σ0 fn s d a'.tmps a'.defers w'∧SameBut (fun t=>t∈cu c) a a') a w:=by
 unfold ye at hc;rw[hb] at hc;simp only[ao] at hc;obtain⟨r,hr,hc⟩:=hc;have MO:=fun x hx=>acb (fn:=fn) (s:=s) (N:=N) ic (alk (n:=fn.ntmps) (ids:=ids) aP hΦ) c false S0 r hr none w0 σ0 (fun t=>t∈cu c) ρ x a w (fun _=>⟨rfl,jV⟩) hC hY (fun _ h=>h) hn hg hx;split at hc
 ·rename_i jW;cases hc;refine wpIn_mono (MO (.ret d) he) fun e a' w' ho=>?_;cases e with
  |normal=>obtain⟨_,_,h,_⟩:=ho;cases h
  |exit id=>obtain⟨_,_,h,_⟩:=ho;cases h
  |ret=>obtain⟨d',h,h2⟩:=ho;cases h;exact⟨.inr rfl,h2⟩
  |_=>exact ho.elim
 ·rename_i S jW;simp only[av] at hc;obtain⟨pe,tA,rfl⟩:=hc;simp only[PC.ev] at he;split at he
  ·rename_i ρ1 h1;cases he;refine wpIn_mono (MO (.next ρ1) h1) fun e a' w' ho=>?_;cases e with
   |normal=>
    obtain⟨ρ2,S2,e1,e2,oN,dt⟩:=ho;cases e1;rw[jW] at e2;cases e2;obtain⟨σ2,own,hv,hi⟩:=dt;exact⟨.inl rfl,Inv.retD hC (fun _=>rfl) jV tA _ hi rfl,oN⟩
   |exit id=>obtain⟨_,_,h,_⟩:=ho;cases h
   |ret=>obtain⟨d',h,h2⟩:=ho;cases h
   |_=>exact ho.elim
  ·rename_i az;refine wpIn_mono (MO (.ret d) he) fun e a' w' ho=>?_;cases e with
   |normal=>obtain⟨_,_,h,_⟩:=ho;cases h
   |exit id=>obtain⟨_,_,h,_⟩:=ho;cases h
   |ret=>obtain⟨d',h,h2⟩:=ho;cases h;exact⟨.inr rfl,h2⟩
   |_=>exact ho.elim
theorem qV.leaves {C:Ctx}{w0:World}{σ0:Base}{fn:Func}{s:Sig}{d:D}{tmps:Array Value}{R:Ending→World→Prop}(hR:∀w',JU C w0 σ0 fn s d {tmps:=tmps,defers:=[]} w'→∃v,(results fn tmps).run C.P w'=.ok v w'∧R (.returned v) w'):
 ∀(ds:List Deferred) (w:World),qV C w0 σ0 fn s d tmps ds w→LeavesInM (FR none) 0 C.P fn tmps R ds .returning w
 |[],w,h=>hR w h
 |x::ds,w,⟨D,h1,h2,h3⟩=>⟨by simp,.inl ⟨D,_,h1,run_takeDeferred h2,qV.leaves hR ds _ h3⟩⟩
theorem adl {C:Ctx}{σ:Im}{w:World}{args:Array Value}{ds:List D}{s:Sig}{m:Nat}{ids:List Nat}(ax:σ.ok w)(ha:pI C σ s.args args.toList ds):
 Good C w (Base.mk0 σ w.heap.size) ((Tz m s).st ids) (kR ds) (fun _=>False) {tmps:=args++Array.replicate (m-args.size) undef,defers:=[]} w:=by
 obtain⟨h1,h2,h3⟩:=ha;have aA:args.size=s.args.length:=by simpa using h1
 refine⟨σ,fun _=>none,fun _=>undef,trivial,ax,.refl σ,fun _ k e=>(ax.m k _ e).lt,fun _ _ _ h=>.inl h,fun _ _ h=>.inl h,.refl _ _,aU _,(fun k j h=>by cases h),fun t=>?_,fun j=>?_,fun t gs s' e=>absurd e (Snap.noOpt _ _ t gs s'),
  .none,fun _=>False,fun _=>False,⟨⟨fun _=>id,fun _=>id⟩,(fun k j h=>by cases h),fun _ _ _ _=>id,fun _ _ _=>id,fun _ _ _=>id⟩,fun j hj=>?_⟩
 ·show aC C _ _ σ _ (cH ((s.args.map Sh.dat++List.replicate (m-s.args.length) Sh.none).getD t .none)) _ _;rw[aF];by_cases ht:t<s.args.length
  ·rw[kf (by simpa using ht),cA,bo ht];simp only[kg,mD,cH];have:=h3 t _ (bo ht);have e1:(args++Array.replicate (m-args.size) undef).getD t undef=args.toList.getD t undef:=by
        simp only[ej,aF];rw[RR (by omega)];simp
   show aC C _ _ σ _ (.dat _) ((args++Array.replicate (m-args.size) undef).getD t undef) (ds.getD t .none);rw[e1];exact this
  ·rw[iJ (by simpa using ht),aaD];split<;>trivial
 ·show cn C _ _ σ _ _ w _ j (dM ids [] j);rw[V9];trivial
 ·change dM ids [] j=.tr at hj;rw[V9] at hj;cases hj
theorem KL {C:Ctx}{Φ:aR}(aP:dY C)(hΦ:dF C Φ)(ic:jM C Φ){f:Nat}{fn:Func}{s:Sig}{ids:List Nat}{pc:PC}(hf:C.P.funcs[f]?=some fn)(hc:lN C fn s ids=some pc){N:Nat}{ds:List D}{d:D}(cI:oV s.mode=false)
 (he:pc.ev Φ N (kR ds)=some (.ret d)):hZ C f s ds d:=by
 intro σ w args ax hC ha;unfold lN at hc;split at hc
 case h_2=>cases hc
 rename_i lX;split at hc
 case h_1=>rename_i e;rw[e] at cI;cases cI
 cases hle:Nat.ble s.args.length fn.ntmps<;>simp only[hle,cond_true,cond_false] at hc
 ·cases hc
 have L9:=jP hle;have aA:args.size=s.args.length:=by simpa using ha.1
 cases hb:fn.body with
 |none=>unfold ye at hc;rw[hb] at hc;cases hc
 |some c=>
 refine(callsIn_wide (n:=0)).1 (callsIn_of_wp_marks (F:=FR none) hf hb trivial ?_);have hg:=adl (C:=C) (m:=fn.ntmps) (ids:=ids) ax ha;have hn:(args++Array.replicate (fn.ntmps-args.size) undef).size=fn.ntmps:=by simp;omega
 refine wpIn_mono (Tg aP hΦ ic hb hc (σ0:=Base.mk0 σ w.heap.size) trivial hC (fun J ys e=>by rw[lX] at e;cases e) hn hg he) fun e a' w' ho=>?_
 have main:=qV.leaves (R:=fun e w'=>∃v σ',e=.returned v∧σ.le σ'∧σ'.ok w'∧Below w.heap.size w w'∧
  (∀k o x,σ'.c k o=some x→σ.c k o=some x∨w.heap.size≤k)∧(∀k x,σ'.m k=some x→σ.m k=some x∨w.heap.size≤k)∧lJ C s σ' w w' v d) (fun w2 MJ=>by
  obtain⟨v,σ',_,h2,h3,h4,h5,h6,h7,h8⟩:=MJ;exact⟨v,h2,v,σ',rfl,h3,h4,h5,h6,h7,h8⟩) _ _ ho.2.1
 rcases ho.1 with rfl|rfl<;>exact main
def Base.mkO (σ:Im)(own:Nat→Option Nat)(w:World)(cx:Nat→Prop):Base:=
 {σ with
  B:=0
  fin:=True
  F:=fun _ fx kQ w'=>(∀k,fx k↔(k<w.heap.size∧own k=none))∧(∀k,kQ k↔(fx k∧cx k))∧w.heap.size≤w'.heap.size∧∀k,fx k→w'.heap[k]?=w.heap[k]?
  lt:=fun t' fx cx w' h k hk=>uW ((h.1 k).1 hk).1 h.2.2.1
  sub:=fun t' fx cx w' h k hk=>((h.2.1 k).1 hk).1
  keep:=fun t' fx cx w' j9 h hb hs=>⟨h.1,h.2.1,cC h.2.2.1 hb.size,fun k hk=>(hs k hk).trans (h.2.2.2 k hk)⟩}
theorem VT {l:List Nat}:∀{shs:List Sh} {k:Nat},CT l k shs=true→∀(t:Nat) (s:Sh),shs[t]?=some s→mS s=false→(k+t)∉l
 |[],k,_,t,s,h,_=>by simp at h
 |x::shs,k,hk,t,s,h,hd=>by
  simp only[CT,aj,gw,hH] at hk;cases t with
  |zero=>
   simp at h;subst h;rcases hk.1 with h1|h1
   ·rw[hd] at h1;cases h1
   ·intro hm;rw[gK] at hm;rw[(oX _ _).2 hm] at h1;cases h1
  |succ t=>
   simp at h;have:=VT hk.2 t s h hd
   rwa [sI,Ax 1 t] at this
theorem Nt (obs:List (Nat×Ob))(j:Nat):∀ids:List Nat,dM ids (ids.map (eA obs)) j=.dead∨dM ids (ids.map (eA obs)) j=eA obs j
 |[]=>.inl rfl
 |i::is=>by
  simp only[gz,dM];cases hb:Nat.beq i j
  ·exact Nt obs j is
  ·right;rw[au hb];rfl
theorem WJ:∀{l:List (Nat×Ob)},tR l=true→∀x,x∈l→x.2≠.tr
 |[],_,x,hx=>by cases hx
 |y::l,h,x,hx=>by
  simp only[tR,aj] at h;rcases df.1 hx with rfl|hx
  ·intro e;rw[e] at h;cases h.1
  ·exact WJ h.2 x hx
theorem WK:∀{l:List (Nat×Ob)},tR l=true→∀j,eA l j≠.tr
 |[],_,j,e=>by cases e
 |x::l,h,j,e=>by
  simp only[tR,aj] at h;simp only[eA] at e;cases hb:Nat.beq x.1 j<;>simp only[hb,cond_true,cond_false] at e
  ·exact WK h.2 j e
  ·have h1:=h.1;rw[e] at h1;cases h1
theorem adk {C:Ctx}{σ:Im}{own:Nat→Option Nat}{hv:Nat→Value}{w w0:World}{args:Array Value}{cx:Nat→Prop}{shs:List Sh}{obs:List (Nat×Ob)}{ds:List D}{m:Nat}{ids:List Nat}(hN:w0.heap.size≤w.heap.size)(BQ:Below 0 w0 w)(ax:σ.ok w)(be:∀k,σ.m k≠some cP)(aA:args.size=shs.length)
 (aW:∀k j,own k=some j→w0.heap.size≤k∧k<w.heap.size∧(∀o,σ.c k o=none)∧σ.m k=none) (ky:∀k,cx k→k<w.heap.size∧own k=none∧(∀o,σ.c k o=none)∧σ.m k=none) (vV:tR obs=true) (fy:shs.all rV=true)
 (h1:∀t,aC C (fN shs obs) (F9 shs obs ds) σ hv (shs.getD t .none) (args.getD t undef) (ds.getD t .none)) (h2:∀j,cn C (fN shs obs) (F9 shs obs ds) σ own hv w w0.heap.size j (eA obs j)):
 Good C w0 (Base.mkO σ own w cx) ((K1 m shs obs ids).st ids) (F9 shs obs ds) (fun _=>False) {tmps:=args++Array.replicate (m-args.size) undef,defers:=[]} w:=by
 have qe:Compat (fN shs obs) hv ((K1 m shs obs ids).st ids) hv:=⟨fun _=>aU _,fun _ _=>rfl⟩
 refine⟨σ,own,hv,trivial,ax,.refl σ,fun _ k e=>absurd e (be k),fun _ _ _ h=>.inl h,fun _ _ h=>.inl h,BQ,nf _,aW,fun t=>?_,fun j=>?_,fun t gs s' e=>absurd e (Snap.noOpt _ _ t gs s'),
  .none,(fun k=>k<w.heap.size∧own k=none),cx,⟨⟨fun _=>Iff.rfl,fun k=>⟨fun h=>⟨⟨(ky k h).1,(ky k h).2.1⟩,h⟩,fun h=>h.2⟩,aU _,fun _ _=>rfl⟩,(fun k j h hf=>by rw[hf.2] at h;cases h),(fun k o x e hc=>by rw[(ky k hc).2.2.1 o] at e;cases e),(fun k x e hc=>by rw[(ky k hc).2.2.2] at e;cases e),fun k e=>absurd e (be k)⟩,fun j hj=>?_⟩
 ·show aC C _ _ σ _ (cH ((shs++List.replicate (m-shs.length) Sh.none).getD t .none)) _ _;refine Js ?_;rw[aF];by_cases ht:t<shs.length
  ·rw[kf ht];have:=h1 t;rw[aF (l:=shs)] at this;have e1:(args++Array.replicate (m-args.size) undef).getD t undef=args.getD t undef:=by
        simp only[ej];rw[RR (by omega)]
   show aC C _ _ σ _ _ ((args++Array.replicate (m-args.size) undef).getD t undef) (ds.getD t .none);rw[e1];refine aC.mono' (.refl σ) qe (fun gs s' e=>?_) this;have hp:=bz.1 fy _ (ec ht);rw[bo ht] at e;simp only[mD] at e;rw[e] at hp;cases hp
  ·rw[iJ (by omega),aaD];split<;>trivial
 ·show cn C _ _ σ _ _ w _ j (dM ids (ids.map (eA obs)) j);rcases Nt obs j ids with e|e
  ·rw[e];trivial
  ·rw[e];exact(h2 j).mono (.refl σ) qe rfl rfl (fun k hk=>⟨hk,rfl⟩)
 ·change dM ids (ids.map (eA obs)) j=.tr at hj;rcases Nt obs j ids with e|e
  ·rw[e] at hj;cases hj
  ·rw[e] at hj;exact absurd hj (WK vV j)
def F5 (w:World)(N:Nat):World:={w with heap:=w.heap.extract 0 N}
theorem ab6 {C:Ctx}{Φ:aR}(aP:dY C)(hΦ:dF C Φ)(ic:jM C Φ){f:Nat}{fn:Func}{s:Sig}{ids:List Nat}{pc:PC}(hf:C.P.funcs[f]?=some fn)(hc:lN C fn s ids=some pc){N:Nat}{ds:List D}{d:D}{shs:List Sh}{obs:List (Nat×Ob)}(cI:s.mode=.ob shs obs)
 (he:pc.ev Φ N (kR ds)=some (.ret d)):gx C f shs obs s.res ds d:=by
 unfold lN at hc;split at hc
 case h_2=>cases hc
 rename_i lX;rw[cI] at hc;simp only at hc;cases hle:(Nat.ble shs.length fn.ntmps&&CT (EX fn) 0 shs&&shs.all rV&&tR obs)<;>simp only[hle,cond_true,cond_false] at hc
 ·cases hc
 simp only[aj] at hle;obtain⟨⟨⟨l1,l2⟩,l3⟩,l4⟩:=hle;refine gx.of (WJ l4) ?_;intro B σ own hv w args cx _ ax hC be hB aA aW ky h1 h2;simp only[av] at hc;obtain⟨pc,hc,rfl⟩:=hc;simp only[PC.ev,alR,kg] at he;have L9:=jP l1;cases hb:fn.body with
 |none=>unfold ye at hc;rw[hb] at hc;cases hc
 |some c=>
 have cd:EX fn=cu c:=by unfold EX;rw[hb]
 rw[cd] at l2;refine(callsIn_wide (n:=0)).1 (callsIn_of_wp_marks (F:=FR none) hf hb trivial ?_);have lV:(F5 w B).heap.size=B:=by simp[F5];omega
 have BQ:Below 0 (F5 w B) w:=⟨rfl,rfl,rfl,by rw[lV];exact hB,fun k hk=>by omega⟩
 have hg:=adk (C:=C) (m:=fn.ntmps) (ids:=ids) (w0:=F5 w B) (cx:=cx) (by rw[lV];exact hB) BQ ax be aA (by rw[lV];exact aW) ky l4 l3 h1 (by rw[lV];exact h2);have hn:(args++Array.replicate (fn.ntmps-args.size) undef).size=fn.ntmps:=by simp;omega
 refine wpIn_mono (Tg aP hΦ ic hb hc (σ0:=Base.mkO σ own w cx) trivial hC (fun J ys e=>by rw[lX] at e;cases e) hn hg he) fun e a' w' ho=>?_;obtain⟨jB,MJ,jb⟩:=ho
 have main:=qV.leaves (R:=fun e w'=>∃v σ' own' hv' dr os,e=.returned v∧d=.tup (dr::os)∧os.length=obs.length∧σ.le σ'∧σ'.ok w'∧Below 0 w w'∧
  (∀k,k<w.heap.size→own k=none→w'.heap[k]?=w.heap[k]?)∧
  (∀k o x,σ'.c k o=some x→(σ.c k o=some x∨B≤k)∧¬cx k)∧(∀k x,σ'.m k=some x→(σ.m k=some x∨B≤k)∧¬cx k)∧(∀k,σ'.m k=some cP→B≤k→k<w.heap.size→own k≠none)∧
  (∀k j,own' k=some j→B≤k∧k<w'.heap.size∧(∀o,σ'.c k o=none)∧σ'.m k=none∧(k<w.heap.size→own k≠none))∧
  (∀(t:Nat) (sh:Sh),shs[t]?=some sh→mS sh=false→aC C (fN shs obs) (l9 obs ds os) σ' hv' sh (args.getD t undef) (ds.getD t .none))∧
  (∀j,cn C (fN shs obs) (l9 obs ds os) σ' own' hv' w' B j (eA obs j))∧Rep C.cap σ' s.res v dr) (fun w2 hr=>by
  obtain⟨v,σ',⟨own',t,fx,kQ,cW,_,hor⟩,af,jE,Mt,BP,cX,cY,_⟩:=hr;obtain⟨hv',dr,os,e1,e2,e3,e4,e5,e6⟩:=hor shs obs cI;obtain⟨f1,f2,f3,f4⟩:=cW.F;have UC:∀k,cx k→kQ k:=fun k hk=>(f2 k).2 ⟨(f1 k).2 ⟨(ky k hk).1,(ky k hk).2.1⟩,hk⟩;rw[lV] at cX cY e3 e5
  refine⟨v,af,v,σ',own',hv',dr,os,rfl,e1,e2,jE,Mt,⟨BP.os,BP.tape,BP.output,f3,fun k hk=>by omega⟩,fun k hk hn=>f4 k ((f1 k).2 ⟨hk,hn⟩),fun k o x e=>⟨cX k o x e,fun hk=>cW.c k o x e (UC k hk)⟩,fun k x e=>⟨cY k x e,fun hk=>cW.m k x e (UC k hk)⟩,
   fun k e kX hk hn=>cW.d k e (by rw[lV];exact kX) ((f1 k).2 ⟨hk,hn⟩),fun k j hk=>?_,fun t sh hs hd=>?_,fun j=>?_,e6⟩
  ·obtain⟨g1,g2,g3,g4⟩:=e3 k j hk;exact⟨g1,g2,g3,g4,fun ae hn=>cW.own k j hk ((f1 k).2 ⟨ae,hn⟩)⟩
  ·have:=e4 t sh hs hd (ds.getD t .none);have ae:t<shs.length:=(dZ.1 hs).1;have mM:t∉cu c:=by have:=VT l2 t sh hs hd;simpa using this
   have cj:a'.tmps.getD t undef=args.getD t undef:=by
        rw[jb.get t mM];simp only[ej];rw[RR (by omega)]
   simp only at this;rw[cj] at this;have hp:=bz.1 l3 _ (jO hs);exact aC.mono' (.refl σ') ⟨fun _=>aU _,fun _ _=>rfl⟩ (fun gs s' e=>by rw[e] at hp;cases hp) this
  ·exact cn.mono (S:=fN shs obs) (S':=fN shs obs) (ρ:=l9 obs [] os) (ρ':=l9 obs ds os) (hv:=hv') (hv':=hv') (own:=own') (own':=own') (w:=w2) (w':=w2) (.refl σ') ⟨fun _=>aU _,fun _ _=>rfl⟩ rfl rfl (fun k hk=>⟨hk,rfl⟩) (e5 j)) _ _ MJ
 rcases jB with rfl|rfl<;>exact main
open Classical in
def fm (tab:Nat→Option PC)(ext:Nat→Option (aR→List D→Option D)):Nat→aR
 |0=>fun _ _=>none
 |n+1=>fun f ds=>
  match ext f with
  |some g=>g (fm tab ext n) ds
  |none=>
   match tab f with
   |some pc=>(match pc.ev (fm tab ext n) n (kR ds) with|some (.ret d)=>some d|_=>none)
   |none=>none
theorem hZ.hint {C:Ctx}{fr nh:List Nat}{f:Nat}{s:Sig}{ds:List D}{d:D}(h:hZ C f s ds d):hZ {C with fr:=fr,nh:=nh} f s ds d:=
 fun σ w args ax hC ha=>h σ w args ax ⟨hC.glob⟩ ha
theorem hZ.unhint {C:Ctx}{fr nh:List Nat}{f:Nat}{s:Sig}{ds:List D}{d:D}(h:hZ {C with fr:=fr,nh:=nh} f s ds d):hZ C f s ds d:=
 fun σ w args ax hC ha=>h σ w args ax ⟨hC.glob⟩ ha
theorem w8.hint {C:Ctx}{fr nh:List Nat}{f:Nat}{F4 ys:List Ty}{ds xs:List D}(h:w8 C f F4 ys ds xs):w8 {C with fr:=fr,nh:=nh} f F4 ys ds xs:=
 fun σ w yv vs F fx cx m ax hC=>h σ w yv vs F fx cx m ax ⟨hC.glob⟩
theorem gx.hint {C:Ctx}{fr nh:List Nat}{f:Nat}{shs:List Sh}{obs:List (Nat×Ob)}{res:Ty}{ds:List D}{d:D}(h:gx C f shs obs res ds d):gx {C with fr:=fr,nh:=nh} f shs obs res ds d:=h.ctx rfl rfl rfl
theorem gx.unhint {C:Ctx}{fr nh:List Nat}{f:Nat}{shs:List Sh}{obs:List (Nat×Ob)}{res:Ty}{ds:List D}{d:D}(h:gx {C with fr:=fr,nh:=nh} f shs obs res ds d):gx C f shs obs res ds d:=gx.ctx (C':=C) h rfl rfl rfl
theorem dF.hint {C:Ctx}{fr nh:List Nat}{Φ:aR}(h:dF C Φ):dF {C with fr:=fr,nh:=nh} Φ:=
 fun f ds d e s hs=>⟨fun hm=>((h f ds d e s hs).1 hm).hint,fun shs obs hm=>((h f ds d e s hs).2 shs obs hm).hint⟩
theorem jM.hint {C:Ctx}{fr nh:List Nat}{Φ:aR}(h:jM C Φ):jM {C with fr:=fr,nh:=nh} Φ:=
 fun f cs ys hc hi=>let⟨h1,h2⟩:=h f cs ys hc hi;⟨h1,fun ds d e=>let⟨xs,e1,e2,e3⟩:=h2 ds d e;⟨xs,e1,e2,e3.hint⟩⟩
theorem dY.hint {C:Ctx}{fr nh:List Nat}(h:dY C):dY {C with fr:=fr,nh:=nh}:=h
def Ey (C:Ctx)(f:Nat)(s:Sig)(ds:List D)(d:D):Prop:=(oV s.mode=false→hZ C f s ds d)∧∀shs obs,s.mode=.ob shs obs→gx C f shs obs s.res ds d
structure TabOK (C:Ctx) (tab:Nat→Option PC) (ext:Nat→Option (aR→List D→Option D)):Prop where
 clos:dY C
 its:∀f cs ys,C.cap f=some cs→l0 cs.args cs.res=some ys→tab f=none∧∃fn,C.P.funcs[f]?=some fn∧fn.body.isSome=true∧(fn.name== "runtime.NumGoroutine")=false
 tab:∀f pc,ext f=none→tab f=some pc→∃fn s ids fr nh,C.P.funcs[f]?=some fn∧C.sig f=some s∧lN {C with fr:=fr,nh:=nh} fn s ids=some pc
 ext:∀f g,ext f=some g→∀Φ,dF C Φ→jM C Φ→∀ds d,g Φ ds=some d→(∀s,C.sig f=some s→Ey C f s ds d)∧
  ∀cs ys,C.cap f=some cs→l0 cs.args cs.res=some ys→∃xs,d=.list xs∧(∀x,x∈xs→∃ds',x=.tup ds'∧ds'.length=ys.length)∧w8 C f cs.caps ys ds xs
theorem Sr {C:Ctx}{tab:Nat→Option PC}{ext:Nat→Option (aR→List D→Option D)}(h:TabOK C tab ext):∀n,dF C (fm tab ext n)∧jM C (fm tab ext n)
 |0=>⟨fun f ds d e=>by simp[fm] at e,fun f cs ys hc hi=>⟨(h.its f cs ys hc hi).2,fun ds d e=>by simp[fm] at e⟩⟩
 |n+1=>by
  obtain⟨ih,lZ⟩:=Sr h n;refine⟨fun f ds d e=>?_,fun f cs ys hc hi=>⟨(h.its f cs ys hc hi).2,fun ds d e=>?_⟩⟩
  ·simp only[fm] at e;split at e
   ·rename_i g hg;exact(h.ext f g hg _ ih lZ ds d e).1
   ·rename_i hx;split at e
    ·rename_i pc ah;split at e
     ·rename_i d' he;cases e;obtain⟨fn,s,ids,fr,nh,h1,h2,h3⟩:=h.tab f pc hx ah;intro s' oS;rw[h2] at oS;cases oS
      exact⟨fun hm=>(KL (C:={C with fr:=fr,nh:=nh}) (dY.hint h.clos) (dF.hint ih) (jM.hint lZ) h1 h3 hm he).unhint,
       fun shs obs hm=>(ab6 (C:={C with fr:=fr,nh:=nh}) (dY.hint h.clos) (dF.hint ih) (jM.hint lZ) h1 h3 hm he).unhint⟩
     ·cases e
    ·cases e
  ·simp only[fm] at e;split at e
   ·rename_i g hg;exact(h.ext f g hg _ ih lZ ds d e).2 cs ys hc hi
   ·rw[(h.its f cs ys hc hi).1] at e;cases e
open Classical in
def bx {α:Type}:List (Nat×α)→Nat→Option α
 |[],_=>none
 |x::l,f=>bif Nat.beq x.1 f then some x.2 else bx l f
def Er {α:Type}(R:Nat→α→Prop):List (Nat×α)→Prop
 |[]=>True
 |x::l=>R x.1 x.2∧Er R l
theorem Nu {α:Type}{R:Nat→α→Prop}:∀{l:List (Nat×α)},Er R l→∀f x,bx l f=some x→R f x
 |[],_,f,x,h=>by cases h
 |y::l,⟨h1,h2⟩,f,x,h=>by
  simp only[bx] at h;cases hb:Nat.beq y.1 f<;>simp only[hb,cond_true,cond_false] at h
  ·exact Nu h2 f x h
  ·cases h;rw[←cM hb];exact h1
def PZ (P:Program):List (Nat×Sig)→Bool
 |[]=>true
 |x::l=>(match P.funcs[x.1]? with|some fn=>fn.body.isSome&& !(fn.name== "runtime.NumGoroutine")|none=>false)&&PZ P l
theorem Z2 {P:Program}:∀{l:List (Nat×Sig)},PZ P l=true→∀f s,bx l f=some s→∃fn,P.funcs[f]?=some fn∧fn.body.isSome=true∧(fn.name== "runtime.NumGoroutine")=false
 |[],_,f,s,h=>by cases h
 |y::l,hl,f,s,h=>by
  simp only[PZ,aj] at hl;simp only[bx] at h;cases hb:Nat.beq y.1 f<;>simp only[hb,cond_true,cond_false] at h
  ·exact Z2 hl.2 f s h
  ·rw[←cM hb];have h1:=hl.1;split at h1
   ·rename_i fn e;simp only[aj,hH] at h1;exact⟨fn,e,h1.1,h1.2⟩
   ·cases h1
def PR (a b:Sig):Bool:=Ty.beqs a.args b.args&&Ty.beq a.res b.res&&(match a.mode,b.mode with|.dat,.dat=>true|_,_=>false)
theorem alZ {a b:Sig}(h:PR a b=true):a=b:=by
 obtain⟨a1,a2,a3⟩:=a;obtain⟨b1,b2,b3⟩:=b;simp only[PR,aj] at h;rw[Ty.beqs_eq _ _ h.1.1,Ty.beq_eq _ _ h.1.2];cases a3<;>cases b3<;>first|rfl|(have:=h.2;cases this)
def Ei (P:Program)(f:Nat):Bool:=match P.funcs[f]? with|some fn=>fn.body.isSome&& !(fn.name== "runtime.NumGoroutine")|none=>false
theorem amm {P:Program}{f:Nat}(h:Ei P f=true):∃fn,P.funcs[f]?=some fn∧fn.body.isSome=true∧(fn.name== "runtime.NumGoroutine")=false:=by
 unfold Ei at h;split at h
 ·rename_i fn e;simp only[aj,hH] at h;exact⟨fn,e,h.1,h.2⟩
 ·cases h
def KD (P:Program)(sig:List (Nat×Sig))(pcs:List Nat):List (Nat×CSig)→Bool
 |[]=>true
 |x::l=>(match l0 x.2.args x.2.res with
   |none=>(match bx sig x.1 with|some s=>PR s ⟨x.2.args++x.2.caps,x.2.res,.dat⟩|none=>false)
   |some _=> !fC pcs x.1&&Ei P x.1)&&KD P sig pcs l
theorem S6 {P:Program}{sig:List (Nat×Sig)}{pcs:List Nat}:∀{l:List (Nat×CSig)},KD P sig pcs l=true→∀f cs,bx l f=some cs→
 (l0 cs.args cs.res=none→bx sig f=some ⟨cs.args++cs.caps,cs.res,.dat⟩)∧∀ys,l0 cs.args cs.res=some ys→fC pcs f=false∧Ei P f=true
 |[],_,f,cs,h=>by cases h
 |x::l,hl,f,cs,h=>by
  simp only[KD,aj] at hl;simp only[bx] at h;cases hb:Nat.beq x.1 f<;>simp only[hb,cond_true,cond_false] at h
  ·exact S6 hl.2 f cs h
  ·cases h;rw[←cM hb];have h1:=hl.1;refine⟨fun e=>?_,fun ys e=>?_⟩
   ·rw[e] at h1;simp only at h1;split at h1
    ·rename_i s hs;rw[hs,alZ h1]
    ·cases h1
   ·rw[e] at h1;simpa using h1
theorem V7 {α:Type}:∀{l:List (Nat×α)} {f:Nat},fC (l.map (·.1)) f=false→bx l f=none
 |[],f,_=>rfl
 |x::l,f,h=>by
  simp only[gz,fC,List.any_cons,RX] at h;simp only[bx];have hb:Nat.beq x.1 f=false:=by
   cases e:Nat.beq x.1 f
   ·rfl
   ·rw[au e,gL] at h;cases h.1
  rw[hb];exact V7 (l:=l) h.2
def aaF (Φ:aR)(pa pb:PC)(ds:List D)(d:D):Prop:=(∃N xs,pa.ev Φ N (kR ds)=some (.ret (.list xs))∧xs≠[]∧d=.list xs)∨∃N,pb.ev Φ N (kR ds)=some (.ret (.list []))∧d=.list []
open Classical in
def ze (pa pb:PC)(spec:List D→D):aR→List D→Option D:=fun Φ ds=>if aaF Φ pa pb ds (spec ds) then some (spec ds) else none
theorem ajx {C:Ctx}{Φ:aR}(aP:dY C)(hΦ:dF C Φ)(ic:jM C Φ){f:Nat}{fn:Func}{args:List Ty}{e:Ty}{ids ahL fr nh TZ WI:List Nat}{pa pb:PC}(hf:C.P.funcs[f]?=some fn)(ha:lN {C with fr:=fr,nh:=nh} fn ⟨args,.slice e,.dat⟩ ids=some pa)
 (hb:lN {C with fr:=TZ,nh:=WI} fn ⟨args,.nils .bool,.dat⟩ ahL=some pb) {spec:List D→D} {ds:List D} {d:D} (h:ze pa pb spec Φ ds=some d):hZ C f ⟨args,.nsl e,.dat⟩ ds d:=by
 unfold ze at h;split at h
 case isFalse=>cases h
 rename_i hs;cases h;rcases hs with⟨N,xs,h1,h2,h3⟩|⟨N,h1,h2⟩
 ·rw[h3];have:=(KL (C:={C with fr:=fr,nh:=nh}) (dY.hint aP) (dF.hint hΦ) (jM.hint ic) hf ha (N:=N) rfl h1).unhint;intro σ w aa ax hC il;refine(this σ w aa ax hC il).mono fun en w' hh=>?_;obtain⟨v,σ',g1,g2,g3,g4,g5,g6,g7⟩:=hh;refine⟨v,σ',g1,g2,g3,g4,g5,g6,?_⟩;change Rep C.cap σ' (.slice e) v (.list xs) at g7;show Rep C.cap σ' (.nsl e) v (.list xs);generalize hd:D.list xs=dd at g7;cases g7 with
  |nil=>injection hd with hd;exact absurd hd h2
  |emp=>injection hd with hd;exact absurd hd h2
  |slice _ k o n c ka vs a1 a2 a3 a4 a5=>exact .nsl e k o n c ka (.slice e k o n c ka vs a1 a2 a3 a4 a5) (by injection hd with hd;rw[←hd];exact h2)
 ·rw[h2];have:=(KL (C:={C with fr:=TZ,nh:=WI}) (dY.hint aP) (dF.hint hΦ) (jM.hint ic) hf hb (N:=N) rfl h1).unhint;intro σ w aa ax hC il;refine(this σ w aa ax hC il).mono fun en w' hh=>?_;obtain⟨v,σ',g1,g2,g3,g4,g5,g6,g7⟩:=hh;refine⟨v,σ',g1,g2,g3,g4,g5,g6,?_⟩;change Rep C.cap σ' (.nils .bool) v (.list []) at g7;show Rep C.cap σ' (.nsl e) v (.list []);generalize D.list []=dd at g7;cases g7;exact .nsl0 e
end Cx
namespace Cx
open Go Go.RowKit Go.ChangeShapes Go.WideShapes
def mR (w:World):Im:=
 ⟨fun k o=>w.cell? ⟨k,o,none⟩,fun _=>none⟩
theorem ahN (w:World):(mR w).ok w:=by
 exact⟨fun k o v h=>h,fun k es h=>by cases h⟩
def zW (P:Program)(r:TypeId→Option Ty):List Field→Nat→Option (List Ty)
 |[],_=>some []
 |f::fs,off=>(r f.type).bind fun ft=>
  bif Nat.beq f.offset off&&Nat.beq (P.cellsOf f.type) ft.flat.length then(zW P r fs (off+ft.flat.length)).map (ft.flat++·) else none
def ga (P:Program):Nat→TypeId→Option Ty
 |0,_=>none
 |n+1,t=>
  match P.underlying t with
  |some .bool=>some .bool
  |some (.int k)=>some (.int k)
  |some .string=>some .str
  |some (.slice e)=>bif rN P e then some (.slice .trm) else(ga P n e).bind fun te=>bif Nat.beq (P.cellsOf e) te.flat.length&&Nat.ble 1 te.flat.length then some (.slice te) else none
  |some (.struct fs)=>(zW P (ga P n) fs.toList 0).bind fun ts=>bif Nat.beq (P.cellsOf t) ts.length then some (.agg ts) else none
  |_=>none
theorem ahW {P:Program}{e:TypeId}(h:rN P e=true)(n:Nat):ga P (n+2) e=some .trmA∧P.cellsOf e=3:=by
 unfold rN at h;split at h
 case h_2=>cases h
 rename_i fs hu;split at h
 case h_2=>cases h
 rename_i f0 f1 f2 vE;simp only[aj] at h;obtain⟨⟨⟨⟨⟨⟨⟨⟨⟨h0,h1⟩,h2⟩,o0⟩,o1⟩,o2⟩,c0⟩,c1⟩,c2⟩,c3⟩:=h;split at h0
 case h_2=>cases h0
 rename_i u0;split at h1
 case h_2=>cases h1
 rename_i u1;split at h2
 case h_2=>cases h2
 rename_i e' u2;obtain rfl:=au h2;have r0:ga P (n+1) f0.type=some (.int .i64):=by simp[ga,u0]
 have r1:ga P (n+1) f1.type=some (.int .i64):=by simp[ga,u1]
 have ht:rN P e'=true:=by
  unfold rN;rw[hu];simp only[vE];simp[u0,u1,u2,au o0,au o1,au o2,au c0,au c1,au c2,au c3]
 have r2:ga P (n+1) f2.type=some (.slice .trm):=by simp[ga,u2,ht]
 refine⟨?_,au c3⟩;show ga P (n+1+1) e'=_;rw[ga,hu];simp only[vE,zW,r0,r1,r2,jQ,Ty.flat,og,Au,o0,c0,Bool.and_self,cond_true];simp[au o1,au o2,au c1,au c2,au c3,Ty.trmA]
theorem Pw {P:Program}{n:Nat}{t:TypeId}{ty:Ty}(h:ga P n t=some ty):ty.rowT=true∨ty.one=true:=by
 cases n with
 |zero=>simp[ga] at h
 |succ n=>
  simp only[ga] at h;split at h
  ·cases h;exact .inr rfl
  ·cases h;exact .inr rfl
  ·cases h;exact .inr rfl
  ·rename_i e _;cases ht:rN P e<;>simp only[ht,cond_true,cond_false] at h
   ·simp only[ao] at h;obtain⟨te,_,h⟩:=h;cases hb:(Nat.beq (P.cellsOf e) te.flat.length&&Nat.ble 1 te.flat.length)<;>simp only[hb,cond_true,cond_false] at h
    ·cases h
    ·cases h;exact .inr rfl
   ·cases h;exact .inr rfl
  ·rename_i fs _;simp only[ao] at h;obtain⟨ts,_,h⟩:=h;cases hb:Nat.beq (P.cellsOf t) ts.length<;>simp only[hb,cond_true,cond_false] at h
   ·cases h
   ·cases h;exact .inl rfl
  ·cases h
def mE (cap:Nat→Option CSig)(σ:Im)(ts:List Ty)(cs:List Value)(ds:List D):Prop:=
 cs.length=ts.length∧ds.length=ts.length∧∀(i:Nat) (u:Ty),ts[i]?=some u→Rep cap σ u (cs.getD i undef) (ds.getD i .none)∧u.one=true
theorem mE.one {cap:Nat→Option CSig}{σ:Im}{t:Ty}{v:Value}{d:D}(h:Rep cap σ t v d)(ht:t.one=true):mE cap σ [t] [v] [d]:=
 ⟨rfl,rfl,fun i u hu=>by
   cases i with
   |zero=>simp at hu;subst hu;exact⟨h,ht⟩
   |succ i=>simp at hu⟩
theorem mE.append {cap:Nat→Option CSig}{σ:Im}{ts us:List Ty}{cs vs:List Value}{ds es:List D}(h:mE cap σ ts cs ds)(k:mE cap σ us vs es):mE cap σ (ts++us) (cs++vs) (ds++es):=by
 obtain⟨h1,h2,h3⟩:=h;obtain⟨k1,k2,k3⟩:=k;refine⟨by simp[h1,k1],by simp[h2,k2],fun i u hu=>?_⟩;by_cases hi:i<ts.length
 ·rw[kf hi] at hu;have:=h3 i u hu;rw[aF,aF,kf (by omega),kf (by omega)];rw[aF,aF] at this;exact this
 ·rw[iJ (by omega)] at hu;have:=k3 _ u hu;rw[aF,aF,iJ (by omega),iJ (by omega),h1,h2];rw[aF,aF] at this;exact this
def Tk (ag:Bool)(ds:List D):D:=if ag then .agg ds else ds.getD 0 .none
theorem adM (t:Ty):t.flat.length=t.size:=by cases t<;>rfl
theorem Rep.ofRow {cap:Nat→Option CSig}{σ:Im}{t:Ty}{cs:List Value}{ds:List D}(gR:t.rowT=true∨t.one=true)(h:mE cap σ t.flat cs ds):Rep cap σ t (Cx.rowOf t.rowT cs) (Tk t.rowT ds):=by
 obtain⟨h1,h2,h3⟩:=h;cases t with
 |agg ts=>exact .agg ts cs ds h1 h2 (fun i u hu=>(h3 i u hu).1) (fun i u hu=>(h3 i u hu).2)
 |trm=>simp[Ty.rowT,Ty.one] at gR
 |_=>exact(h3 0 _ rfl).1
theorem alA {cap:Nat→Option CSig}{σ:Im}{t:Ty}{cs:List Value}{ds:List D}(gR:t.rowT=true∨t.one=true)(h:mE cap σ t.flat cs ds){j:Nat}{u:Value}(hj:(rowOf t.rowT cs).cells[j]?=some u):cs[j]?=some u:=by
 obtain⟨h1,h2,h3⟩:=h;cases t with
 |agg ts=>simpa [rowOf,Ty.rowT,Value.cells] using hj
 |trm=>simp[Ty.rowT,Ty.one] at gR
 |_=>
  have h4:=h3 0 _ rfl;have h5:=(h4.1.oneCell h4.2).1;simp only[rowOf,Ty.rowT,uQ,if_false] at hj;rw[h5] at hj;cases j with
  |zero=>
   simp only[ED,JH,aO] at hj
   match cs,h1 with
   |[c],_=>simpa using hj
  |succ j=>simp at hj
section
variable {H:Type} {enc:TypeId×Value→H} {P:Program} {w:World} {base:Nat} {held:Bool} {cap:Nat→Option CSig}
theorem aaf {k:IntKind}{n:Int}(h:(Lit.int k n).wf=true):k.min≤n∧n≤k.max:=by
 simpa [Lit.wf] using h
theorem Zd {n m:Nat}(ih:∀(t:TypeId) (cs:List Value) (x:DataW H×List MemPlace) (ty:Ty),DataW.trod enc P w base (fun _=>true) held n t cs=some x→ga P m t=some ty→∃ds,mE cap (mR w) ty.flat cs ds):
 ∀(fs:List Field) (off:Nat) (cs:List Value) (ts:List Ty),zW P (ga P m) fs off=some ts→cs.length=off+ts.length→
  (∀f,f∈fs→∃x,DataW.trod enc P w base (fun _=>true) held n f.type ((cs.drop f.offset).take (P.cellsOf f.type))=some x)→∃ds,mE cap (mR w) ts (cs.drop off) ds
 |[],off,cs,ts,h,hl,_=>by
  simp only[zW,aO] at h;subst h;have:cs.drop off=[]:=by simp at hl ⊢;omega
  rw[this];exact⟨[],rfl,rfl,fun i u hu=>by simp at hu⟩
 |f::fs,off,cs,ts,h,hl,hx=>by
  simp only[zW,ao] at h;obtain⟨ft,hft,h⟩:=h;cases hb:(Nat.beq f.offset off&&Nat.beq (P.cellsOf f.type) ft.flat.length)<;>simp only[hb,cond_true,cond_false] at h
  ·cases h
  simp only[av] at h;obtain⟨us,hus,rfl⟩:=h;simp only[aj] at hb;have e1:=cM hb.1;have e2:=cM hb.2;obtain⟨x,bM⟩:=hx f (dG ..);rw[e1,e2] at bM;obtain⟨A5,iw⟩:=ih _ _ _ _ bM hft;simp only[iK] at hl;obtain⟨ds2,lT⟩:=Zd ih fs (off+ft.flat.length) cs us hus (by omega) fun g hg=>hx g (dz _ hg);refine⟨A5++ds2,?_⟩;have:=iw.append lT;rw[←List.drop_drop,sG] at this;exact this
theorem anX:∀(n m:Nat) (t:TypeId) (cs:List Value) (x:DataW H×List MemPlace) (ty:Ty),DataW.trod enc P w base (fun _=>true) held n t cs=some x→ga P m t=some ty→∃ds,mE cap (mR w) ty.flat cs ds:=by
 intro n
 induction n with
 |zero=>intro m t cs x ty h;simp[DataW.trod] at h
 |succ n ih=>
  intro m t cs x ty h aY;cases m with
  |zero=>simp[ga] at aY
  |succ m=>
   simp only[ga] at aY;split at aY
   ·rename_i hu;cases aY;obtain⟨b,rfl,_⟩:=DataW.trod_bool hu h;exact⟨_,.one (.bool b) rfl⟩
   ·rename_i k hu;cases aY;obtain⟨z,rfl,_,hw⟩:=DataW.trod_int hu h;exact⟨_,.one (.int k z (aaf hw).1 (aaf hw).2) rfl⟩
   ·rename_i hu;cases aY;obtain⟨s,rfl,_,hs⟩:=DataW.trod_string hu h;exact⟨_,.one (.str s hs) rfl⟩
   ·rename_i e hu;have vU:∃(m':Nat) (te uD:Ty),ga P m' e=some te∧P.cellsOf e=te.flat.length∧1≤te.flat.length∧ty=.slice uD∧uD.unf=te:=by
     cases ht:rN P e<;>simp only[ht,cond_true,cond_false] at aY
     ·simp only[ao] at aY;obtain⟨te,vU,aY⟩:=aY;cases hb:(Nat.beq (P.cellsOf e) te.flat.length&&Nat.ble 1 te.flat.length)<;>simp only[hb,cond_true,cond_false] at aY
      ·cases aY
      cases aY;simp only[aj] at hb;exact⟨m,te,te,vU,cM hb.1,jP hb.2,rfl,Ty.unf_ro (Pw vU)⟩
     ·cases aY;obtain⟨k1,k2⟩:=ahW ht 0;exact⟨2,.trmA,.trm,k1,k2,by decide,rfl,rfl⟩
    obtain⟨m',te,uD,vU,e1,e2,rfl,mP⟩:=vU;have gR:=Pw vU;rcases DataW.trod_slice hu h with⟨rfl,_⟩|⟨a,len,cp,elems,rest,n',iX,rfl,_,hba,hl,hm,hlen,iu,Hk,_⟩
    ·exact⟨_,.one (.nil uD) rfl⟩
    ·cases iX;obtain⟨hrl,tC⟩:=Hk rfl
     have eH:∀i,i<cp→∃ci y,w.cells? base (a.add (i*P.cellsOf e)) (P.cellsOf e)=some ci∧DataW.trod enc P w base (fun _=>true) held n e ci=some y:=by
      intro i hi
      have gg:∃y,(w.cells? base (a.add (i*P.cellsOf e)) (P.cellsOf e)).bind (DataW.trod enc P w base (fun _=>true) held n e)=some y:=by
           by_cases vF:i<len
           ·rw[iu i vF];exact⟨_,bo (by omega)⟩
           ·have:=tC (i-len) (by omega);rw[show len+(i-len)=i by omega] at this;rw[this];exact⟨_,bo (by omega)⟩
      obtain⟨y,hy⟩:=gg;rw[ao] at hy;obtain⟨ci,h1,h2⟩:=hy;exact⟨ci,y,h1,h2⟩
     by_cases oF:cp=0
     ·subst oF;have:len=0:=by omega
      subst this;exact⟨_,.one (.emp uD a) rfl⟩
     ·have Vo:a.spot=none:=by
           obtain⟨ci,y,h1,_⟩:=eH 0 (by omega);obtain⟨_,_,h3⟩:=World.cells?_some h1;have:=h3 0 (by omega);simp only[Nat.zero_mul,Addr.add,if_true] at this;unfold World.cell? at this;cases hs:a.spot with
           |none=>rfl
           |some s=>
            exfalso;have hl:ci.length=P.cellsOf e:=(World.cells?_some h1).2.1;split at this
            ·rw[hs] at this;simp at this;subst this;simp at hl;omega
            ·rw[eq_comm,List.getElem?_eq_none_iff] at this;omega
      obtain⟨k,o,s⟩:=a;simp only at Vo;subst Vo;have aD:∀i,∃p:List Value×List D,i<len→w.cells? base ((⟨k,o,none⟩:Addr).add (i*P.cellsOf e)) (P.cellsOf e)=some p.1∧mE cap (mR w) te.flat p.1 p.2:=by
           intro i;by_cases hi:i<len
           ·obtain⟨ci,y,h1,h2⟩:=eH i (by omega);obtain⟨ds,hr⟩:=ih m' _ _ _ _ h2 vU;exact⟨(ci,ds),fun _=>⟨h1,hr⟩⟩
           ·exact⟨([],[]),fun h=>absurd h hi⟩
      obtain⟨f,hf⟩:=Classical.axiomOfChoice aD;refine⟨_,.one (.slice uD k o len cp ((List.range len).map fun i=>Tk te.rowT (f i).2) (fun i=>rowOf te.rowT (f i).1) (by simp) hl hm (fun i x hx=>?_) (fun i j u hi hj=>?_)) rfl⟩
      ·rw[cA,av] at hx;obtain⟨i',cv,rfl⟩:=hx;have ae:i<len:=by have:=(dZ.1 cv).1;simpa using this
       rw[pM ae] at cv;cases cv;rw[mP];exact Rep.ofRow gR (hf i ae).2
      ·obtain⟨h1,h2⟩:=hf i hi;have dA:=alA gR h2 hj;obtain⟨_,h4,h5⟩:=World.cells?_some h1;have fc:j<P.cellsOf e:=by rw[←h4];exact(dZ.1 dA).1
       have:=h5 j fc;rw[dA] at this;show w.cell? ⟨k,o+i*uD.size+j,none⟩=some u;rw[←uD.unf_size,mP,←adM,←e1,←this]
       congr 1
       simp only[Addr.add];split<;>split<;>simp_all
   ·rename_i fs hu;simp only[ao] at aY;obtain⟨ts,MX,aY⟩:=aY;cases hb:Nat.beq (P.cellsOf t) ts.length<;>simp only[hb,cond_true,cond_false] at aY
    ·cases aY
    cases aY;obtain⟨xs,n',iX,_,hl,vY,hf⟩:=DataW.trod_struct hu h;cases iX
    have:=Zd (ih m) fs.toList 0 cs ts MX (by rw[hl,cM hb];omega) (fun f hm=>by
     obtain⟨i,hi⟩:=w9 hm;have cv:fs[i]?=some f:=by simpa using hi
     have h1:=hf i f cv;have ae:i<fs.size:=(dy.1 cv).1;exact⟨_,h1.trans (bo (by omega))⟩)
    show ∃ds,mE cap (mR w) ts cs ds;simpa using this
   ·cases aY
theorem AV {base:Nat}{t:TypeId}{v:Value}(h:Cell.okWide P w .any base t v):v.cells=#[v]:=by
 cases v<;>first|rfl|(exfalso;simp only[Cell.okWide,Cell.ok] at h;revert h;cases P.underlying t with|none=>simp|some T=>cases T<;>simp)
theorem aa2 {base base':Nat}{m:Nat}{t:TypeId}{v:Value}{d:DataW H}{ps:List MemPlace}{ty:Ty}(ax:Value.okWide P w .any base' t v)(h:DataW.Trod enc P w base (fun _=>true) held t v d ps)(aY:ga P m t=some ty):∃d,Rep cap (mR w) ty v d:=by
 obtain⟨fuel,h⟩:=h;obtain⟨ds,hr⟩:=anX (cap:=cap) fuel m t _ _ _ h aY;have bE:=Rep.ofRow (Pw aY) hr;cases m with
 |zero=>simp[ga] at aY
 |succ m=>
  suffices hs:rowOf ty.rowT v.cells.toList=v by rw[hs] at bE;exact⟨_,bE⟩
  simp only[ga] at aY;unfold Value.okWide at ax;split at aY
  ·rename_i hu;cases aY;rw[hu] at ax;simp only at ax;rw[AV ax];rfl
  ·rename_i hu;cases aY;rw[hu] at ax;simp only at ax;rw[AV ax];rfl
  ·rename_i hu;cases aY;rw[hu] at ax;simp only at ax;rw[AV ax];rfl
  ·rename_i e hu;cases ht:rN P e<;>simp only[ht,cond_true,cond_false] at aY
   ·simp only[ao] at aY;obtain⟨te,_,aY⟩:=aY;cases hb:(Nat.beq (P.cellsOf e) te.flat.length&&Nat.ble 1 te.flat.length)<;>simp only[hb,cond_true,cond_false] at aY
    ·cases aY
    cases aY;rw[hu] at ax;simp only at ax;rw[AV ax];rfl
   ·cases aY;rw[hu] at ax;simp only at ax;rw[AV ax];rfl
  ·rename_i fs hu;simp only[ao] at aY;obtain⟨ts,_,aY⟩:=aY;cases hb:Nat.beq (P.cellsOf t) ts.length<;>simp only[hb,cond_true,cond_false] at aY
   ·cases aY
   cases aY;rw[hu] at ax;obtain⟨cs,rfl,_⟩:=ax;simp[rowOf,Ty.rowT,Value.cells]
  ·cases aY
def D0 (P:Program)(m:Nat):List TypeId→Option (List Ty)
 |[]=>some []
 |t::ts=>(ga P m t).bind fun x=>(D0 P m ts).map (x::·)
theorem SH {base base' m:Nat}:∀(ts:List TypeId) (vs:List Value) (ds:List (DataW H)) (ps:List MemPlace) (fG:List Ty),DataW.TrodAll enc P w base (fun _=>true) held ts vs ds ps→D0 P m ts=some fG→
 (∀(j:Nat) t v,ts[j]?=some t→vs[j]?=some v→Value.okWide P w .any base' t v)→
 ∃es:List D,vs.length=fG.length∧es.length=fG.length∧∀(i:Nat) (t:Ty),fG[i]?=some t→Rep cap (mR w) t (vs.getD i undef) (es.getD i .none)
 |[],vs,ds,ps,fG,h,aY,_=>by
  simp only[D0,aO] at aY;subst aY;cases vs with
  |nil=>exact⟨[],rfl,rfl,fun i t h=>by simp at h⟩
  |cons=>cases ds<;>exact h.elim
 |t::ts,vs,ds,ps,fG,h,aY,ax=>by
  simp only[D0,ao,av] at aY;obtain⟨ty,ahu,an2,ahv,rfl⟩:=aY;cases vs with
  |nil=>cases ds<;>exact h.elim
  |cons v vs=>
   cases ds with
   |nil=>exact h.elim
   |cons d ds=>
    obtain⟨p,q,h1,h2,_⟩:=h;obtain⟨e,he⟩:=aa2 (cap:=cap) (ax 0 t v rfl rfl) h1 ahu;obtain⟨es,k1,k2,k3⟩:=SH ts vs ds q an2 h2 ahv (fun j t' v' hj hv=>ax (j+1) t' v' hj hv);refine⟨e::es,by simp[k1],by simp[k2],fun i u hu=>?_⟩;cases i with
    |zero=>simp at hu;subst hu;exact he
    |succ i=>simpa using k3 i u (by simpa using hu)
end
mutual
inductive DTy:Ty→D→Prop where
 |int (k:IntKind) (n:Int) (h1:k.min≤n) (h2:n≤k.max):DTy (.int k) (.v (.int k n))
 |bool (b:Bool):DTy .bool (.v (.bool b))
 |str (s:ByteArray) (h:s.size≤maxLen):DTy .str (.v (.string s))
 |slice (e:Ty) (xs:List D) (hm:xs.length≤maxLen) (h:∀x,x∈xs→DTy e.unf x):DTy (.slice e) (.list xs)
 |agg (ts:List Ty) (ds:List D) (h:DTys ts ds):DTy (.agg ts) (.agg ds)
 |other (t:Ty) (d:D) (h:match t with|.int _|.bool|.str|.slice _|.agg _=>False|_=>True):DTy t d
inductive DTys:List Ty→List D→Prop where
 |nil:DTys [] []
 |cons {t:Ty} {d:D} {ts:List Ty} {ds:List D} (h:DTy t d) (hs:DTys ts ds):DTys (t::ts) (d::ds)
end
theorem DTys.of_get:∀{ts:List Ty} {ds:List D},ds.length=ts.length→(∀(i:Nat) (t:Ty),ts[i]?=some t→DTy t (ds.getD i .none))→DTys ts ds
 |[],[],_,_=>.nil
 |t::ts,d::ds,hl,h=>.cons (h 0 t rfl) (DTys.of_get (by simpa using hl) fun i u hu=>by simpa using h (i+1) u (by simpa using hu))
 |[],_::_,hl,_=>by simp at hl
 |_::_,[],hl,_=>by simp at hl
theorem Rep.dty {cap:Nat→Option CSig}{σ:Im}{t:Ty}{v:Value}{d:D}(h:Rep cap σ t v d):DTy t d:=by
 induction h with
 |int k n h1 h2=>exact .int k n h1 h2
 |bool b=>exact .bool b
 |str s h=>exact .str s h
 |agg ts vs ds h1 h2 _ ho ih=>exact .agg ts ds (.of_get h2 ih)
 |nil e=>exact .slice e [] (by decide) (fun x hx=>by cases hx)
 |emp e a=>exact .slice e [] (by decide) (fun x hx=>by cases hx)
 |slice e k o n c xs vs hn hc hm _ hv ih=>
  refine .slice e xs (by omega) fun x hx=>?_;obtain⟨i,hi⟩:=w9 hx;exact ih i x hi
 |_=>exact .other _ _ trivial
theorem ah3 {H:Type}{enc:TypeId×Value→H}{C:Ctx}{f:Nat}{fn:Func}{sg:Sig}{spec:ChangeSpec}{tb:TypeId}{apart fresh handsOn again:Bool}(hl:laidOutB C.P=true)
 (ql:D0 C.P 12 fn.params.toList=some sg.args) (ag3:fn.params.toList.all (fun t=>C.P.readableRec t&&decide (t<C.P.types.size))=true) (M1:spec.vars=[])
 (ahk:∀ds:List (DataW H),ds.length=fn.params.size→(spec.fn H ds).results=[.lit (.bool true)]∧(spec.fn H ds).args=ds∧(spec.fn H ds).vars=[])
 (eJ:fn.resultTypes=#[tb]) (Vu:C.P.underlying tb=some .bool) (kD:sg.mode=.dat) (tD:sg.res=.bool)
 (Me:∀ds,DTys sg.args ds→hZ C f sg ds (.v (.bool true)))
 (W:World) (tp:CtxOK C (mR W)) (base:Nat) (args:Array Value) (ds gs:List (DataW H)) (before:List MemPlace)
 (cj:∀(j:Nat) t v,fn.params[j]?=some t→args[j]?=some v→Value.okWide C.P W .any base t v)
 (hW:DataW.Whole enc C.P fn.params.toList spec.vars apart W args.toList ds gs before):
 Calls C.P f args W fun e W'=>∃v,e=.returned v∧spec.post enc C.P fn apart fresh handsOn again W args v W':=by
 have Gz:=hW;have ae:∀p∈before,p.block<W.heap.size:=fun p hp=>Gz.lt p hp;obtain⟨p,q,hA,hV,rfl,rz,be⟩:=hW;rw[M1] at hV;obtain⟨rfl,rfl⟩:=trodVars_none hV;obtain⟨es,k1,k2,k3⟩:=SH (cap:=C.cap) (base':=base) fn.params.toList args.toList ds p sg.args hA ql (fun j t v hj hv=>cj j t v (by simpa using hj) (by simpa using hv));have aY:DTys sg.args es:=.of_get k2 fun i t ht=>(k3 i t ht).dty
 have hlen:∀(ts:List TypeId) (vs:List Value) (ds:List (DataW H)) (ps:List MemPlace),DataW.TrodAll enc C.P W 0 (fun _=>true) true ts vs ds ps→ds.length=ts.length:=by
  intro ts
  induction ts with
  |nil=>intro vs ds ps h;cases vs<;>cases ds<;>first|rfl|exact h.elim
  |cons t ts ih=>
   intro vs ds ps h;cases vs with
   |nil=>cases ds<;>exact h.elim
   |cons v vs=>cases ds with
    |nil=>exact h.elim
    |cons d ds=>obtain⟨p,q,_,h2,_⟩:=h;simp[ih vs ds q h2]
 have LR:ds.length=fn.params.size:=by simpa using hlen _ _ _ _ hA
 obtain⟨s1,s2,s3⟩:=ahk (ds++[]) (by simpa using LR);refine(Me es aY (mR W) W args (ahN W) tp ⟨k1,k2,k3⟩).mono fun e W' hh=>?_;obtain⟨v,σ',rfl,_,_,hb,_,_,hr⟩:=hh;refine⟨v,rfl,?_⟩;simp only[lJ,kD,tD] at hr;obtain⟨b,rfl,vy⟩:=hr.bool_inv;cases vy
 have stays:∀(sp:Nat→Bool) (ts:List TypeId) (vs:List Value) (ds:List (DataW H)) (ps:List MemPlace),ts.all (fun t=>C.P.readableRec t&&decide (t<C.P.types.size))=true→(∀x∈ps,x.block<W.heap.size)→(∀x∈ps,sp x.block=true)→
  DataW.TrodAll enc C.P W 0 (fun _=>true) true ts vs ds ps→DataW.TrodAll enc C.P W' 0 sp true ts vs ds ps:=by
  intro sp ts
  induction ts with
  |nil=>intro vs ds ps _ _ _ h;cases vs<;>cases ds<;>first|exact h|exact h.elim
  |cons t ts ih=>
   intro vs ds ps ha rF Hk h;cases vs with
   |nil=>cases ds<;>exact h.elim
   |cons v vs=>cases ds with
    |nil=>exact h.elim
    |cons d ds=>
     obtain⟨p,q,h1,h2,rfl⟩:=h;simp only[pK,aj,decide_eq_true_eq] at ha
     exact⟨p,q,WideElems.Trod_stays hl ha.1.1 ha.1.2 h1 (fun x hx=>hb.same (rF x (jr _ hx))) (fun x hx=>Hk x (jr _ hx)),
      ih vs ds q (by simpa using ha.2) (fun x hx=>rF x (jN _ hx)) (fun x hx=>Hk x (jN _ hx)) h2,rfl⟩
 have U0:∀x∈p,x.block<W.heap.size:=fun x hx=>ae x (jr _ hx);have il:=fun sp (h:∀x∈p,sp x.block=true)=>stays sp _ _ _ _ ag3 U0 h hA;have tC:∀(b:Nat) (sp:Nat→Bool) (hd:Bool),DataW.TrodAll enc C.P W' b sp hd fn.resultTypes.toList ((Value.bool true).resultList fn.resultTypes.size) [.lit (.bool true)] []:=by
  intro b sp hd;rw[eJ];exact trodAll_mk1 (shut_bool Vu true)
 refine⟨ds,[],p++[],[],p,[],Gz,?_,?_,?_,World.keptBut_mono (fun x hx=>⟨hx,?_⟩) (hb.frame (·∈p++[])),fun _=>?_⟩
 ·rw[s1];exact tC _ _ _
 ·rw[s2];simpa using il _ (fun x hx=>by simpa using U0 x hx)
 ·rw[s3,M1];rfl
 ·simpa using hx
 ·refine⟨ok_one eJ rfl (okWide_bool_mk Vu true),_,[],([]++p)++[],⟨[]++p,[],trodAll_append (il _ (fun _ _=>rfl)) (tC _ _ _),by rw[M1];exact rfl,rfl,?_,?_⟩,?_⟩
  ·intro b off hp;have bl:MemPlace.cell b off∈p++[]:=by simpa using hp
   rw[hb.frozen (ae _ bl)];exact rz b off bl
  ·intro ha;simpa using be ha
  ·intro x hx _;simpa using hx
end Cx
namespace Cx
open Go Go.RowKit
abbrev dk:=Nat→aR
def aw (T:dk)(f:Nat)(ds:List D)(d:D):Prop:=∃n0,∀n,n0≤n→T n f ds=some d
def w7 (T:dk)(l:List PI)(ρ:Env)(Q:Env→Prop):Prop:=∃ρ',Q ρ'∧∃n0,∀n,n0≤n→PI.runs (T n) l ρ=some ρ'
def aS (T:dk)(c:PC)(ρ:Env)(Q:Out→Prop):Prop:=∃x,Q x∧∃n0,∀n,n0≤n→c.ev (T n) n ρ=some x
theorem aS.mono {T:dk}{c:PC}{ρ:Env}{Q Q':Out→Prop}(h:aS T c ρ Q)(hq:∀x,Q x→Q' x):aS T c ρ Q':=by
 obtain⟨x,hx,n0,hn⟩:=h;exact⟨x,hq x hx,n0,hn⟩
theorem w7.nil {T:dk}{ρ:Env}{Q:Env→Prop}(h:Q ρ):w7 T [] ρ Q:=⟨ρ,h,0,fun _ _=>rfl⟩
theorem w7.cons {T:dk}{p:PI}{l:List PI}{ρ ρ1:Env}{Q:Env→Prop}{n0:Nat}(h:∀n,n0≤n→p.run (T n) ρ=some ρ1)(k:w7 T l ρ1 Q):w7 T (p::l) ρ Q:=by
 obtain⟨ρ',hQ,n1,h1⟩:=k;exact⟨ρ',hQ,max n0 n1,fun n hn=>by simp[PI.runs,h n (by omega),h1 n (by omega)]⟩
def gH (T:dk):List PI→Env→(Env→Prop)→Prop
 |[],ρ,Q=>Q ρ
 |.setR t e::l,ρ,Q=>gH T l (ρ.setR t (e.ev ρ)) Q
 |.setO t e::l,ρ,Q=>gH T l (ρ.setO t (e.ev ρ)) Q
 |.chk e::l,ρ,Q=>(e.ev ρ).b=true∧gH T l ρ Q
 |.call gs dst f args::l,ρ,Q=>if holds gs ρ=true then ∃d,aw T f (PE.evs ρ args) d∧gH T l (ρ.setR dst d) Q else gH T l ρ Q
 |.callc gs dst e args::l,ρ,Q=>if holds gs ρ=true then ∃f caps d,e.ev ρ=.clo f caps∧aw T f (PE.evs ρ args++caps) d∧gH T l (ρ.setR dst d) Q else gH T l ρ Q
 |.mcall j f args::l,ρ,Q=>∃d,aw T f (PE.evs ρ args) d∧gH T l (ρ.setO j d) Q
theorem sq {T:dk}:∀{l:List PI} {ρ:Env} {Q:Env→Prop},gH T l ρ Q→w7 T l ρ Q
 |[],ρ,Q,h=>.nil h
 |.setR t e::l,ρ,Q,h=>.cons (n0:=0) (fun _ _=>rfl) (sq h)
 |.setO t e::l,ρ,Q,h=>.cons (n0:=0) (fun _ _=>rfl) (sq h)
 |.chk e::l,ρ,Q,h=>.cons (n0:=0) (fun n _=>by simp[PI.run,h.1]) (sq h.2)
 |.call gs dst f args::l,ρ,Q,h=>by
  unfold gH at h;split at h
  ·rename_i hg;obtain⟨d,⟨n0,hn⟩,h⟩:=h;exact .cons (n0:=n0) (fun n hle=>by simp[PI.run,hg,hn n hle]) (sq h)
  ·rename_i hg;exact .cons (n0:=0) (fun n hle=>by simp[PI.run,hg]) (sq h)
 |.callc gs dst e args::l,ρ,Q,h=>by
  unfold gH at h;split at h
  ·rename_i hg;obtain⟨f,caps,d,he,⟨n0,hn⟩,h⟩:=h;exact .cons (n0:=n0) (fun n hle=>by simp[PI.run,hg,he,hn n hle]) (sq h)
  ·rename_i hg;exact .cons (n0:=0) (fun n hle=>by simp[PI.run,hg]) (sq h)
 |.mcall j f args::l,ρ,Q,h=>by
  obtain⟨d,⟨n0,hn⟩,h⟩:=h;exact .cons (n0:=n0) (fun n hle=>by simp[PI.run,hn n hle]) (sq h)
def kH (ρ:Env)(lr lo:List Nat)(Q:Out→Prop):Out→Prop
 |.next ρ'=>Q (.next (ρ.join lr lo ρ'))
 |x=>Q x
def lM (ρ:Env)(id:Nat)(lr lo:List Nat)(Q:Out→Prop):Out→Prop
 |.next ρ'=>Q (.next (ρ.join lr lo ρ'))
 |.exit bR ρ'=>if bR=id then Q (.next (ρ.join lr lo ρ')) else Q (.exit bR ρ')
 |.ret d=>Q (.ret d)
def gG (K:Env→Prop)(Q:Out→Prop):Out→Prop
 |.next ρ'=>K ρ'
 |.exit id ρ'=>Q (.exit id ρ')
 |.ret d=>Q (.ret d)
theorem aS.is {T:dk}{l:List PI}{ρ:Env}{Q:Out→Prop}(h:gH T l ρ fun ρ'=>Q (.next ρ')):aS T (.is l) ρ Q:=by
 obtain⟨ρ',hQ,n0,hn⟩:=sq h;exact⟨.next ρ',hQ,n0,fun n hle=>by simp[PC.ev,hn n hle]⟩
theorem aS.skip {T:dk}{ρ:Env}{Q:Out→Prop}(h:Q (.next ρ)):aS T .skip ρ Q:=⟨_,h,0,fun _ _=>rfl⟩
theorem aS.exit {T:dk}{ρ:Env}{id:Nat}{Q:Out→Prop}(h:Q (.exit id ρ)):aS T (.exit id) ρ Q:=⟨_,h,0,fun _ _=>rfl⟩
theorem aS.ret {T:dk}{ρ:Env}{e:PE}{Q:Out→Prop}(h:Q (.ret (e.ev ρ))):aS T (.ret e) ρ Q:=⟨_,h,0,fun _ _=>rfl⟩
theorem aS.seq {T:dk}{a b:PC}{ρ:Env}{Q:Out→Prop}(h:aS T a ρ (gG (fun ρ'=>aS T b ρ' Q) Q)):aS T (.seq a b) ρ Q:=by
 obtain⟨x,hx,n0,hn⟩:=h;cases x with
 |next ρ'=>
  obtain⟨y,hy,n1,h1⟩:=hx;exact⟨y,hy,max n0 n1,fun n hle=>by simp[PC.ev,hn n (by omega),h1 n (by omega)]⟩
 |exit id ρ'=>exact⟨_,hx,n0,fun n hle=>by simp[PC.ev,hn n hle]⟩
 |ret d=>exact⟨_,hx,n0,fun n hle=>by simp[PC.ev,hn n hle]⟩
theorem aS.ite {T:dk}{c:PE}{lr lo:List Nat}{a b:PC}{ρ:Env}{Q:Out→Prop}(h:if(c.ev ρ).b=true then aS T a ρ (kH ρ lr lo Q) else aS T b ρ (kH ρ lr lo Q)):aS T (.ite c lr lo a b) ρ Q:=by
 split at h
 all_goals
  rename_i hc;obtain⟨x,hx,n0,hn⟩:=h;cases x with
  |next ρ'=>exact⟨_,hx,n0,fun n hle=>by simp[PC.ev,hc,hn n hle]⟩
  |exit id ρ'=>exact⟨_,hx,n0,fun n hle=>by simp[PC.ev,hc,hn n hle]⟩
  |ret d=>exact⟨_,hx,n0,fun n hle=>by simp[PC.ev,hc,hn n hle]⟩
theorem aS.block {T:dk}{id:Nat}{lr lo:List Nat}{a:PC}{ρ:Env}{Q:Out→Prop}(h:aS T a ρ (lM ρ id lr lo Q)):aS T (.block id lr lo a) ρ Q:=by
 obtain⟨x,hx,n0,hn⟩:=h;cases x with
 |next ρ'=>exact⟨_,hx,n0,fun n hle=>by simp[PC.ev,hn n hle]⟩
 |exit bR ρ'=>
  simp only[lM] at hx;split at hx
  ·rename_i e;subst e;exact⟨_,hx,n0,fun n hle=>by simp[PC.ev,hn n hle]⟩
  ·rename_i e;exact⟨_,hx,n0,fun n hle=>by simp[PC.ev,hn n hle,eX e]⟩
 |ret d=>exact⟨_,hx,n0,fun n hle=>by simp[PC.ev,hn n hle]⟩
theorem aS.loop {T:dk}{lr lo:List Nat}{a:PC}{ρ:Env}{Q:Out→Prop}{α:Type}(inv:α→List D→List D→Prop)(tP:α→Nat)(s0:α)(h0:inv s0 (lr.map ρ.r) (lo.map ρ.o))
 (step:∀s vr vo,inv s vr vo→aS T a (ρ.put lr vr lo vo) (gG (fun ρ'=>∃s',tP s'<tP s∧inv s' (lr.map ρ'.r) (lo.map ρ'.o)) Q)):aS T (.loop lr lo a) ρ Q:=by
 have key:∀(m:Nat) (s:α) (vr vo:List D),tP s≤m→inv s vr vo→∃x,Q x∧∃n0,∀n k,n0≤n→n0≤k→gU (a.ev (T n) n) ρ lr lo k vr vo=some x:=by
  intro m
  induction m with
  |zero=>
   intro s vr vo hm hi;obtain⟨x,hx,n0,hn⟩:=step s vr vo hi;cases x with
   |next ρ'=>obtain⟨s',ae,_⟩:=hx;omega
   |exit id ρ'=>
    refine⟨_,hx,n0+1,fun n k hle hk=>?_⟩;obtain⟨k',rfl⟩:∃k',k=k'+1:=⟨k-1,by omega⟩
    simp[gU,hn n (by omega)]
   |ret d=>
    refine⟨_,hx,n0+1,fun n k hle hk=>?_⟩;obtain⟨k',rfl⟩:∃k',k=k'+1:=⟨k-1,by omega⟩
    simp[gU,hn n (by omega)]
  |succ m ih=>
   intro s vr vo hm hi;obtain⟨x,hx,n0,hn⟩:=step s vr vo hi;cases x with
   |next ρ'=>
    obtain⟨s',ae,cv⟩:=hx;obtain⟨y,hy,n1,h1⟩:=ih s' _ _ (by omega) cv;refine⟨y,hy,max n0 n1+1,fun n k hle hk=>?_⟩;obtain⟨k',rfl⟩:∃k',k=k'+1:=⟨k-1,by omega⟩
    simp[gU,hn n (by omega),h1 n k' (by omega) (by omega)]
   |exit id ρ'=>
    refine⟨_,hx,n0+1,fun n k hle hk=>?_⟩;obtain⟨k',rfl⟩:∃k',k=k'+1:=⟨k-1,by omega⟩
    simp[gU,hn n (by omega)]
   |ret d=>
    refine⟨_,hx,n0+1,fun n k hle hk=>?_⟩;obtain⟨k',rfl⟩:∃k',k=k'+1:=⟨k-1,by omega⟩
    simp[gU,hn n (by omega)]
 obtain⟨x,hx,n0,hn⟩:=key (tP s0) s0 _ _ (aU _) h0;exact⟨x,hx,n0,fun n hle=>by simp only[PC.ev];exact hn n n hle hle⟩
theorem Yb {α:Type}:∀(l:List α),∃L:List (List α),∀ys,ys∈L↔ys.Perm l
 |[]=>⟨[[]],fun ys=>by simp⟩
 |x::l=>by
  obtain⟨L,hL⟩:=Yb l;refine⟨L.flatMap fun ys=>(List.range (ys.length+1)).map fun i=>ys.take i++x::ys.drop i,fun zs=>?_⟩;simp only[iL,eE,bZ];constructor
  ·rintro⟨ys,hy,i,_,rfl⟩;have h1:=(hL ys).1 hy;refine(List.perm_middle).trans (.cons x ?_);rw[sG];exact h1
  ·intro h;have hx:x∈zs:=h.symm.subset (dG ..);obtain⟨s,t,rfl⟩:=R2 hx;refine⟨s++t,(hL _).2 ?_,s.length,by simp;omega,by simp⟩;exact(List.perm_cons x).1 ((List.perm_middle).symm.trans h)
theorem aS.meach {T:dk}{J:Nat}{ps da lo:List Nat}{a:PC}{ρ:Env}{Q:Out→Prop}(es:List (D×D))(he:ρ.o J=.tup [.list [],.map es])(inv:List D→List D→Prop)(h0:inv [] (lo.map ρ.o))
 (step:∀done x rest vo,(done++x::rest).Perm (gW (.map es))→inv done vo→aS T a ((ρ.put ps (da.map x.tget) lo vo).setO J (.tup [.list (done++[x]),.map es])) (fun y=>∃ρ',y=.next ρ'∧inv (done++[x]) (lo.map ρ'.o)))
 (last:∃vo,(∀done,done.Perm (gW (.map es))→∀qJ,inv done qJ→qJ=vo)∧Q (.next (ρ.put [] [] lo vo))):aS T (.meach J ps da lo a) ρ Q:=by
 obtain⟨vo,hl,hQ⟩:=last;have key:∀(xs done:List D) (vs:List D),(done++xs).Perm (gW (.map es))→inv done vs→∃n0,∀n,n0≤n→nQ (a.ev (T n) n) ρ J (.map es) ps da lo xs done vs=some vo:=by
  intro xs
  induction xs with
  |nil=>intro done vs hp hi;exact⟨0,fun n _=>by rw[hl done (by simpa using hp) vs hi];rfl⟩
  |cons x xs ih=>
   intro done vs hp hi;obtain⟨y,⟨ρ',rfl,cv⟩,n0,hn⟩:=step done x xs vs hp hi;obtain⟨n1,h1⟩:=ih (done++[x]) _ (by simpa using hp) cv;exact⟨max n0 n1,fun n hle=>by simp only[nQ,hn n (by omega)];exact h1 n (by omega)⟩
 have jV:∀(L:List (List D)),(∀ys,ys∈L→ys.Perm (gW (.map es)))→∃n0,∀n,n0≤n→∀ys,ys∈L→nQ (a.ev (T n) n) ρ J (.map es) ps da lo ys [] (lo.map ρ.o)=some vo:=by
  intro L
  induction L with
  |nil=>intro _;exact⟨0,fun n _ ys hy=>by cases hy⟩
  |cons y L ih=>
   intro hL;obtain⟨n0,kp⟩:=ih fun ys hy=>hL ys (dz _ hy);obtain⟨n1,h1⟩:=key y [] _ (by simpa using hL y (dG ..)) h0;refine⟨max n0 n1,fun n hle ys hy=>?_⟩;rcases df.1 hy with e|hy
   ·subst e;exact h1 n (by omega)
   ·exact kp n (by omega) ys hy
 obtain⟨L,hL⟩:=Yb (gW (.map es));obtain⟨n0,hn⟩:=jV L fun ys hy=>(hL ys).1 hy;refine⟨_,hQ,n0,fun n hle=>?_⟩;simp only[PC.ev,zB];refine⟨vo,⟨by rw[he];rfl,fun ys hy=>?_⟩,rfl⟩;rw[he] at hy ⊢;exact hn n hle ys ((hL ys).2 hy)
theorem aw.of_pc {tab:Nat→Option PC}{ext:Nat→Option (aR→List D→Option D)}{f:Nat}{pc:PC}{ds:List D}{d:D}(hx:ext f=none)(ht:tab f=some pc)(h:aS (fm tab ext) pc (kR ds) (fun x=>x=.ret d)):aw (fm tab ext) f ds d:=by
 obtain⟨x,rfl,n0,hn⟩:=h;refine⟨n0+1,fun n hle=>?_⟩;obtain⟨k,rfl⟩:∃k,n=k+1:=⟨n-1,by omega⟩
 simp[fm,hx,ht,hn k (by omega)]
theorem aw.of_ext {tab:Nat→Option PC}{ext:Nat→Option (aR→List D→Option D)}{f:Nat}{g:aR→List D→Option D}{ds:List D}{d:D}(hx:ext f=some g)(h:∃n0,∀n,n0≤n→g (fm tab ext n) ds=some d):aw (fm tab ext) f ds d:=by
 obtain⟨n0,hn⟩:=h;refine⟨n0+1,fun n hle=>?_⟩;obtain⟨k,rfl⟩:∃k,n=k+1:=⟨n-1,by omega⟩
 simp[fm,hx,hn k (by omega)]
theorem aw.fnOK {C:Ctx}{tab:Nat→Option PC}{ext:Nat→Option (aR→List D→Option D)}(h:TabOK C tab ext){f:Nat}{s:Sig}{ds:List D}{d:D}(hs:C.sig f=some s)(hr:aw (fm tab ext) f ds d)(hm:oV s.mode=false:=by rfl):hZ C f s ds d:=by
 obtain⟨n0,hn⟩:=hr;exact((Sr h n0).1 f ds d (hn n0 (aU _)) s hs).1 hm
def Le (Φ Ψ:aR):Prop:=∀f ds d,Φ f ds=some d→Ψ f ds=some d
theorem Env.setR_r (ρ:Env)(t u:Nat)(d:D):(ρ.setR t d).r u=if u=t then d else ρ.r u:=by simp only[Env.setR,fj]
theorem Env.setO_o (ρ:Env)(t u:Nat)(d:D):(ρ.setO t d).o u=if u=t then d else ρ.o u:=by simp only[Env.setO,fj]
theorem Env.join_r (ρ ρ':Env)(lr lo:List Nat)(u:Nat):(ρ.join lr lo ρ').r u=if u∈lr then ρ'.r u else ρ.r u:=by simp only[Env.join,Env.put,rY]
theorem Env.join_o (ρ ρ':Env)(lr lo:List Nat)(u:Nat):(ρ.join lr lo ρ').o u=if u∈lo then ρ'.o u else ρ.o u:=by simp only[Env.join,Env.put,rY]
theorem Ig (f:Nat→D)(i:Nat)(is:List Nat)(x:D)(xs:List D)(u:Nat):putL f (i::is) (x::xs) u=if u=i then x else putL f is xs u:=by simp only[putL,fj]
theorem Ih (f:Nat→D)(xs:List D)(u:Nat):putL f [] xs u=f u:=by cases xs<;>rfl
theorem agK (g:Nat×Bool)(gs:List (Nat×Bool))(ρ:Env):holds (g::gs) ρ=((ρ.r g.1).b==g.2&&holds gs ρ):=rfl
theorem D.tget_tup (x:List D)(i:Nat):(D.tup x).tget i=x.getD i .none:=rfl
theorem D.c_agg (x:List D)(i:Nat):(D.agg x).c i=x.getD i .none:=rfl
end Cx
