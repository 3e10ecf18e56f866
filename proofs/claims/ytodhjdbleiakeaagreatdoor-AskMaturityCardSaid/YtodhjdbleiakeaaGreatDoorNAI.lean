/-
  Shared texts of this claim.
-/
import Derived.Test.YtodhjdbleiakeaaGreatDoorNAH
import Derived.Below
import Derived.ChangeSame
import Derived.WalkKit
import Derived.ProofKit
import Derived.OpenShut
import Derived.Carry
import Derived.JoinedCond
set_option linter.unusedSimpArgs false
set_option linter.unusedVariables false
namespace Cx
open Go Go.RowKit
def Zx (m:Nat)(s:Sig):Snap:=⟨s.args.map .dat++List.replicate (m-s.args.length) .none,[]⟩
def j9 (ds:List D):Env:=⟨fun t=>ds.getD t .none,fun _=>.none⟩
def sP (C:Ctx)(fn:Func)(s:Sig)(ids:List Nat)(S0:Snap):Option PC:=
 match fn.body with
 |some c=>
  (comp C fn s fn.ntmps ids (Mm C fn.ntmps ids) false c S0).bind fun r=>
    match r.out with
    |none=>some r.pc
    |some S=>(wO C fn s (S.st ids)).map fun e=>.seq r.pc (.ret e)
 |none=>none
def Oz (m:Nat)(shs:List Sh)(obs:List (Nat×Ob))(ids:List Nat):Snap:=⟨shs++List.replicate (m-shs.length) .none,ids.map (dT obs)⟩
def Hq (shs:List Sh)(obs:List (Nat×Ob))(ds:List D):Env:=lU obs ds (ds.drop shs.length)
def Dz (l:List Nat):Nat→List Sh→Bool
 |_,[]=>true
 |t,s::ss=>(mI s|| !eZ l t)&&Dz l (t+1) ss
def zQ:List (Nat×Ob)→Nat→List PI
 |[],_=>[]
 |x::l,k=>zQ l (k+1)++[.setO x.1 (.r k)]
theorem ahq {Φ:aT}:∀(l:List (Nat×Ob)) (k:Nat) (ρ:Env) (ds:List D),(∀i,ρ.r (k+i)=ds.getD i .none)→(∀j,ρ.o j=.none)→PI.runs Φ (zQ l k) ρ=some ⟨ρ.r,fun j=>mN l ds j⟩
 |[],k,ρ,ds,h,ho=>by
  simp only[zQ,PI.runs]
  congr 1
  cases ρ with|mk r o=>congr 1;funext j;exact ho j
 |x::l,k,ρ,ds,h,ho=>by
  simp only[zQ,oa]
  rw[ahq l (k+1) ρ ds.tail (fun i=>by
   have:=h (i+1);rw[uO,At 1 i,this];cases ds<;>simp) ho]
  simp only[kP,PI.runs,PI.run,PE.ev,Env.setO]
  congr 1
  congr 1
  funext j;rw[fS];have h0:=h 0;simp only[ox] at h0;cases ds with
  |nil=>
   have e:∀m j,mN m [] j=D.none:=fun m j=>by cases m<;>rfl
   rw[h0];split<;>simp[e]
  |cons d ds=>
   simp only[mN,List.tail_cons];by_cases hj:j=x.1
   ·subst hj;rw[if_pos rfl,gY,h0];rfl
   ·rw[if_neg hj,eu (fun e=>hj e.symm)];rfl
theorem aBn {Φ:aT}(shs:List Sh)(obs:List (Nat×Ob))(ds:List D):PI.runs Φ (zQ obs shs.length) (j9 ds)=some (Hq shs obs ds):=by
 rw[ahq obs shs.length (j9 ds) (ds.drop shs.length) (fun i=>by simp[j9,aS]) (fun j=>rfl)];rfl
def F2 (fn:Func):List Nat:=match fn.body with|some c=>cq c|none=>[]
def yT:List (Nat×Ob)→Bool
 |[]=>true
 |x::l=>(match x.2 with|.tr=>false|_=>true)&&yT l
def aD (C:Ctx)(fn:Func)(s:Sig)(ids:List Nat):Option PC:=
 match C.yl with
 |none=>
  match s.mode with
  |.ob shs obs=>bif Nat.ble shs.length fn.ntmps&&Dz (F2 fn) 0 shs&&shs.all rZ&&yT obs then(sP C fn s ids (Oz fn.ntmps shs obs ids)).map fun pc=>.seq (.is (zQ obs shs.length)) pc else none
  |_=>bif Nat.ble s.args.length fn.ntmps then sP C fn s ids (Zx fn.ntmps s) else none
 |some _=>none
theorem abZ:∀(ids:List Nat) (j:Nat),dh ids [] j=.dead
 |[],_=>rfl
 |_::_,_=>rfl
theorem Oh {C:Ctx}{Φ:aT}(bn:dD C)(hΦ:de C Φ)(fl:fV C Φ){fn:Func}{s:Sig}{ids:List Nat}{S0:Snap}{pc:PC}{c:Code}(hb:fn.body=some c)(hc:sP C fn s ids S0=some pc){w0:World}{σ0:Base}(my:σ0.fin)(hC:CtxOK C σ0)(hY:oB C Φ w0 σ0)
 {N:Nat} {ρ:Env} {d:D} {a:Act} {w:World} (hn:a.tmps.size=fn.ntmps) (hg:Good C w0 σ0 (S0.st ids) ρ (fun _=>False) a w) (he:pc.ev Φ N ρ=some (.ret d)):
 c.wpIn (FR none) 0 C.P (fun e a' w'=>(e=.normal∨e=.ret)∧pW C w0 σ0 fn s d a'.tmps a'.defers w'∧SameBut (fun t=>t∈cq c) a a') a w:=by
 unfold sP at hc;rw[hb] at hc;simp only[ax] at hc;obtain⟨r,hr,hc⟩:=hc;have Qe:=fun x hx=>aos (fn:=fn) (s:=s) (N:=N) fl (aAT (n:=fn.ntmps) (ids:=ids) bn hΦ) c false S0 r hr none w0 σ0 (fun t=>t∈cq c) ρ x a w (fun _=>⟨rfl,my⟩) hC hY (fun _ h=>h) hn hg hx;split at hc
 ·rename_i jP;cases hc;refine wpIn_mono (Qe (.ret d) he) fun e a' w' ho=>?_;cases e with
  |normal=>obtain⟨_,_,h,_⟩:=ho;cases h
  |exit id=>obtain⟨_,_,h,_⟩:=ho;cases h
  |ret=>obtain⟨d',h,h2⟩:=ho;cases h;exact⟨.inr rfl,h2⟩
  |_=>exact ho.elim
 ·rename_i S jP;simp only[aH] at hc;obtain⟨pe,tw,rfl⟩:=hc;simp only[PC.ev] at he;split at he
  ·rename_i ρ1 h1;cases he;refine wpIn_mono (Qe (.next ρ1) h1) fun e a' w' ho=>?_;cases e with
   |normal=>
    obtain⟨ρ2,S2,e1,e2,oU,fo⟩:=ho;cases e1;rw[jP] at e2;cases e2;obtain⟨σ2,own,hv,hi⟩:=fo;exact⟨.inl rfl,Inv.retD hC (fun _=>rfl) my tw _ hi rfl,oU⟩
   |exit id=>obtain⟨_,_,h,_⟩:=ho;cases h
   |ret=>obtain⟨d',h,h2⟩:=ho;cases h
   |_=>exact ho.elim
  ·rename_i aB;refine wpIn_mono (Qe (.ret d) he) fun e a' w' ho=>?_;cases e with
   |normal=>obtain⟨_,_,h,_⟩:=ho;cases h
   |exit id=>obtain⟨_,_,h,_⟩:=ho;cases h
   |ret=>obtain⟨d',h,h2⟩:=ho;cases h;exact⟨.inr rfl,h2⟩
   |_=>exact ho.elim
theorem pW.leaves {C:Ctx}{w0:World}{σ0:Base}{fn:Func}{s:Sig}{d:D}{tmps:Array Value}{R:Ending→World→Prop}(hR:∀w',Ng C w0 σ0 fn s d {tmps:=tmps,defers:=[]} w'→∃v,(results fn tmps).run C.P w'=.ok v w'∧R (.returned v) w'):
 ∀(ds:List Deferred) (w:World),pW C w0 σ0 fn s d tmps ds w→LeavesInM (FR none) 0 C.P fn tmps R ds .returning w
 |[],w,h=>hR w h
 |x::ds,w,⟨D,h1,h2,h3⟩=>⟨by simp,.inl ⟨D,_,h1,run_takeDeferred h2,pW.leaves hR ds _ h3⟩⟩
theorem apz {C:Ctx}{σ:Im}{w:World}{args:Array Value}{ds:List D}{s:Sig}{m:Nat}{ids:List Nat}(aE:σ.ok w)(ha:pM C σ s.args args.toList ds):
 Good C w (Base.mk0 σ w.heap.size) ((Zx m s).st ids) (j9 ds) (fun _=>False) {tmps:=args++Array.replicate (m-args.size) undef,defers:=[]} w:=by
 obtain⟨h1,h2,h3⟩:=ha;have aR:args.size=s.args.length:=by simpa using h1
 refine⟨σ,fun _=>none,fun _=>undef,trivial,aE,.refl σ,fun _ k e=>(aE.m k _ e).lt,fun _ _ _ h=>.inl h,fun _ _ h=>.inl h,.refl _ _,bk _,(fun k j h=>by cases h),fun t=>?_,fun j=>?_,fun t gs s' e=>absurd e (Snap.noOpt _ _ t gs s'),
  .none,fun _=>False,fun _=>False,⟨⟨fun _=>id,fun _=>id⟩,(fun k j h=>by cases h),fun _ _ _ _=>id,fun _ _ _=>id,fun _ _ _=>id⟩,fun j hj=>?_⟩
 ·show aQ C _ _ σ _ (cu ((s.args.map Sh.dat++List.replicate (m-s.args.length) Sh.none).getD t .none)) _ _;rw[aS];by_cases ht:t<s.args.length
  ·rw[jA (by simpa using ht),cU,bK ht];simp only[jF,jE,cu];have:=h3 t _ (bK ht);have e1:(args++Array.replicate (m-args.size) undef).getD t undef=args.toList.getD t undef:=by
        simp only[dO,aS];rw[Xd (by omega)];simp
   show aQ C _ _ σ _ (.dat _) ((args++Array.replicate (m-args.size) undef).getD t undef) (ds.getD t .none);rw[e1];exact this
  ·rw[kN (by simpa using ht),Xx];split<;>trivial
 ·show cl C _ _ σ _ _ w _ j (dh ids [] j);rw[abZ];trivial
 ·change dh ids [] j=.tr at hj;rw[abZ] at hj;cases hj
theorem Oi {C:Ctx}{Φ:aT}(bn:dD C)(hΦ:de C Φ)(fl:fV C Φ){f:Nat}{fn:Func}{s:Sig}{ids:List Nat}{pc:PC}(hf:C.P.funcs[f]?=some fn)(hc:aD C fn s ids=some pc){N:Nat}{ds:List D}{d:D}(cJ:qx s.mode=false)
 (he:pc.ev Φ N (j9 ds)=some (.ret d)):lu C f s ds d:=by
 intro σ w args aE hC ha;unfold aD at hc;split at hc
 case h_2=>cases hc
 rename_i jT;split at hc
 case h_1=>rename_i e;rw[e] at cJ;cases cJ
 cases hle:Nat.ble s.args.length fn.ntmps<;>simp only[hle,cond_true,cond_false] at hc
 ·cases hc
 have C1:=kO hle;have aR:args.size=s.args.length:=by simpa using ha.1
 cases hb:fn.body with
 |none=>unfold sP at hc;rw[hb] at hc;cases hc
 |some c=>
 refine(callsIn_wide (n:=0)).1 (callsIn_of_wp_marks (F:=FR none) hf hb trivial ?_);have hg:=apz (C:=C) (m:=fn.ntmps) (ids:=ids) aE ha;have hn:(args++Array.replicate (fn.ntmps-args.size) undef).size=fn.ntmps:=by simp;omega
 refine wpIn_mono (Oh bn hΦ fl hb hc (σ0:=Base.mk0 σ w.heap.size) trivial hC (fun J ys e=>by rw[jT] at e;cases e) hn hg he) fun e a' w' ho=>?_
 have main:=pW.leaves (R:=fun e w'=>∃v σ',e=.returned v∧σ.le σ'∧σ'.ok w'∧Below w.heap.size w w'∧
  (∀k o x,σ'.c k o=some x→σ.c k o=some x∨w.heap.size≤k)∧(∀k x,σ'.m k=some x→σ.m k=some x∨w.heap.size≤k)∧pV C s σ' w w' v d) (fun w2 Di=>by
  obtain⟨v,σ',_,h2,h3,h4,h5,h6,h7,h8⟩:=Di;exact⟨v,h2,v,σ',rfl,h3,h4,h5,h6,h7,h8⟩) _ _ ho.2.1
 rcases ho.1 with rfl|rfl<;>exact main
def Base.mkO (σ:Im)(own:Nat→Option Nat)(w:World)(cx:Nat→Prop):Base:=
 {σ with
  B:=0
  fin:=True
  F:=fun _ fx jH w'=>(∀k,fx k↔(k<w.heap.size∧own k=none))∧(∀k,jH k↔(fx k∧cx k))∧w.heap.size≤w'.heap.size∧∀k,fx k→w'.heap[k]?=w.heap[k]?
  lt:=fun t' fx cx w' h k hk=>uP ((h.1 k).1 hk).1 h.2.2.1
  sub:=fun t' fx cx w' h k hk=>((h.2.1 k).1 hk).1
  keep:=fun t' fx cx w' j0 h hb hs=>⟨h.1,h.2.1,j5 h.2.2.1 hb.size,fun k hk=>(hs k hk).trans (h.2.2.2 k hk)⟩}
theorem abK {l:List Nat}:∀{shs:List Sh} {k:Nat},Dz l k shs=true→∀(t:Nat) (s:Sh),shs[t]?=some s→mI s=false→(k+t)∉l
 |[],k,_,t,s,h,_=>by simp at h
 |x::shs,k,hk,t,s,h,hd=>by
  simp only[Dz,ar,gB,iw] at hk;cases t with
  |zero=>
   simp at h;subst h;rcases hk.1 with h1|h1
   ·rw[hd] at h1;cases h1
   ·intro hm;rw[ox] at hm;rw[(pf _ _).2 hm] at h1;cases h1
  |succ t=>
   simp at h;have:=abK hk.2 t s h hd
   rwa [uO,At 1 t] at this
theorem Rh (obs:List (Nat×Ob))(j:Nat):∀ids:List Nat,dh ids (ids.map (dT obs)) j=.dead∨dh ids (ids.map (dT obs)) j=dT obs j
 |[]=>.inl rfl
 |i::is=>by
  simp only[gE,dh];cases hb:Nat.beq i j
  ·exact Rh obs j is
  ·right;rw[aL hb];rfl
theorem aeg:∀{l:List (Nat×Ob)},yT l=true→∀j,dT l j≠.tr
 |[],_,j,e=>by cases e
 |x::l,h,j,e=>by
  simp only[yT,ar] at h;simp only[dT] at e;cases hb:Nat.beq x.1 j<;>simp only[hb,cond_true,cond_false] at e
  ·exact aeg h.2 j e
  ·have h1:=h.1;rw[e] at h1;cases h1
theorem apy {C:Ctx}{σ:Im}{own:Nat→Option Nat}{hv:Nat→Value}{w w0:World}{args:Array Value}{cx:Nat→Prop}{shs:List Sh}{obs:List (Nat×Ob)}{ds:List D}{m:Nat}{ids:List Nat}(hN:w0.heap.size≤w.heap.size)(CH:Below 0 w0 w)(aE:σ.ok w)(bp:∀k,σ.m k≠some cP)(aR:args.size=shs.length)
 (bX:∀k j,own k=some j→w0.heap.size≤k∧k<w.heap.size∧(∀o,σ.c k o=none)∧σ.m k=none) (kg:∀k,cx k→k<w.heap.size∧own k=none∧(∀o,σ.c k o=none)∧σ.m k=none) (rN:yT obs=true) (dZ:shs.all rZ=true)
 (h1:∀t,aQ C (fA shs obs) (Hq shs obs ds) σ hv (shs.getD t .none) (args.getD t undef) (ds.getD t .none)) (h2:∀j,cl C (fA shs obs) (Hq shs obs ds) σ own hv w w0.heap.size j (dT obs j)):
 Good C w0 (Base.mkO σ own w cx) ((Oz m shs obs ids).st ids) (Hq shs obs ds) (fun _=>False) {tmps:=args++Array.replicate (m-args.size) undef,defers:=[]} w:=by
 have tc:Compat (fA shs obs) hv ((Oz m shs obs ids).st ids) hv:=⟨fun _=>bk _,fun _ _=>rfl⟩
 refine⟨σ,own,hv,trivial,aE,.refl σ,fun _ k e=>absurd e (bp k),fun _ _ _ h=>.inl h,fun _ _ h=>.inl h,CH,oA _,bX,fun t=>?_,fun j=>?_,fun t gs s' e=>absurd e (Snap.noOpt _ _ t gs s'),
  .none,(fun k=>k<w.heap.size∧own k=none),cx,⟨⟨fun _=>Iff.rfl,fun k=>⟨fun h=>⟨⟨(kg k h).1,(kg k h).2.1⟩,h⟩,fun h=>h.2⟩,bk _,fun _ _=>rfl⟩,(fun k j h hf=>by rw[hf.2] at h;cases h),(fun k o x e hc=>by rw[(kg k hc).2.2.1 o] at e;cases e),(fun k x e hc=>by rw[(kg k hc).2.2.2] at e;cases e),fun k e=>absurd e (bp k)⟩,fun j hj=>?_⟩
 ·show aQ C _ _ σ _ (cu ((shs++List.replicate (m-shs.length) Sh.none).getD t .none)) _ _;refine MS ?_;rw[aS];by_cases ht:t<shs.length
  ·rw[jA ht];have:=h1 t;rw[aS (l:=shs)] at this;have e1:(args++Array.replicate (m-args.size) undef).getD t undef=args.getD t undef:=by
        simp only[dO];rw[Xd (by omega)]
   show aQ C _ _ σ _ _ ((args++Array.replicate (m-args.size) undef).getD t undef) (ds.getD t .none);rw[e1];refine aQ.mono' (.refl σ) tc (fun gs s' e=>?_) this;have hp:=bL.1 dZ _ (di ht);rw[bK ht] at e;simp only[jE] at e;rw[e] at hp;cases hp
  ·rw[kN (by omega),Xx];split<;>trivial
 ·show cl C _ _ σ _ _ w _ j (dh ids (ids.map (dT obs)) j);rcases Rh obs j ids with e|e
  ·rw[e];trivial
  ·rw[e];exact(h2 j).mono (.refl σ) tc rfl rfl (fun k hk=>⟨hk,rfl⟩)
 ·change dh ids (ids.map (dT obs)) j=.tr at hj;rcases Rh obs j ids with e|e
  ·rw[e] at hj;cases hj
  ·rw[e] at hj;exact absurd hj (aeg rN j)
def Hm (w:World)(N:Nat):World:={w with heap:=w.heap.extract 0 N}
theorem aom {C:Ctx}{Φ:aT}(bn:dD C)(hΦ:de C Φ)(fl:fV C Φ){f:Nat}{fn:Func}{s:Sig}{ids:List Nat}{pc:PC}(hf:C.P.funcs[f]?=some fn)(hc:aD C fn s ids=some pc){N:Nat}{ds:List D}{d:D}{shs:List Sh}{obs:List (Nat×Ob)}(cJ:s.mode=.ob shs obs)
 (he:pc.ev Φ N (j9 ds)=some (.ret d)):lx C f shs obs s.res ds d:=by
 intro B σ own hv w args cx _ aE hC bp hB aR bX kg h1 h2;unfold aD at hc;split at hc
 case h_2=>cases hc
 rename_i jT;rw[cJ] at hc;simp only at hc;cases hle:(Nat.ble shs.length fn.ntmps&&Dz (F2 fn) 0 shs&&shs.all rZ&&yT obs)<;>simp only[hle,cond_true,cond_false] at hc
 ·cases hc
 simp only[ar] at hle;obtain⟨⟨⟨l1,l2⟩,l3⟩,l4⟩:=hle;simp only[aH] at hc;obtain⟨pc,hc,rfl⟩:=hc;simp only[PC.ev,aBn,jF] at he;have C1:=kO l1;cases hb:fn.body with
 |none=>unfold sP at hc;rw[hb] at hc;cases hc
 |some c=>
 have bG:F2 fn=cq c:=by unfold F2;rw[hb]
 rw[bG] at l2;refine(callsIn_wide (n:=0)).1 (callsIn_of_wp_marks (F:=FR none) hf hb trivial ?_);have qv:(Hm w B).heap.size=B:=by simp[Hm];omega
 have CH:Below 0 (Hm w B) w:=⟨rfl,rfl,rfl,by rw[qv];exact hB,fun k hk=>by omega⟩
 have hg:=apy (C:=C) (m:=fn.ntmps) (ids:=ids) (w0:=Hm w B) (cx:=cx) (by rw[qv];exact hB) CH aE bp aR (by rw[qv];exact bX) kg l4 l3 h1 (by rw[qv];exact h2);have hn:(args++Array.replicate (fn.ntmps-args.size) undef).size=fn.ntmps:=by simp;omega
 refine wpIn_mono (Oh bn hΦ fl hb hc (σ0:=Base.mkO σ own w cx) trivial hC (fun J ys e=>by rw[jT] at e;cases e) hn hg he) fun e a' w' ho=>?_;obtain⟨ib,Di,gN⟩:=ho
 have main:=pW.leaves (R:=fun e w'=>∃v σ' own' hv' dr os,e=.returned v∧d=.tup (dr::os)∧os.length=obs.length∧σ.le σ'∧σ'.ok w'∧Below 0 w w'∧
  (∀k,k<w.heap.size→own k=none→w'.heap[k]?=w.heap[k]?)∧
  (∀k o x,σ'.c k o=some x→(σ.c k o=some x∨B≤k)∧¬cx k)∧(∀k x,σ'.m k=some x→(σ.m k=some x∨B≤k)∧¬cx k)∧(∀k,σ'.m k=some cP→B≤k→k<w.heap.size→own k≠none)∧
  (∀k j,own' k=some j→B≤k∧k<w'.heap.size∧(∀o,σ'.c k o=none)∧σ'.m k=none∧(k<w.heap.size→own k≠none))∧
  (∀(t:Nat) (sh:Sh),shs[t]?=some sh→mI sh=false→aQ C (fA shs obs) (lU obs ds os) σ' hv' sh (args.getD t undef) (ds.getD t .none))∧
  (∀j,cl C (fA shs obs) (lU obs ds os) σ' own' hv' w' B j (dT obs j))∧Rep C.cap σ' s.res v dr) (fun w2 hr=>by
  obtain⟨v,σ',⟨own',t,fx,jH,da,_,Il⟩,ao,lJ,PS,O5,dq,db,_⟩:=hr;obtain⟨hv',dr,os,e1,e2,e3,e4,e5,e6⟩:=Il shs obs cJ;obtain⟨f1,f2,f3,f4⟩:=da.F;have aat:∀k,cx k→jH k:=fun k hk=>(f2 k).2 ⟨(f1 k).2 ⟨(kg k hk).1,(kg k hk).2.1⟩,hk⟩;rw[qv] at dq db e3 e5
  refine⟨v,ao,v,σ',own',hv',dr,os,rfl,e1,e2,lJ,PS,⟨O5.os,O5.tape,O5.output,f3,fun k hk=>by omega⟩,fun k hk hn=>f4 k ((f1 k).2 ⟨hk,hn⟩),fun k o x e=>⟨dq k o x e,fun hk=>da.c k o x e (aat k hk)⟩,fun k x e=>⟨db k x e,fun hk=>da.m k x e (aat k hk)⟩,
   fun k e xY hk hn=>da.d k e (by rw[qv];exact xY) ((f1 k).2 ⟨hk,hn⟩),fun k j hk=>?_,fun t sh hs hd=>?_,fun j=>?_,e6⟩
  ·obtain⟨g1,g2,g3,g4⟩:=e3 k j hk;exact⟨g1,g2,g3,g4,fun ah hn=>da.own k j hk ((f1 k).2 ⟨ah,hn⟩)⟩
  ·have:=e4 t sh hs hd (ds.getD t .none);have ah:t<shs.length:=(fi.1 hs).1;have mC:t∉cq c:=by have:=abK l2 t sh hs hd;simpa using this
   have cr:a'.tmps.getD t undef=args.getD t undef:=by
        rw[gN.get t mC];simp only[dO];rw[Xd (by omega)]
   simp only at this;rw[cr] at this;have hp:=bL.1 l3 _ (mg hs);exact aQ.mono' (.refl σ') ⟨fun _=>bk _,fun _ _=>rfl⟩ (fun gs s' e=>by rw[e] at hp;cases hp) this
  ·exact cl.mono (S:=fA shs obs) (S':=fA shs obs) (ρ:=lU obs [] os) (ρ':=lU obs ds os) (hv:=hv') (hv':=hv') (own:=own') (own':=own') (w:=w2) (w':=w2) (.refl σ') ⟨fun _=>bk _,fun _ _=>rfl⟩ rfl rfl (fun k hk=>⟨hk,rfl⟩) (e5 j)) _ _ Di
 rcases ib with rfl|rfl<;>exact main
def Zw (m:Nat)(cts:List Ty)(J:Nat)(ids:List Nat):Snap:=⟨.yv::(cts.map .dat++List.replicate (m-(cts.length+1)) .none),ids.map fun j=>bif Nat.beq j J then .tr else .dead⟩
def xM (J:Nat)(ds:List D):Env:=⟨fun t=>(D.none::ds).getD t .none,fun j=>bif Nat.beq j J then .list [] else .none⟩
def BY (C:Ctx)(fn:Func)(cts ys:List Ty)(J:Nat)(ids:List Nat):Option PC:=
 match C.yl,C.sig l9,C.cap l9 with
 |none,none,none=>bif Nat.ble (cts.length+1) fn.ntmps then sP {C with yl:=some (J,ys)} fn ⟨[],.tup [],.it J⟩ ids (Zw fn.ntmps cts J ids) else none
 |_,_,_=>none
open Classical in
noncomputable def yldΦ (Φ:aT)(xs:List D)(m:Nat):aT:=fun f ds=>
 if f=l9 then(match ds with|[.list l]=>if 0<l.length∧l.length≤m+1∧l=xs.take l.length then some (.v (.bool (decide (l.length≤m)))) else none|_=>none)
 else Φ f ds
theorem yldΦ_at {Φ:aT}{xs l ds:List D}{d:D}{m:Nat}(h:yldΦ Φ xs m l9 [.list (l++[.tup ds])]=some d):l.length≤m∧l=xs.take l.length∧xs[l.length]?=some (.tup ds)∧l++[.tup ds]=xs.take (l.length+1)∧d=.v (.bool (decide (l.length<m))):=by
 simp only[yldΦ,if_true] at h;split at h
 ·rename_i hc;obtain⟨h1,h2,h3⟩:=hc;simp only[j4,pS,xg,lC] at h2 h3 h;have hx:xs[l.length]?=some (.tup ds):=by
   have:(xs.take (l.length+1))[l.length]?=some (.tup ds):=by rw[←h3];simp
   rw[gD] at this;simpa using this
  have hl:l=xs.take l.length:=by
   have:=congrArg (List.take l.length) h3;simpa [List.take_take] using this
  refine⟨by omega,hl,hx,h3,?_⟩;cases h
  congr 2
 ·cases h
theorem de.yl {C:Ctx}{Φ:aT}(h:de C Φ){y:Option (Nat×List Ty)}{v:Value}{xs:List D}{m:Nat}(hs:C.sig l9=none):de {C with yl:=y,yv:=v} (yldΦ Φ xs m):=by
 intro f ds d e s eA;have aB:f≠l9:=fun e'=>by subst e';change C.sig l9=some s at eA;rw[hs] at eA;cases eA
 simp only[yldΦ,if_neg aB] at e;obtain⟨h1,h2⟩:=h f ds d e s eA;exact⟨fun hm σ w args aE hC ha=>h1 hm σ w args aE ⟨hC.glob⟩ ha,fun shs obs hm=>(h2 shs obs hm).ctx rfl rfl rfl⟩
theorem ly.yl {C:Ctx}{y:Option (Nat×List Ty)}{v:Value}{f:Nat}{cts ys:List Ty}{ds xs:List D}(h:ly C f cts ys ds xs):ly {C with yl:=y,yv:=v} f cts ys ds xs:=
 fun σ w yv vs F fx cx m aE hC=>h σ w yv vs F fx cx m aE ⟨hC.glob⟩
theorem fV.yl {C:Ctx}{Φ:aT}(h:fV C Φ){y:Option (Nat×List Ty)}{v:Value}{xs:List D}{m:Nat}(hs:C.cap l9=none):fV {C with yl:=y,yv:=v} (yldΦ Φ xs m):=by
 intro f cs ys hc hi;have aB:f≠l9:=fun e'=>by subst e';change C.cap l9=some cs at hc;rw[hs] at hc;cases hc
 obtain⟨h1,h2⟩:=h f cs ys hc hi;refine⟨h1,fun ds d e=>?_⟩;simp only[yldΦ,if_neg aB] at e;obtain⟨xs,e1,e2,e3⟩:=h2 ds d e;exact⟨xs,e1,e2,e3.yl⟩
def Xl (Φ:aT)(pc:PC)(J:Nat)(ds xs:List D):Prop:=∀m,m≤xs.length→∃N,pc.ev (yldΦ Φ xs m) N (xM J ds)=some (.ret (.list (xs.take (m+1))))
theorem apx {C:Ctx}{σ:Im}{σ0:Base}{w:World}{yv:Value}{vs:List Value}{ds:List D}{cts ys:List Ty}{J m:Nat}{ids:List Nat}(aE:σ.ok w)(ha:pM C σ cts vs ds)(hm:cts.length+1≤m)(jT:C.yl=some (J,ys))(Dt:C.yv=yv)
 (h0:σ0.toIm=σ) (hB:σ0.B=0) {fx cx:Nat→Prop} (hF:σ0.F (.list []) fx cx w) (ia:∀k o x,σ.c k o=some x→¬cx k) (mw:∀k x,σ.m k=some x→¬cx k):
 Good C w σ0 ((Zw m cts J ids).st ids) (xM J ds) (fun _=>False) {tmps:=#[yv]++vs.toArray++Array.replicate (m-(vs.length+1)) undef,defers:=[]} w:=by
 obtain⟨h1,h2,h3⟩:=ha
 refine⟨σ,fun _=>none,fun _=>undef,trivial,aE,by rw[h0];exact .refl σ,fun _ k e=>by rw[h0] at e;exact(aE.m k _ e).lt,fun _ _ _ h=>by rw[h0];exact .inl h,fun _ _ h=>by rw[h0];exact .inl h,.refl _ _,by omega,(fun k j h=>by cases h),fun t=>?_,fun j=>?_,fun t gs s' e=>absurd e (Snap.noOpt _ _ t gs s'),
  .list [],fx,cx,⟨hF,(fun k j h=>by cases h),ia,mw,fun k e hk=>by have:=(aE.m k _ e).lt;omega⟩,fun j hj=>?_⟩
 ·show aQ C _ _ σ _ (cu ((Sh.yv::(cts.map Sh.dat++List.replicate (m-(cts.length+1)) Sh.none)).getD t .none)) ((#[yv]++vs.toArray++Array.replicate (m-(vs.length+1)) undef).getD t undef) ((D.none::ds).getD t .none);have ea:((#[yv]++vs.toArray++Array.replicate (m-(vs.length+1)) undef).getD t undef)=(yv::(vs++List.replicate (m-(vs.length+1)) undef)).getD t undef:=by
   rw[dO,←Ai,aS];simp
  rw[ea];cases t with
  |zero=>simp only[uM,cu];exact Dt.symm
  |succ t=>
   simp only[FJ];rw[aS];by_cases ht:t<cts.length
   ·rw[jA (by simpa using ht),cU,bK ht];simp only[jF,jE,cu];have:=h3 t _ (bK ht);have e1:(vs++List.replicate (m-(vs.length+1)) undef).getD t undef=vs.getD t undef:=by
     simp only[aS];rw[jA (by omega)]
    show aQ C _ _ σ _ (.dat _) _ (ds.getD t .none);rw[e1];exact this
   ·rw[kN (by simpa using ht),Xx];split<;>trivial
 ·show cl C _ _ σ _ _ w _ j (dh ids (ids.map fun j=>bif Nat.beq j J then .tr else .dead) j);refine vX _ (fun ob=>cl C _ _ σ _ _ w _ j ob) trivial j ?_ ids;cases Nat.beq j J<;>trivial
 ·change dh ids (ids.map fun j=>bif Nat.beq j J then .tr else .dead) j=.tr at hj
  have hb:=vX (fun j=>bif Nat.beq j J then Ob.tr else .dead) (fun ob=>ob=.tr→Nat.beq j J=true) (fun e=>by cases e) j (fun e=>by
   cases hb:Nat.beq j J
   ·rw[hb] at e;cases e
   ·rfl) ids hj
  have:=aL hb;subst this;refine⟨⟨ys,jT⟩,?_⟩;show(bif Nat.beq j j then D.list [] else .none)=_;rw[gY];rfl
theorem aon {C:Ctx}{Φ:aT}(bn:dD C)(hΦ:de C Φ)(fl:fV C Φ){f:Nat}{fn:Func}{cts ys:List Ty}{J:Nat}{ids:List Nat}{pc:PC}(hf:C.P.funcs[f]?=some fn)(hc:∀yv,BY {C with yv:=yv} fn cts ys J ids=some pc){ds xs:List D}
 (hr:Xl Φ pc J ds xs):ly C f cts ys ds xs:=by
 intro σ w yv vs F fx cx m aE hC ha hm ah cn Pr hF ia mw Qy;have hc:=hc yv;unfold BY at hc;split at hc
 case h_2=>cases hc
 rename_i jT hsy hcy;cases hle:Nat.ble (cts.length+1) fn.ntmps<;>simp only[hle,cond_true,cond_false] at hc
 ·cases hc
 have C1:=kO hle;obtain⟨N,he⟩:=hr m hm;cases hb:fn.body with
 |none=>unfold sP at hc;rw[hb] at hc;cases hc
 |some c=>
 refine(callsIn_wide (n:=0)).1 (callsIn_of_wp_marks (F:=FR none) hf hb trivial ?_);obtain⟨σ0,hσ0⟩:∃σ0:Base,σ0={σ with B:=0,fin:=True,F:=fun t fx cx w=>(∃l,t=.list l)∧F t fx cx w,lt:=fun t fx cx w h=>ah t fx cx w h.2,sub:=fun t fx cx w h=>cn t fx cx w h.2,keep:=fun t fx cx w w' h hb hs=>⟨h.1,Pr t fx cx w w' h.2 hb hs⟩}:=⟨_,rfl⟩
 have e1:σ0.toIm=σ:=by rw[hσ0]
 have e2:σ0.B=0:=by rw[hσ0]
 have e3:σ0.fin:=by rw[hσ0];trivial
 have e4:∀t fx cx w,σ0.F t fx cx w↔(∃l,t=.list l)∧F t fx cx w:=fun t fx cx w=>by rw[hσ0]
 have hg:=apx (C:={C with yl:=some (J,ys),yv:=yv}) (σ0:=σ0) (w:=w) (yv:=yv) (vs:=vs) (ds:=ds) (cts:=cts) (ys:=ys) (J:=J) (m:=fn.ntmps) (ids:=ids) aE ha C1 rfl rfl e1 e2 ((e4 _ _ _ _).2 ⟨⟨_,rfl⟩,hF⟩) ia mw;have aR:(#[yv]++vs.toArray).size=vs.length+1:=by simp<;>omega
 have Iu:vs.length=cts.length:=ha.1;have hY:oB {C with yl:=some (J,ys),yv:=yv} (yldΦ Φ xs m) w σ0:=by
  intro J' ys' e;cases e;refine⟨e2,fun t fx cx w h=>((e4 _ _ _ _).1 h).1,fun MW ds' d hd fx cx w1 σ1 args xZ auD vj hc1 C2 dq db=>?_⟩;obtain⟨g1,g2,g3,g4,rfl⟩:=yldΦ_at hd;rw[e1] at dq db;have:=Qy MW.length fx cx w1 σ1 args ds' g1 g3 (by rw[←g2];exact((e4 _ _ _ _).1 xZ).2) auD vj hc1 C2 dq db;intro rd o a x aa ts K Q bP hv has hK;refine this rd o a x aa ts K Q bP hv has fun u w2 hu=>hK u w2 ?_;obtain⟨u1,u2,u3,mq,jH,u4,u5,u6⟩:=hu;refine⟨_,rfl,u1,u2,u3,mq,jH,(e4 _ _ _ _).2 ⟨⟨_,rfl⟩,?_⟩,u5,u6⟩;rw[g4];exact u4
 have hn:(#[yv]++vs.toArray++Array.replicate (fn.ntmps-(vs.length+1)) undef).size=fn.ntmps:=by simp;omega
 rw[aR];refine wpIn_mono (Oh (C:={C with yl:=some (J,ys),yv:=yv}) bn (hΦ.yl hsy) (fl.yl hcy) hb hc (σ0:=σ0) e3 (by rw[e1];exact⟨hC.glob⟩) hY hn hg he) fun e a' w' ho=>?_
 have main:=pW.leaves (R:=fun e w'=>(∃v,e=.returned v)∧∃fx cx,F (.list (xs.take (m+1))) fx cx w') (fun w2 Di=>by
  obtain⟨v,σ',⟨own,t,fx,cx,h1,ht,_⟩,h2,_⟩:=Di;refine⟨v,h2,⟨v,rfl⟩,fx,cx,?_⟩;rw[ht J rfl];exact((e4 _ _ _ _).1 h1.F).2) _ _ ho.2.1
 rcases ho.1 with rfl|rfl<;>exact main
noncomputable def cH (tab:Nat→Option PC)(ext:Nat→Option (aT→List D→Option D)):Nat→aT
 |0=>fun _ _=>none
 |n+1=>fun f ds=>
  match ext f with
  |some g=>g (cH tab ext n) ds
  |none=>
   match tab f with
   |some pc=>(match pc.ev (cH tab ext n) n (j9 ds) with|some (.ret d)=>some d|_=>none)
   |none=>none
theorem lu.hint {C:Ctx}{fr nh:List Nat}{f:Nat}{s:Sig}{ds:List D}{d:D}(h:lu C f s ds d):lu {C with fr:=fr,nh:=nh} f s ds d:=
 fun σ w args aE hC ha=>h σ w args aE ⟨hC.glob⟩ ha
theorem lu.unhint {C:Ctx}{fr nh:List Nat}{f:Nat}{s:Sig}{ds:List D}{d:D}(h:lu {C with fr:=fr,nh:=nh} f s ds d):lu C f s ds d:=
 fun σ w args aE hC ha=>h σ w args aE ⟨hC.glob⟩ ha
theorem ly.hint {C:Ctx}{fr nh:List Nat}{f:Nat}{cts ys:List Ty}{ds xs:List D}(h:ly C f cts ys ds xs):ly {C with fr:=fr,nh:=nh} f cts ys ds xs:=
 fun σ w yv vs F fx cx m aE hC=>h σ w yv vs F fx cx m aE ⟨hC.glob⟩
theorem ly.unhint {C:Ctx}{fr nh:List Nat}{f:Nat}{cts ys:List Ty}{ds xs:List D}(h:ly {C with fr:=fr,nh:=nh} f cts ys ds xs):ly C f cts ys ds xs:=
 fun σ w yv vs F fx cx m aE hC=>h σ w yv vs F fx cx m aE ⟨hC.glob⟩
theorem lx.hint {C:Ctx}{fr nh:List Nat}{f:Nat}{shs:List Sh}{obs:List (Nat×Ob)}{res:Ty}{ds:List D}{d:D}(h:lx C f shs obs res ds d):lx {C with fr:=fr,nh:=nh} f shs obs res ds d:=h.ctx rfl rfl rfl
theorem lx.unhint {C:Ctx}{fr nh:List Nat}{f:Nat}{shs:List Sh}{obs:List (Nat×Ob)}{res:Ty}{ds:List D}{d:D}(h:lx {C with fr:=fr,nh:=nh} f shs obs res ds d):lx C f shs obs res ds d:=lx.ctx (C':=C) h rfl rfl rfl
theorem de.hint {C:Ctx}{fr nh:List Nat}{Φ:aT}(h:de C Φ):de {C with fr:=fr,nh:=nh} Φ:=
 fun f ds d e s hs=>⟨fun hm=>((h f ds d e s hs).1 hm).hint,fun shs obs hm=>((h f ds d e s hs).2 shs obs hm).hint⟩
theorem fV.hint {C:Ctx}{fr nh:List Nat}{Φ:aT}(h:fV C Φ):fV {C with fr:=fr,nh:=nh} Φ:=
 fun f cs ys hc hi=>let⟨h1,h2⟩:=h f cs ys hc hi;⟨h1,fun ds d e=>let⟨xs,e1,e2,e3⟩:=h2 ds d e;⟨xs,e1,e2,e3.hint⟩⟩
theorem dD.hint {C:Ctx}{fr nh:List Nat}(h:dD C):dD {C with fr:=fr,nh:=nh}:=h
def M0 (C:Ctx)(f:Nat)(s:Sig)(ds:List D)(d:D):Prop:=(qx s.mode=false→lu C f s ds d)∧∀shs obs,s.mode=.ob shs obs→lx C f shs obs s.res ds d
structure TabOK (C:Ctx) (tab:Nat→Option PC) (ext:Nat→Option (aT→List D→Option D)):Prop where
 clos:dD C
 its:∀f cs ys,C.cap f=some cs→lR cs.args cs.res=some ys→tab f=none∧∃fn,C.P.funcs[f]?=some fn∧fn.body.isSome=true∧(fn.name== "runtime.NumGoroutine")=false
 tab:∀f pc,ext f=none→tab f=some pc→∃fn s ids fr nh,C.P.funcs[f]?=some fn∧C.sig f=some s∧aD {C with fr:=fr,nh:=nh} fn s ids=some pc
 ext:∀f g,ext f=some g→∀Φ,de C Φ→fV C Φ→∀ds d,g Φ ds=some d→(∀s,C.sig f=some s→M0 C f s ds d)∧
  ∀cs ys,C.cap f=some cs→lR cs.args cs.res=some ys→∃xs,d=.list xs∧(∀x,x∈xs→∃ds',x=.tup ds'∧ds'.length=ys.length)∧ly C f cs.caps ys ds xs
theorem XF {C:Ctx}{tab:Nat→Option PC}{ext:Nat→Option (aT→List D→Option D)}(h:TabOK C tab ext):∀n,de C (cH tab ext n)∧fV C (cH tab ext n)
 |0=>⟨fun f ds d e=>by simp[cH] at e,fun f cs ys hc hi=>⟨(h.its f cs ys hc hi).2,fun ds d e=>by simp[cH] at e⟩⟩
 |n+1=>by
  obtain⟨ih,lQ⟩:=XF h n;refine⟨fun f ds d e=>?_,fun f cs ys hc hi=>⟨(h.its f cs ys hc hi).2,fun ds d e=>?_⟩⟩
  ·simp only[cH] at e;split at e
   ·rename_i g hg;exact(h.ext f g hg _ ih lQ ds d e).1
   ·rename_i hx;split at e
    ·rename_i pc az;split at e
     ·rename_i d' he;cases e;obtain⟨fn,s,ids,fr,nh,h1,h2,h3⟩:=h.tab f pc hx az;intro s' eA;rw[h2] at eA;cases eA
      exact⟨fun hm=>(Oi (C:={C with fr:=fr,nh:=nh}) (dD.hint h.clos) (de.hint ih) (fV.hint lQ) h1 h3 hm he).unhint,
       fun shs obs hm=>(aom (C:={C with fr:=fr,nh:=nh}) (dD.hint h.clos) (de.hint ih) (fV.hint lQ) h1 h3 hm he).unhint⟩
     ·cases e
    ·cases e
  ·simp only[cH] at e;split at e
   ·rename_i g hg;exact(h.ext f g hg _ ih lQ ds d e).2 cs ys hc hi
   ·rw[(h.its f cs ys hc hi).1] at e;cases e
def aiR (Φ:aT)(pc:PC)(J k:Nat)(ds xs:List D):Prop:=Xl Φ pc J ds xs∧∀x,x∈xs→∃ds',x=.tup ds'∧ds'.length=k
open Classical in
noncomputable def tK (pc:PC)(J k:Nat)(spec:List D→List D):aT→List D→Option D:=fun Φ ds=>if aiR Φ pc J k ds (spec ds) then some (.list (spec ds)) else none
theorem avP {C:Ctx}{Φ:aT}(bn:dD C)(hΦ:de C Φ)(fl:fV C Φ){f:Nat}{fn:Func}{cts ys:List Ty}{J k:Nat}{ids fr nh:List Nat}{pc:PC}(hf:C.P.funcs[f]?=some fn)(hc:∀yv,BY {C with fr:=fr,nh:=nh,yv:=yv} fn cts ys J ids=some pc){spec:List D→List D}
 {ds:List D} {d:D} (h:tK pc J k spec Φ ds=some d) (hk:k=ys.length):∃xs,d=.list xs∧(∀x,x∈xs→∃ds',x=.tup ds'∧ds'.length=ys.length)∧ly C f cts ys ds xs:=by
 unfold tK at h;split at h
 ·rename_i hs;cases h;subst hk;exact⟨_,rfl,hs.2,(aon (C:={C with fr:=fr,nh:=nh}) (dD.hint bn) (de.hint hΦ) (fV.hint fl) hf hc hs.1).unhint⟩
 ·cases h
def ab {α:Type}:List (Nat×α)→Nat→Option α
 |[],_=>none
 |x::l,f=>bif Nat.beq x.1 f then some x.2 else ab l f
def FC {α:Type}(R:Nat→α→Prop):List (Nat×α)→Prop
 |[]=>True
 |x::l=>R x.1 x.2∧FC R l
theorem DF {α:Type}{R:Nat→α→Prop}:∀{l:List (Nat×α)},FC R l→∀f x,ab l f=some x→R f x
 |[],_,f,x,h=>by cases h
 |y::l,⟨h1,h2⟩,f,x,h=>by
  simp only[ab] at h;cases hb:Nat.beq y.1 f<;>simp only[hb,cond_true,cond_false] at h
  ·exact DF h2 f x h
  ·cases h;rw[←cK hb];exact h1
def UJ (P:Program):List (Nat×Sig)→Bool
 |[]=>true
 |x::l=>(match P.funcs[x.1]? with|some fn=>fn.body.isSome&& !(fn.name== "runtime.NumGoroutine")|none=>false)&&UJ P l
theorem ahH {P:Program}:∀{l:List (Nat×Sig)},UJ P l=true→∀f s,ab l f=some s→∃fn,P.funcs[f]?=some fn∧fn.body.isSome=true∧(fn.name== "runtime.NumGoroutine")=false
 |[],_,f,s,h=>by cases h
 |y::l,hl,f,s,h=>by
  simp only[UJ,ar] at hl;simp only[ab] at h;cases hb:Nat.beq y.1 f<;>simp only[hb,cond_true,cond_false] at h
  ·exact ahH hl.2 f s h
  ·rw[←cK hb];have h1:=hl.1;split at h1
   ·rename_i fn e;simp only[ar,iw] at h1;exact⟨fn,e,h1.1,h1.2⟩
   ·cases h1
def UB (a b:Sig):Bool:=Ty.beqs a.args b.args&&Ty.beq a.res b.res&&(match a.mode,b.mode with|.dat,.dat=>true|_,_=>false)
theorem aBt {a b:Sig}(h:UB a b=true):a=b:=by
 obtain⟨a1,a2,a3⟩:=a;obtain⟨b1,b2,b3⟩:=b;simp only[UB,ar] at h;rw[Ty.beqs_eq _ _ h.1.1,Ty.beq_eq _ _ h.1.2];cases a3<;>cases b3<;>first|rfl|(have:=h.2;cases this)
def Fo (P:Program)(f:Nat):Bool:=match P.funcs[f]? with|some fn=>fn.body.isSome&& !(fn.name== "runtime.NumGoroutine")|none=>false
theorem aBO {P:Program}{f:Nat}(h:Fo P f=true):∃fn,P.funcs[f]?=some fn∧fn.body.isSome=true∧(fn.name== "runtime.NumGoroutine")=false:=by
 unfold Fo at h;split at h
 ·rename_i fn e;simp only[ar,iw] at h;exact⟨fn,e,h.1,h.2⟩
 ·cases h
def N9 (P:Program)(sig:List (Nat×Sig))(pcs:List Nat):List (Nat×CSig)→Bool
 |[]=>true
 |x::l=>(match lR x.2.args x.2.res with
   |none=>(match ab sig x.1 with|some s=>UB s ⟨x.2.args++x.2.caps,x.2.res,.dat⟩|none=>false)
   |some _=> !eZ pcs x.1&&Fo P x.1)&&N9 P sig pcs l
theorem Yt {P:Program}{sig:List (Nat×Sig)}{pcs:List Nat}:∀{l:List (Nat×CSig)},N9 P sig pcs l=true→∀f cs,ab l f=some cs→
 (lR cs.args cs.res=none→ab sig f=some ⟨cs.args++cs.caps,cs.res,.dat⟩)∧∀ys,lR cs.args cs.res=some ys→eZ pcs f=false∧Fo P f=true
 |[],_,f,cs,h=>by cases h
 |x::l,hl,f,cs,h=>by
  simp only[N9,ar] at hl;simp only[ab] at h;cases hb:Nat.beq x.1 f<;>simp only[hb,cond_true,cond_false] at h
  ·exact Yt hl.2 f cs h
  ·cases h;rw[←cK hb];have h1:=hl.1;refine⟨fun e=>?_,fun ys e=>?_⟩
   ·rw[e] at h1;simp only at h1;split at h1
    ·rename_i s hs;rw[hs,aBt h1]
    ·cases h1
   ·rw[e] at h1;simpa using h1
theorem abX {α:Type}:∀{l:List (Nat×α)} {f:Nat},eZ (l.map (·.1)) f=false→ab l f=none
 |[],f,_=>rfl
 |x::l,f,h=>by
  simp only[gE,eZ,List.any_cons,Xi] at h;simp only[ab];have hb:Nat.beq x.1 f=false:=by
   cases e:Nat.beq x.1 f
   ·rfl
   ·rw[aL e,gY] at h;cases h.1
  rw[hb];exact abX (l:=l) h.2
def aiZ (Φ:aT)(pa pb:PC)(ds:List D)(d:D):Prop:=(∃N xs,pa.ev Φ N (j9 ds)=some (.ret (.list xs))∧xs≠[]∧d=.list xs)∨∃N,pb.ev Φ N (j9 ds)=some (.ret (.list []))∧d=.list []
open Classical in
noncomputable def rX (pa pb:PC)(spec:List D→D):aT→List D→Option D:=fun Φ ds=>if aiZ Φ pa pb ds (spec ds) then some (spec ds) else none
theorem ayL {C:Ctx}{Φ:aT}(bn:dD C)(hΦ:de C Φ)(fl:fV C Φ){f:Nat}{fn:Func}{args:List Ty}{e:Ty}{ids avG fr nh ZW nhb:List Nat}{pa pb:PC}(hf:C.P.funcs[f]?=some fn)(ha:aD {C with fr:=fr,nh:=nh} fn ⟨args,.slice e,.dat⟩ ids=some pa)
 (hb:aD {C with fr:=ZW,nh:=nhb} fn ⟨args,.nils .bool,.dat⟩ avG=some pb) {spec:List D→D} {ds:List D} {d:D} (h:rX pa pb spec Φ ds=some d):lu C f ⟨args,.nsl e,.dat⟩ ds d:=by
 unfold rX at h;split at h
 case isFalse=>cases h
 rename_i hs;cases h;rcases hs with⟨N,xs,h1,h2,h3⟩|⟨N,h1,h2⟩
 ·rw[h3];have:=(Oi (C:={C with fr:=fr,nh:=nh}) (dD.hint bn) (de.hint hΦ) (fV.hint fl) hf ha (N:=N) rfl h1).unhint;intro σ w aa aE hC jj;refine(this σ w aa aE hC jj).mono fun en w' hh=>?_;obtain⟨v,σ',g1,g2,g3,g4,g5,g6,g7⟩:=hh;refine⟨v,σ',g1,g2,g3,g4,g5,g6,?_⟩;change Rep C.cap σ' (.slice e) v (.list xs) at g7;show Rep C.cap σ' (.nsl e) v (.list xs);generalize hd:D.list xs=dd at g7;cases g7 with
  |nil=>injection hd with hd;exact absurd hd h2
  |emp=>injection hd with hd;exact absurd hd h2
  |slice _ k o n c MW vs a1 a2 a3 a4 a5=>exact .nsl e k o n c MW (.slice e k o n c MW vs a1 a2 a3 a4 a5) (by injection hd with hd;rw[←hd];exact h2)
 ·rw[h2];have:=(Oi (C:={C with fr:=ZW,nh:=nhb}) (dD.hint bn) (de.hint hΦ) (fV.hint fl) hf hb (N:=N) rfl h1).unhint;intro σ w aa aE hC jj;refine(this σ w aa aE hC jj).mono fun en w' hh=>?_;obtain⟨v,σ',g1,g2,g3,g4,g5,g6,g7⟩:=hh;refine⟨v,σ',g1,g2,g3,g4,g5,g6,?_⟩;change Rep C.cap σ' (.nils .bool) v (.list []) at g7;show Rep C.cap σ' (.nsl e) v (.list []);generalize D.list []=dd at g7;cases g7;exact .nsl0 e
end Cx
namespace Cx
open Go Go.RowKit Go.ChangeShapes Go.WideShapes
def mG (w:World):Im:=
 ⟨fun k o=>w.cell? ⟨k,o,none⟩,fun _=>none⟩
theorem avI (w:World):(mG w).ok w:=by
 exact⟨fun k o v h=>h,fun k es h=>by cases h⟩
def zN (P:Program)(r:TypeId→Option Ty):List Field→Nat→Option (List Ty)
 |[],_=>some []
 |f::fs,off=>(r f.type).bind fun ft=>
  bif Nat.beq f.offset off&&Nat.beq (P.cellsOf f.type) ft.flat.length then(zN P r fs (off+ft.flat.length)).map (ft.flat++·) else none
def fO (P:Program):Nat→TypeId→Option Ty
 |0,_=>none
 |n+1,t=>
  match P.underlying t with
  |some .bool=>some .bool
  |some (.int k)=>some (.int k)
  |some .string=>some .str
  |some (.slice e)=>bif rS P e then some (.slice .trm) else(fO P n e).bind fun te=>bif Nat.beq (P.cellsOf e) te.flat.length&&Nat.ble 1 te.flat.length then some (.slice te) else none
  |some (.struct fs)=>(zN P (fO P n) fs.toList 0).bind fun ts=>bif Nat.beq (P.cellsOf t) ts.length then some (.agg ts) else none
  |_=>none
theorem avN {P:Program}{e:TypeId}(h:rS P e=true)(n:Nat):fO P (n+2) e=some .trmA∧P.cellsOf e=3:=by
 unfold rS at h;split at h
 case h_2=>cases h
 rename_i fs hu;split at h
 case h_2=>cases h
 rename_i f0 f1 f2 vu;simp only[ar] at h;obtain⟨⟨⟨⟨⟨⟨⟨⟨⟨h0,h1⟩,h2⟩,o0⟩,o1⟩,o2⟩,c0⟩,c1⟩,c2⟩,c3⟩:=h;split at h0
 case h_2=>cases h0
 rename_i u0;split at h1
 case h_2=>cases h1
 rename_i u1;split at h2
 case h_2=>cases h2
 rename_i e' u2;obtain rfl:=aL h2;have r0:fO P (n+1) f0.type=some (.int .i64):=by simp[fO,u0]
 have r1:fO P (n+1) f1.type=some (.int .i64):=by simp[fO,u1]
 have ht:rS P e'=true:=by
  unfold rS;rw[hu];simp only[vu];simp[u0,u1,u2,aL o0,aL o1,aL o2,aL c0,aL c1,aL c2,aL c3]
 have r2:fO P (n+1) f2.type=some (.slice .trm):=by simp[fO,u2,ht]
 refine⟨?_,aL c3⟩;show fO P (n+1+1) e'=_;rw[fO,hu];simp only[vu,zN,r0,r1,r2,kP,Ty.flat,pS,xg,o0,c0,Bool.and_self,cond_true];simp[aL o1,aL o2,aL c1,aL c2,aL c3,Ty.trmA]
theorem Uj {P:Program}{n:Nat}{t:TypeId}{ty:Ty}(h:fO P n t=some ty):ty.rowT=true∨ty.one=true:=by
 cases n with
 |zero=>simp[fO] at h
 |succ n=>
  simp only[fO] at h;split at h
  ·cases h;exact .inr rfl
  ·cases h;exact .inr rfl
  ·cases h;exact .inr rfl
  ·rename_i e _;cases ht:rS P e<;>simp only[ht,cond_true,cond_false] at h
   ·simp only[ax] at h;obtain⟨te,_,h⟩:=h;cases hb:(Nat.beq (P.cellsOf e) te.flat.length&&Nat.ble 1 te.flat.length)<;>simp only[hb,cond_true,cond_false] at h
    ·cases h
    ·cases h;exact .inr rfl
   ·cases h;exact .inr rfl
  ·rename_i fs _;simp only[ax] at h;obtain⟨ts,_,h⟩:=h;cases hb:Nat.beq (P.cellsOf t) ts.length<;>simp only[hb,cond_true,cond_false] at h
   ·cases h
   ·cases h;exact .inl rfl
  ·cases h
def mh (cap:Nat→Option CSig)(σ:Im)(ts:List Ty)(cs:List Value)(ds:List D):Prop:=
 cs.length=ts.length∧ds.length=ts.length∧∀(i:Nat) (u:Ty),ts[i]?=some u→Rep cap σ u (cs.getD i undef) (ds.getD i .none)∧u.one=true
theorem mh.one {cap:Nat→Option CSig}{σ:Im}{t:Ty}{v:Value}{d:D}(h:Rep cap σ t v d)(ht:t.one=true):mh cap σ [t] [v] [d]:=
 ⟨rfl,rfl,fun i u hu=>by
   cases i with
   |zero=>simp at hu;subst hu;exact⟨h,ht⟩
   |succ i=>simp at hu⟩
theorem mh.append {cap:Nat→Option CSig}{σ:Im}{ts us:List Ty}{cs vs:List Value}{ds es:List D}(h:mh cap σ ts cs ds)(k:mh cap σ us vs es):mh cap σ (ts++us) (cs++vs) (ds++es):=by
 obtain⟨h1,h2,h3⟩:=h;obtain⟨k1,k2,k3⟩:=k;refine⟨by simp[h1,k1],by simp[h2,k2],fun i u hu=>?_⟩;by_cases hi:i<ts.length
 ·rw[jA hi] at hu;have:=h3 i u hu;rw[aS,aS,jA (by omega),jA (by omega)];rw[aS,aS] at this;exact this
 ·rw[kN (by omega)] at hu;have:=k3 _ u hu;rw[aS,aS,kN (by omega),kN (by omega),h1,h2];rw[aS,aS] at this;exact this
def Zg (ag:Bool)(ds:List D):D:=if ag then .agg ds else ds.getD 0 .none
theorem ap0 (t:Ty):t.flat.length=t.size:=by cases t<;>rfl
theorem Rep.ofRow {cap:Nat→Option CSig}{σ:Im}{t:Ty}{cs:List Value}{ds:List D}(gM:t.rowT=true∨t.one=true)(h:mh cap σ t.flat cs ds):Rep cap σ t (Cx.rowOf t.rowT cs) (Zg t.rowT ds):=by
 obtain⟨h1,h2,h3⟩:=h;cases t with
 |agg ts=>exact .agg ts cs ds h1 h2 (fun i u hu=>(h3 i u hu).1) (fun i u hu=>(h3 i u hu).2)
 |trm=>simp[Ty.rowT,Ty.one] at gM
 |_=>exact(h3 0 _ rfl).1
theorem aA5 {cap:Nat→Option CSig}{σ:Im}{t:Ty}{cs:List Value}{ds:List D}(gM:t.rowT=true∨t.one=true)(h:mh cap σ t.flat cs ds){j:Nat}{u:Value}(hj:(rowOf t.rowT cs).cells[j]?=some u):cs[j]?=some u:=by
 obtain⟨h1,h2,h3⟩:=h;cases t with
 |agg ts=>simpa [rowOf,Ty.rowT,Value.cells] using hj
 |trm=>simp[Ty.rowT,Ty.one] at gM
 |_=>
  have h4:=h3 0 _ rfl;have h5:=(h4.1.oneCell h4.2).1;simp only[rowOf,Ty.rowT,uG,if_false] at hj;rw[h5] at hj;cases j with
  |zero=>
   simp only[FK,M4,bf] at hj
   match cs,h1 with
   |[c],_=>simpa using hj
  |succ j=>simp at hj
section
variable {H:Type} {enc:TypeId×Value→H} {P:Program} {w:World} {base:Nat} {held:Bool} {cap:Nat→Option CSig}
theorem aiv {k:IntKind}{n:Int}(h:(Lit.int k n).wf=true):k.min≤n∧n≤k.max:=by
 simpa [Lit.wf] using h
theorem agZ {n m:Nat}(ih:∀(t:TypeId) (cs:List Value) (x:DataW H×List MemPlace) (ty:Ty),DataW.trod enc P w base (fun _=>true) held n t cs=some x→fO P m t=some ty→∃ds,mh cap (mG w) ty.flat cs ds):
 ∀(fs:List Field) (off:Nat) (cs:List Value) (ts:List Ty),zN P (fO P m) fs off=some ts→cs.length=off+ts.length→
  (∀f,f∈fs→∃x,DataW.trod enc P w base (fun _=>true) held n f.type ((cs.drop f.offset).take (P.cellsOf f.type))=some x)→∃ds,mh cap (mG w) ts (cs.drop off) ds
 |[],off,cs,ts,h,hl,_=>by
  simp only[zN,bf] at h;subst h;have:cs.drop off=[]:=by simp at hl ⊢;omega
  rw[this];exact⟨[],rfl,rfl,fun i u hu=>by simp at hu⟩
 |f::fs,off,cs,ts,h,hl,hx=>by
  simp only[zN,ax] at h;obtain⟨ft,hft,h⟩:=h;cases hb:(Nat.beq f.offset off&&Nat.beq (P.cellsOf f.type) ft.flat.length)<;>simp only[hb,cond_true,cond_false] at h
  ·cases h
  simp only[aH] at h;obtain⟨us,hus,rfl⟩:=h;simp only[ar] at hb;have e1:=cK hb.1;have e2:=cK hb.2;obtain⟨x,nG⟩:=hx f (dw ..);rw[e1,e2] at nG;obtain⟨B2,ic⟩:=ih _ _ _ _ nG hft;simp only[j4] at hl;obtain⟨ds2,qs⟩:=agZ ih fs (off+ft.flat.length) cs us hus (by omega) fun g hg=>hx g (dj _ hg);refine⟨B2++ds2,?_⟩;have:=ic.append qs;rw[←List.drop_drop,M8] at this;exact this
theorem aDZ:∀(n m:Nat) (t:TypeId) (cs:List Value) (x:DataW H×List MemPlace) (ty:Ty),DataW.trod enc P w base (fun _=>true) held n t cs=some x→fO P m t=some ty→∃ds,mh cap (mG w) ty.flat cs ds:=by
 intro n
 induction n with
 |zero=>intro m t cs x ty h;simp[DataW.trod] at h
 |succ n ih=>
  intro m t cs x ty h bm;cases m with
  |zero=>simp[fO] at bm
  |succ m=>
   simp only[fO] at bm;split at bm
   ·rename_i hu;cases bm;obtain⟨b,rfl,_⟩:=DataW.trod_bool hu h;exact⟨_,.one (.bool b) rfl⟩
   ·rename_i k hu;cases bm;obtain⟨z,rfl,_,hw⟩:=DataW.trod_int hu h;exact⟨_,.one (.int k z (aiv hw).1 (aiv hw).2) rfl⟩
   ·rename_i hu;cases bm;obtain⟨s,rfl,_,hs⟩:=DataW.trod_string hu h;exact⟨_,.one (.str s hs) rfl⟩
   ·rename_i e hu;have vJ:∃(m':Nat) (te uv:Ty),fO P m' e=some te∧P.cellsOf e=te.flat.length∧1≤te.flat.length∧ty=.slice uv∧uv.unf=te:=by
     cases ht:rS P e<;>simp only[ht,cond_true,cond_false] at bm
     ·simp only[ax] at bm;obtain⟨te,vJ,bm⟩:=bm;cases hb:(Nat.beq (P.cellsOf e) te.flat.length&&Nat.ble 1 te.flat.length)<;>simp only[hb,cond_true,cond_false] at bm
      ·cases bm
      cases bm;simp only[ar] at hb;exact⟨m,te,te,vJ,cK hb.1,kO hb.2,rfl,Ty.unf_ro (Uj vJ)⟩
     ·cases bm;obtain⟨k1,k2⟩:=avN ht 0;exact⟨2,.trmA,.trm,k1,k2,by decide,rfl,rfl⟩
    obtain⟨m',te,uv,vJ,e1,e2,rfl,mF⟩:=vJ;have gM:=Uj vJ;rcases DataW.trod_slice hu h with⟨rfl,_⟩|⟨a,len,cp,elems,rest,n',iP,rfl,_,hba,hl,hm,hlen,iN,tE,_⟩
    ·exact⟨_,.one (.nil uv) rfl⟩
    ·cases iP;obtain⟨hrl,tA⟩:=tE rfl
     have oS:∀i,i<cp→∃ci y,w.cells? base (a.add (i*P.cellsOf e)) (P.cellsOf e)=some ci∧DataW.trod enc P w base (fun _=>true) held n e ci=some y:=by
      intro i hi
      have fZ:∃y,(w.cells? base (a.add (i*P.cellsOf e)) (P.cellsOf e)).bind (DataW.trod enc P w base (fun _=>true) held n e)=some y:=by
           by_cases H3:i<len
           ·rw[iN i H3];exact⟨_,bK (by omega)⟩
           ·have:=tA (i-len) (by omega);rw[show len+(i-len)=i by omega] at this;rw[this];exact⟨_,bK (by omega)⟩
      obtain⟨y,hy⟩:=fZ;rw[ax] at hy;obtain⟨ci,h1,h2⟩:=hy;exact⟨ci,y,h1,h2⟩
     by_cases CI:cp=0
     ·subst CI;have:len=0:=by omega
      subst this;exact⟨_,.one (.emp uv a) rfl⟩
     ·have abh:a.spot=none:=by
           obtain⟨ci,y,h1,_⟩:=oS 0 (by omega);obtain⟨_,_,h3⟩:=World.cells?_some h1;have:=h3 0 (by omega);simp only[Nat.zero_mul,Addr.add,if_true] at this;unfold World.cell? at this;cases hs:a.spot with
           |none=>rfl
           |some s=>
            exfalso;have hl:ci.length=P.cellsOf e:=(World.cells?_some h1).2.1;split at this
            ·rw[hs] at this;simp at this;subst this;simp at hl;omega
            ·rw[eq_comm,List.getElem?_eq_none_iff] at this;omega
      obtain⟨k,o,s⟩:=a;simp only at abh;subst abh;have aV:∀i,∃p:List Value×List D,i<len→w.cells? base ((⟨k,o,none⟩:Addr).add (i*P.cellsOf e)) (P.cellsOf e)=some p.1∧mh cap (mG w) te.flat p.1 p.2:=by
           intro i;by_cases hi:i<len
           ·obtain⟨ci,y,h1,h2⟩:=oS i (by omega);obtain⟨ds,hr⟩:=ih m' _ _ _ _ h2 vJ;exact⟨(ci,ds),fun _=>⟨h1,hr⟩⟩
           ·exact⟨([],[]),fun h=>absurd h hi⟩
      obtain⟨f,hf⟩:=Classical.axiomOfChoice aV;refine⟨_,.one (.slice uv k o len cp ((List.range len).map fun i=>Zg te.rowT (f i).2) (fun i=>rowOf te.rowT (f i).1) (by simp) hl hm (fun i x hx=>?_) (fun i j u hi hj=>?_)) rfl⟩
      ·rw[cU,aH] at hx;obtain⟨i',df,rfl⟩:=hx;have ah:i<len:=by have:=(fi.1 df).1;simpa using this
       rw[pR ah] at df;cases df;rw[mF];exact Rep.ofRow gM (hf i ah).2
      ·obtain⟨h1,h2⟩:=hf i hi;have eT:=aA5 gM h2 hj;obtain⟨_,h4,h5⟩:=World.cells?_some h1;have fJ:j<P.cellsOf e:=by rw[←h4];exact(fi.1 eT).1
       have:=h5 j fJ;rw[eT] at this;show w.cell? ⟨k,o+i*uv.size+j,none⟩=some u;rw[←uv.unf_size,mF,←ap0,←e1,←this]
       congr 1
       simp only[Addr.add];split<;>split<;>simp_all
   ·rename_i fs hu;simp only[ax] at bm;obtain⟨ts,Iv,bm⟩:=bm;cases hb:Nat.beq (P.cellsOf t) ts.length<;>simp only[hb,cond_true,cond_false] at bm
    ·cases bm
    cases bm;obtain⟨xs,n',iP,_,hl,vO,hf⟩:=DataW.trod_struct hu h;cases iP
    have:=agZ (ih m) fs.toList 0 cs ts Iv (by rw[hl,cK hb];omega) (fun f hm=>by
     obtain⟨i,hi⟩:=xf hm;have df:fs[i]?=some f:=by simpa using hi
     have h1:=hf i f df;have ah:i<fs.size:=(fU.1 df).1;exact⟨_,h1.trans (bK (by omega))⟩)
    show ∃ds,mh cap (mG w) ts cs ds;simpa using this
   ·cases bm
theorem AW {base:Nat}{t:TypeId}{v:Value}(h:Cell.okWide P w .any base t v):v.cells=#[v]:=by
 cases v<;>first|rfl|(exfalso;simp only[Cell.okWide,Cell.ok] at h;revert h;cases P.underlying t with|none=>simp|some T=>cases T<;>simp)
theorem ajl {base base':Nat}{m:Nat}{t:TypeId}{v:Value}{d:DataW H}{ps:List MemPlace}{ty:Ty}(aE:Value.okWide P w .any base' t v)(h:DataW.Trod enc P w base (fun _=>true) held t v d ps)(bm:fO P m t=some ty):∃d,Rep cap (mG w) ty v d:=by
 obtain⟨fuel,h⟩:=h;obtain⟨ds,hr⟩:=aDZ (cap:=cap) fuel m t _ _ _ h bm;have bU:=Rep.ofRow (Uj bm) hr;cases m with
 |zero=>simp[fO] at bm
 |succ m=>
  suffices hs:rowOf ty.rowT v.cells.toList=v by rw[hs] at bU;exact⟨_,bU⟩
  simp only[fO] at bm;unfold Value.okWide at aE;split at bm
  ·rename_i hu;cases bm;rw[hu] at aE;simp only at aE;rw[AW aE];rfl
  ·rename_i hu;cases bm;rw[hu] at aE;simp only at aE;rw[AW aE];rfl
  ·rename_i hu;cases bm;rw[hu] at aE;simp only at aE;rw[AW aE];rfl
  ·rename_i e hu;cases ht:rS P e<;>simp only[ht,cond_true,cond_false] at bm
   ·simp only[ax] at bm;obtain⟨te,_,bm⟩:=bm;cases hb:(Nat.beq (P.cellsOf e) te.flat.length&&Nat.ble 1 te.flat.length)<;>simp only[hb,cond_true,cond_false] at bm
    ·cases bm
    cases bm;rw[hu] at aE;simp only at aE;rw[AW aE];rfl
   ·cases bm;rw[hu] at aE;simp only at aE;rw[AW aE];rfl
  ·rename_i fs hu;simp only[ax] at bm;obtain⟨ts,_,bm⟩:=bm;cases hb:Nat.beq (P.cellsOf t) ts.length<;>simp only[hb,cond_true,cond_false] at bm
   ·cases bm
   cases bm;rw[hu] at aE;obtain⟨cs,rfl,_⟩:=aE;simp[rowOf,Ty.rowT,Value.cells]
  ·cases bm
def E4 (P:Program)(m:Nat):List TypeId→Option (List Ty)
 |[]=>some []
 |t::ts=>(fO P m t).bind fun x=>(E4 P m ts).map (x::·)
theorem XQ {base base' m:Nat}:∀(ts:List TypeId) (vs:List Value) (ds:List (DataW H)) (ps:List MemPlace) (fg:List Ty),DataW.TrodAll enc P w base (fun _=>true) held ts vs ds ps→E4 P m ts=some fg→
 (∀(j:Nat) t v,ts[j]?=some t→vs[j]?=some v→Value.okWide P w .any base' t v)→
 ∃es:List D,vs.length=fg.length∧es.length=fg.length∧∀(i:Nat) (t:Ty),fg[i]?=some t→Rep cap (mG w) t (vs.getD i undef) (es.getD i .none)
 |[],vs,ds,ps,fg,h,bm,_=>by
  simp only[E4,bf] at bm;subst bm;cases vs with
  |nil=>exact⟨[],rfl,rfl,fun i t h=>by simp at h⟩
  |cons=>cases ds<;>exact h.elim
 |t::ts,vs,ds,ps,fg,h,bm,aE=>by
  simp only[E4,ax,aH] at bm;obtain⟨ty,avn,aD2,avo,rfl⟩:=bm;cases vs with
  |nil=>cases ds<;>exact h.elim
  |cons v vs=>
   cases ds with
   |nil=>exact h.elim
   |cons d ds=>
    obtain⟨p,q,h1,h2,_⟩:=h;obtain⟨e,he⟩:=ajl (cap:=cap) (aE 0 t v rfl rfl) h1 avn;obtain⟨es,k1,k2,k3⟩:=XQ ts vs ds q aD2 h2 avo (fun j t' v' hj hv=>aE (j+1) t' v' hj hv);refine⟨e::es,by simp[k1],by simp[k2],fun i u hu=>?_⟩;cases i with
    |zero=>simp at hu;subst hu;exact he
    |succ i=>simpa using k3 i u (by simpa using hu)
end
mutual
inductive DTy:Ty→D→Prop where
 |int (k:IntKind) (n:Int) (h1:k.min≤n) (h2:n≤k.max):DTy (.int k) (.v (.int k n))
 |bool (b:Bool):DTy .bool (.v (.bool b))
 |str (s:ByteArray) (h:s.size≤maxLen):DTy .str (.v (.string s))
 |slice (e:Ty) (xs:List D) (hm:xs.length≤maxLen) (h:∀x,x∈xs→DTy e.unf x):DTy (.slice e) (.list xs)
 |agg (ts:List Ty) (ds:List D) (h:DTys ts ds):DTy (.agg ts) (.agg ds)
 |other (t:Ty) (d:D) (h:match t with|.int _|.bool|.str|.slice _|.agg _=>False|_=>True):DTy t d
inductive DTys:List Ty→List D→Prop where
 |nil:DTys [] []
 |cons {t:Ty} {d:D} {ts:List Ty} {ds:List D} (h:DTy t d) (hs:DTys ts ds):DTys (t::ts) (d::ds)
end
theorem DTys.of_get:∀{ts:List Ty} {ds:List D},ds.length=ts.length→(∀(i:Nat) (t:Ty),ts[i]?=some t→DTy t (ds.getD i .none))→DTys ts ds
 |[],[],_,_=>.nil
 |t::ts,d::ds,hl,h=>.cons (h 0 t rfl) (DTys.of_get (by simpa using hl) fun i u hu=>by simpa using h (i+1) u (by simpa using hu))
 |[],_::_,hl,_=>by simp at hl
 |_::_,[],hl,_=>by simp at hl
theorem Rep.dty {cap:Nat→Option CSig}{σ:Im}{t:Ty}{v:Value}{d:D}(h:Rep cap σ t v d):DTy t d:=by
 induction h with
 |int k n h1 h2=>exact .int k n h1 h2
 |bool b=>exact .bool b
 |str s h=>exact .str s h
 |agg ts vs ds h1 h2 _ ho ih=>exact .agg ts ds (.of_get h2 ih)
 |nil e=>exact .slice e [] (by decide) (fun x hx=>by cases hx)
 |emp e a=>exact .slice e [] (by decide) (fun x hx=>by cases hx)
 |slice e k o n c xs vs hn hc hm _ hv ih=>
  refine .slice e xs (by omega) fun x hx=>?_;obtain⟨i,hi⟩:=xf hx;exact ih i x hi
 |_=>exact .other _ _ trivial
theorem avV {H:Type}{enc:TypeId×Value→H}{C:Ctx}{f:Nat}{fn:Func}{sg:Sig}{spec:ChangeSpec}{tb:TypeId}{apart fresh handsOn again:Bool}(hl:laidOutB C.P=true)
 (lL:E4 C.P 12 fn.params.toList=some sg.args) (auV:fn.params.toList.all (fun t=>C.P.readableRec t&&decide (t<C.P.types.size))=true) (Qo:spec.vars=[])
 (au9:∀ds:List (DataW H),ds.length=fn.params.size→(spec.fn H ds).results=[.lit (.bool true)]∧(spec.fn H ds).args=ds∧(spec.fn H ds).vars=[])
 (kV:fn.resultTypes=#[tb]) (hub:C.P.underlying tb=some .bool) (oT:sg.mode=.dat) (tB:sg.res=.bool)
 (Px:∀ds,DTys sg.args ds→lu C f sg ds (.v (.bool true)))
 (W:World) (Pn:CtxOK C (mG W)) (base:Nat) (args:Array Value) (ds gs:List (DataW H)) (before:List MemPlace)
 (cr:∀(j:Nat) t v,fn.params[j]?=some t→args[j]?=some v→Value.okWide C.P W .any base t v)
 (hW:DataW.Whole enc C.P fn.params.toList spec.vars apart W args.toList ds gs before):
 Calls C.P f args W fun e W'=>∃v,e=.returned v∧spec.post enc C.P fn apart fresh handsOn again W args v W':=by
 have HM:=hW;have ah:∀p∈before,p.block<W.heap.size:=fun p hp=>HM.lt p hp;obtain⟨p,q,hA,hV,rfl,CS,bp⟩:=hW;rw[Qo] at hV;obtain⟨rfl,rfl⟩:=trodVars_none hV;obtain⟨es,k1,k2,k3⟩:=XQ (cap:=C.cap) (base':=base) fn.params.toList args.toList ds p sg.args hA lL (fun j t v hj hv=>cr j t v (by simpa using hj) (by simpa using hv));have bm:DTys sg.args es:=.of_get k2 fun i t ht=>(k3 i t ht).dty
 have hlen:∀(ts:List TypeId) (vs:List Value) (ds:List (DataW H)) (ps:List MemPlace),DataW.TrodAll enc C.P W 0 (fun _=>true) true ts vs ds ps→ds.length=ts.length:=by
  intro ts
  induction ts with
  |nil=>intro vs ds ps h;cases vs<;>cases ds<;>first|rfl|exact h.elim
  |cons t ts ih=>
   intro vs ds ps h;cases vs with
   |nil=>cases ds<;>exact h.elim
   |cons v vs=>cases ds with
    |nil=>exact h.elim
    |cons d ds=>obtain⟨p,q,_,h2,_⟩:=h;simp[ih vs ds q h2]
 have Pd:ds.length=fn.params.size:=by simpa using hlen _ _ _ _ hA
 obtain⟨s1,s2,s3⟩:=au9 (ds++[]) (by simpa using Pd);refine(Px es bm (mG W) W args (avI W) Pn ⟨k1,k2,k3⟩).mono fun e W' hh=>?_;obtain⟨v,σ',rfl,_,_,hb,_,_,hr⟩:=hh;refine⟨v,rfl,?_⟩;simp only[pV,oT,tB] at hr;obtain⟨b,rfl,vk⟩:=hr.bool_inv;cases vk
 have stays:∀(sp:Nat→Bool) (ts:List TypeId) (vs:List Value) (ds:List (DataW H)) (ps:List MemPlace),ts.all (fun t=>C.P.readableRec t&&decide (t<C.P.types.size))=true→(∀x∈ps,x.block<W.heap.size)→(∀x∈ps,sp x.block=true)→
  DataW.TrodAll enc C.P W 0 (fun _=>true) true ts vs ds ps→DataW.TrodAll enc C.P W' 0 sp true ts vs ds ps:=by
  intro sp ts
  induction ts with
  |nil=>intro vs ds ps _ _ _ h;cases vs<;>cases ds<;>first|exact h|exact h.elim
  |cons t ts ih=>
   intro vs ds ps ha rM tE h;cases vs with
   |nil=>cases ds<;>exact h.elim
   |cons v vs=>cases ds with
    |nil=>exact h.elim
    |cons d ds=>
     obtain⟨p,q,h1,h2,rfl⟩:=h;simp only[pP,ar,decide_eq_true_eq] at ha
     exact⟨p,q,WideElems.Trod_stays hl ha.1.1 ha.1.2 h1 (fun x hx=>hb.same (rM x (je _ hx))) (fun x hx=>tE x (je _ hx)),
      ih vs ds q (by simpa using ha.2) (fun x hx=>rM x (jC _ hx)) (fun x hx=>tE x (jC _ hx)) h2,rfl⟩
 have aaV:∀x∈p,x.block<W.heap.size:=fun x hx=>ah x (je _ hx);have jj:=fun sp (h:∀x∈p,sp x.block=true)=>stays sp _ _ _ _ auV aaV h hA;have tA:∀(b:Nat) (sp:Nat→Bool) (hd:Bool),DataW.TrodAll enc C.P W' b sp hd fn.resultTypes.toList ((Value.bool true).resultList fn.resultTypes.size) [.lit (.bool true)] []:=by
  intro b sp hd;rw[kV];exact trodAll_mk1 (shut_bool hub true)
 refine⟨ds,[],p++[],[],p,[],HM,?_,?_,?_,World.keptBut_mono (fun x hx=>⟨hx,?_⟩) (hb.frame (·∈p++[])),fun _=>?_⟩
 ·rw[s1];exact tA _ _ _
 ·rw[s2];simpa using jj _ (fun x hx=>by simpa using aaV x hx)
 ·rw[s3,Qo];rfl
 ·simpa using hx
 ·refine⟨ok_one kV rfl (okWide_bool_mk hub true),_,[],([]++p)++[],⟨[]++p,[],trodAll_append (jj _ (fun _ _=>rfl)) (tA _ _ _),by rw[Qo];exact rfl,rfl,?_,?_⟩,?_⟩
  ·intro b off hp;have bJ:MemPlace.cell b off∈p++[]:=by simpa using hp
   rw[hb.frozen (ah _ bJ)];exact CS b off bJ
  ·intro ha;simpa using bp ha
  ·intro x hx _;simpa using hx
end Cx
namespace Cx
open Go Go.RowKit
abbrev cw:=Nat→aT
def ak (T:cw)(f:Nat)(ds:List D)(d:D):Prop:=∃n0,∀n,n0≤n→T n f ds=some d
def xe (T:cw)(l:List PI)(ρ:Env)(Q:Env→Prop):Prop:=∃ρ',Q ρ'∧∃n0,∀n,n0≤n→PI.runs (T n) l ρ=some ρ'
def aY (T:cw)(c:PC)(ρ:Env)(Q:Out→Prop):Prop:=∃x,Q x∧∃n0,∀n,n0≤n→c.ev (T n) n ρ=some x
theorem aY.mono {T:cw}{c:PC}{ρ:Env}{Q Q':Out→Prop}(h:aY T c ρ Q)(hq:∀x,Q x→Q' x):aY T c ρ Q':=by
 obtain⟨x,hx,n0,hn⟩:=h;exact⟨x,hq x hx,n0,hn⟩
theorem xe.nil {T:cw}{ρ:Env}{Q:Env→Prop}(h:Q ρ):xe T [] ρ Q:=⟨ρ,h,0,fun _ _=>rfl⟩
theorem xe.cons {T:cw}{p:PI}{l:List PI}{ρ ρ1:Env}{Q:Env→Prop}{n0:Nat}(h:∀n,n0≤n→p.run (T n) ρ=some ρ1)(k:xe T l ρ1 Q):xe T (p::l) ρ Q:=by
 obtain⟨ρ',hQ,n1,h1⟩:=k;exact⟨ρ',hQ,max n0 n1,fun n hn=>by simp[PI.runs,h n (by omega),h1 n (by omega)]⟩
def gy (T:cw):List PI→Env→(Env→Prop)→Prop
 |[],ρ,Q=>Q ρ
 |.setR t e::l,ρ,Q=>gy T l (ρ.setR t (e.ev ρ)) Q
 |.setO t e::l,ρ,Q=>gy T l (ρ.setO t (e.ev ρ)) Q
 |.chk e::l,ρ,Q=>(e.ev ρ).b=true∧gy T l ρ Q
 |.call gs dst f args::l,ρ,Q=>if holds gs ρ=true then ∃d,ak T f (PE.evs ρ args) d∧gy T l (ρ.setR dst d) Q else gy T l ρ Q
 |.callc gs dst e args::l,ρ,Q=>if holds gs ρ=true then ∃f caps d,e.ev ρ=.clo f caps∧ak T f (PE.evs ρ args++caps) d∧gy T l (ρ.setR dst d) Q else gy T l ρ Q
 |.mcall j f args::l,ρ,Q=>∃d,ak T f (PE.evs ρ args) d∧gy T l (ρ.setO j d) Q
theorem sA {T:cw}:∀{l:List PI} {ρ:Env} {Q:Env→Prop},gy T l ρ Q→xe T l ρ Q
 |[],ρ,Q,h=>.nil h
 |.setR t e::l,ρ,Q,h=>.cons (n0:=0) (fun _ _=>rfl) (sA h)
 |.setO t e::l,ρ,Q,h=>.cons (n0:=0) (fun _ _=>rfl) (sA h)
 |.chk e::l,ρ,Q,h=>.cons (n0:=0) (fun n _=>by simp[PI.run,h.1]) (sA h.2)
 |.call gs dst f args::l,ρ,Q,h=>by
  unfold gy at h;split at h
  ·rename_i hg;obtain⟨d,⟨n0,hn⟩,h⟩:=h;exact .cons (n0:=n0) (fun n hle=>by simp[PI.run,hg,hn n hle]) (sA h)
  ·rename_i hg;exact .cons (n0:=0) (fun n hle=>by simp[PI.run,hg]) (sA h)
 |.callc gs dst e args::l,ρ,Q,h=>by
  unfold gy at h;split at h
  ·rename_i hg;obtain⟨f,caps,d,he,⟨n0,hn⟩,h⟩:=h;exact .cons (n0:=n0) (fun n hle=>by simp[PI.run,hg,he,hn n hle]) (sA h)
  ·rename_i hg;exact .cons (n0:=0) (fun n hle=>by simp[PI.run,hg]) (sA h)
 |.mcall j f args::l,ρ,Q,h=>by
  obtain⟨d,⟨n0,hn⟩,h⟩:=h;exact .cons (n0:=n0) (fun n hle=>by simp[PI.run,hn n hle]) (sA h)
def ku (ρ:Env)(lr lo:List Nat)(Q:Out→Prop):Out→Prop
 |.next ρ'=>Q (.next (ρ.join lr lo ρ'))
 |x=>Q x
def lD (ρ:Env)(id:Nat)(lr lo:List Nat)(Q:Out→Prop):Out→Prop
 |.next ρ'=>Q (.next (ρ.join lr lo ρ'))
 |.exit bQ ρ'=>if bQ=id then Q (.next (ρ.join lr lo ρ')) else Q (.exit bQ ρ')
 |.ret d=>Q (.ret d)
def gw (K:Env→Prop)(Q:Out→Prop):Out→Prop
 |.next ρ'=>K ρ'
 |.exit id ρ'=>Q (.exit id ρ')
 |.ret d=>Q (.ret d)
theorem aY.is {T:cw}{l:List PI}{ρ:Env}{Q:Out→Prop}(h:gy T l ρ fun ρ'=>Q (.next ρ')):aY T (.is l) ρ Q:=by
 obtain⟨ρ',hQ,n0,hn⟩:=sA h;exact⟨.next ρ',hQ,n0,fun n hle=>by simp[PC.ev,hn n hle]⟩
theorem aY.skip {T:cw}{ρ:Env}{Q:Out→Prop}(h:Q (.next ρ)):aY T .skip ρ Q:=⟨_,h,0,fun _ _=>rfl⟩
theorem aY.exit {T:cw}{ρ:Env}{id:Nat}{Q:Out→Prop}(h:Q (.exit id ρ)):aY T (.exit id) ρ Q:=⟨_,h,0,fun _ _=>rfl⟩
theorem aY.ret {T:cw}{ρ:Env}{e:PE}{Q:Out→Prop}(h:Q (.ret (e.ev ρ))):aY T (.ret e) ρ Q:=⟨_,h,0,fun _ _=>rfl⟩
theorem aY.seq {T:cw}{a b:PC}{ρ:Env}{Q:Out→Prop}(h:aY T a ρ (gw (fun ρ'=>aY T b ρ' Q) Q)):aY T (.seq a b) ρ Q:=by
 obtain⟨x,hx,n0,hn⟩:=h;cases x with
 |next ρ'=>
  obtain⟨y,hy,n1,h1⟩:=hx;exact⟨y,hy,max n0 n1,fun n hle=>by simp[PC.ev,hn n (by omega),h1 n (by omega)]⟩
 |exit id ρ'=>exact⟨_,hx,n0,fun n hle=>by simp[PC.ev,hn n hle]⟩
 |ret d=>exact⟨_,hx,n0,fun n hle=>by simp[PC.ev,hn n hle]⟩
theorem aY.ite {T:cw}{c:PE}{lr lo:List Nat}{a b:PC}{ρ:Env}{Q:Out→Prop}(h:if(c.ev ρ).b=true then aY T a ρ (ku ρ lr lo Q) else aY T b ρ (ku ρ lr lo Q)):aY T (.ite c lr lo a b) ρ Q:=by
 split at h
 all_goals
  rename_i hc;obtain⟨x,hx,n0,hn⟩:=h;cases x with
  |next ρ'=>exact⟨_,hx,n0,fun n hle=>by simp[PC.ev,hc,hn n hle]⟩
  |exit id ρ'=>exact⟨_,hx,n0,fun n hle=>by simp[PC.ev,hc,hn n hle]⟩
  |ret d=>exact⟨_,hx,n0,fun n hle=>by simp[PC.ev,hc,hn n hle]⟩
theorem aY.block {T:cw}{id:Nat}{lr lo:List Nat}{a:PC}{ρ:Env}{Q:Out→Prop}(h:aY T a ρ (lD ρ id lr lo Q)):aY T (.block id lr lo a) ρ Q:=by
 obtain⟨x,hx,n0,hn⟩:=h;cases x with
 |next ρ'=>exact⟨_,hx,n0,fun n hle=>by simp[PC.ev,hn n hle]⟩
 |exit bQ ρ'=>
  simp only[lD] at hx;split at hx
  ·rename_i e;subst e;exact⟨_,hx,n0,fun n hle=>by simp[PC.ev,hn n hle]⟩
  ·rename_i e;exact⟨_,hx,n0,fun n hle=>by simp[PC.ev,hn n hle,eu e]⟩
 |ret d=>exact⟨_,hx,n0,fun n hle=>by simp[PC.ev,hn n hle]⟩
theorem aY.loop {T:cw}{lr lo:List Nat}{a:PC}{ρ:Env}{Q:Out→Prop}{α:Type}(inv:α→List D→List D→Prop)(tQ:α→Nat)(s0:α)(h0:inv s0 (lr.map ρ.r) (lo.map ρ.o))
 (step:∀s vr vo,inv s vr vo→aY T a (ρ.put lr vr lo vo) (gw (fun ρ'=>∃s',tQ s'<tQ s∧inv s' (lr.map ρ'.r) (lo.map ρ'.o)) Q)):aY T (.loop lr lo a) ρ Q:=by
 have key:∀(m:Nat) (s:α) (vr vo:List D),tQ s≤m→inv s vr vo→∃x,Q x∧∃n0,∀n k,n0≤n→n0≤k→fu (a.ev (T n) n) ρ lr lo k vr vo=some x:=by
  intro m
  induction m with
  |zero=>
   intro s vr vo hm hi;obtain⟨x,hx,n0,hn⟩:=step s vr vo hi;cases x with
   |next ρ'=>obtain⟨s',ah,_⟩:=hx;omega
   |exit id ρ'=>
    refine⟨_,hx,n0+1,fun n k hle hk=>?_⟩;obtain⟨k',rfl⟩:∃k',k=k'+1:=⟨k-1,by omega⟩
    simp[fu,hn n (by omega)]
   |ret d=>
    refine⟨_,hx,n0+1,fun n k hle hk=>?_⟩;obtain⟨k',rfl⟩:∃k',k=k'+1:=⟨k-1,by omega⟩
    simp[fu,hn n (by omega)]
  |succ m ih=>
   intro s vr vo hm hi;obtain⟨x,hx,n0,hn⟩:=step s vr vo hi;cases x with
   |next ρ'=>
    obtain⟨s',ah,df⟩:=hx;obtain⟨y,hy,n1,h1⟩:=ih s' _ _ (by omega) df;refine⟨y,hy,max n0 n1+1,fun n k hle hk=>?_⟩;obtain⟨k',rfl⟩:∃k',k=k'+1:=⟨k-1,by omega⟩
    simp[fu,hn n (by omega),h1 n k' (by omega) (by omega)]
   |exit id ρ'=>
    refine⟨_,hx,n0+1,fun n k hle hk=>?_⟩;obtain⟨k',rfl⟩:∃k',k=k'+1:=⟨k-1,by omega⟩
    simp[fu,hn n (by omega)]
   |ret d=>
    refine⟨_,hx,n0+1,fun n k hle hk=>?_⟩;obtain⟨k',rfl⟩:∃k',k=k'+1:=⟨k-1,by omega⟩
    simp[fu,hn n (by omega)]
 obtain⟨x,hx,n0,hn⟩:=key (tQ s0) s0 _ _ (bk _) h0;exact⟨x,hx,n0,fun n hle=>by simp only[PC.ev];exact hn n n hle hle⟩
def sU (ρ:Env)(lo:List Nat)(rt:Option PE)(K:List D→Prop)(Q:Out→Prop):Out→Prop
 |.next ρ'=>K (lo.map ρ'.o)
 |.exit id ρ'=>if id=cE then ∃e,rt=some e∧Q (.ret (e.ev (ρ.put [] [] lo (lo.map ρ'.o)))) else Q (.exit id (ρ.put [] [] lo (lo.map ρ'.o)))
 |.ret _=>False
theorem aY.each {T:cw}{e:PE}{ps lo:List Nat}{rt:Option PE}{a:PC}{ρ:Env}{Q:Out→Prop}(xs:List D)(he:(e.ev ρ).l=xs)(inv:Nat→List D→Prop)(h0:inv 0 (lo.map ρ.o))
 (step:∀k x vo,xs[k]?=some x→inv k vo→aY T a (ρ.put ps (partsOf ps x) lo vo) (sU ρ lo rt (inv (k+1)) Q)) (done:∀vo,inv xs.length vo→Q (.next (ρ.put [] [] lo vo))):aY T (.each e ps lo rt a) ρ Q:=by
 have key:∀(r k:Nat) (vo:List D),k+r=xs.length→inv k vo→∃x,Q x∧∃n0,∀n,n0≤n→fX (a.ev (T n) n) ρ ps lo rt (xs.drop k) vo=some x:=by
  intro r
  induction r with
  |zero=>
   intro k vo hk hi;have:xs.drop k=[]:=by rw[Xo];omega
   obtain rfl:k=xs.length:=by omega
   exact⟨_,done vo hi,0,fun n _=>by rw[this];rfl⟩
  |succ r ih=>
   intro k vo hk hi;have ah:k<xs.length:=by omega
   rw[aiT ah];obtain⟨y,hy,n0,hn⟩:=step k xs[k] vo (bK ah) hi;cases y with
   |next ρ'=>
    obtain⟨z,hz,n1,h1⟩:=ih (k+1) _ (by omega) hy;exact⟨z,hz,max n0 n1,fun n hle=>by simp only[fX,hn n (by omega)];exact h1 n (by omega)⟩
   |exit id ρ'=>
    simp only[sU] at hy;split at hy
    ·rename_i cB;obtain⟨e,h1,h2⟩:=hy;exact⟨_,h2,n0,fun n hle=>by subst cB;simp[fX,hn n hle,h1]⟩
    ·rename_i cB;exact⟨_,hy,n0,fun n hle=>by simp[fX,hn n hle,eu cB]⟩
   |ret d=>exact hy.elim
 obtain⟨x,hx,n0,hn⟩:=key xs.length 0 _ (by omega) h0;exact⟨x,hx,n0,fun n hle=>by simp only[PC.ev,he];exact hn n hle⟩
theorem afZ {α:Type}:∀(l:List α),∃L:List (List α),∀ys,ys∈L↔ys.Perm l
 |[]=>⟨[[]],fun ys=>by simp⟩
 |x::l=>by
  obtain⟨L,hL⟩:=afZ l;refine⟨L.flatMap fun ys=>(List.range (ys.length+1)).map fun i=>ys.take i++x::ys.drop i,fun zs=>?_⟩;simp only[mf,dx,cd];constructor
  ·rintro⟨ys,hy,i,_,rfl⟩;have h1:=(hL ys).1 hy;refine(List.perm_middle).trans (.cons x ?_);rw[M8];exact h1
  ·intro h;have hx:x∈zs:=h.symm.subset (dw ..);obtain⟨s,t,rfl⟩:=Xn hx;refine⟨s++t,(hL _).2 ?_,s.length,by simp;omega,by simp⟩;exact(List.perm_cons x).1 ((List.perm_middle).symm.trans h)
theorem aY.meach {T:cw}{J:Nat}{ps cF lo:List Nat}{a:PC}{ρ:Env}{Q:Out→Prop}(es:List (D×D))(he:ρ.o J=.tup [.list [],.map es])(inv:List D→List D→Prop)(h0:inv [] (lo.map ρ.o))
 (step:∀done x rest vo,(done++x::rest).Perm (gS (.map es))→inv done vo→aY T a ((ρ.put ps (cF.map x.tget) lo vo).setO J (.tup [.list (done++[x]),.map es])) (fun y=>∃ρ',y=.next ρ'∧inv (done++[x]) (lo.map ρ'.o)))
 (last:∃vo,(∀done,done.Perm (gS (.map es))→∀l7,inv done l7→l7=vo)∧Q (.next (ρ.put [] [] lo vo))):aY T (.meach J ps cF lo a) ρ Q:=by
 obtain⟨vo,hl,hQ⟩:=last;have key:∀(xs done:List D) (vs:List D),(done++xs).Perm (gS (.map es))→inv done vs→∃n0,∀n,n0≤n→kY (a.ev (T n) n) ρ J (.map es) ps cF lo xs done vs=some vo:=by
  intro xs
  induction xs with
  |nil=>intro done vs hp hi;exact⟨0,fun n _=>by rw[hl done (by simpa using hp) vs hi];rfl⟩
  |cons x xs ih=>
   intro done vs hp hi;obtain⟨y,⟨ρ',rfl,df⟩,n0,hn⟩:=step done x xs vs hp hi;obtain⟨n1,h1⟩:=ih (done++[x]) _ (by simpa using hp) df;exact⟨max n0 n1,fun n hle=>by simp only[kY,hn n (by omega)];exact h1 n (by omega)⟩
 have my:∀(L:List (List D)),(∀ys,ys∈L→ys.Perm (gS (.map es)))→∃n0,∀n,n0≤n→∀ys,ys∈L→kY (a.ev (T n) n) ρ J (.map es) ps cF lo ys [] (lo.map ρ.o)=some vo:=by
  intro L
  induction L with
  |nil=>intro _;exact⟨0,fun n _ ys hy=>by cases hy⟩
  |cons y L ih=>
   intro hL;obtain⟨n0,fG⟩:=ih fun ys hy=>hL ys (dj _ hy);obtain⟨n1,h1⟩:=key y [] _ (by simpa using hL y (dw ..)) h0;refine⟨max n0 n1,fun n hle ys hy=>?_⟩;rcases cG.1 hy with e|hy
   ·subst e;exact h1 n (by omega)
   ·exact fG n (by omega) ys hy
 obtain⟨L,hL⟩:=afZ (gS (.map es));obtain⟨n0,hn⟩:=my L fun ys hy=>(hL ys).1 hy;refine⟨_,hQ,n0,fun n hle=>?_⟩;simp only[PC.ev,wu];refine⟨vo,⟨by rw[he];rfl,fun ys hy=>?_⟩,rfl⟩;rw[he] at hy ⊢;exact hn n hle ys ((hL ys).2 hy)
theorem bounded {Q:Nat→Nat→Prop}:∀(L:Nat),(∀m,m≤L→∃n0,∀n,n0≤n→Q m n)→∃n0,∀n,n0≤n→∀m,m≤L→Q m n
 |0,h=>by
  obtain⟨n0,hn⟩:=h 0 (bk _)
  exact⟨n0,fun n hle m hm=>by obtain rfl:m=0:=by omega
                              exact hn n hle⟩
 |L+1,h=>by
  obtain⟨n0,hn⟩:=bounded L fun m hm=>h m (by omega);obtain⟨n1,h1⟩:=h (L+1) (bk _);refine⟨max n0 n1,fun n hle m hm=>?_⟩;by_cases e:m=L+1
  ·subst e;exact h1 n (by omega)
  ·exact hn n (by omega) m (by omega)
theorem ak.of_pc {tab:Nat→Option PC}{ext:Nat→Option (aT→List D→Option D)}{f:Nat}{pc:PC}{ds:List D}{d:D}(hx:ext f=none)(ht:tab f=some pc)(h:aY (cH tab ext) pc (j9 ds) (fun x=>x=.ret d)):ak (cH tab ext) f ds d:=by
 obtain⟨x,rfl,n0,hn⟩:=h;refine⟨n0+1,fun n hle=>?_⟩;obtain⟨k,rfl⟩:∃k,n=k+1:=⟨n-1,by omega⟩
 simp[cH,hx,ht,hn k (by omega)]
theorem ak.of_ext {tab:Nat→Option PC}{ext:Nat→Option (aT→List D→Option D)}{f:Nat}{g:aT→List D→Option D}{ds:List D}{d:D}(hx:ext f=some g)(h:∃n0,∀n,n0≤n→g (cH tab ext n) ds=some d):ak (cH tab ext) f ds d:=by
 obtain⟨n0,hn⟩:=h;refine⟨n0+1,fun n hle=>?_⟩;obtain⟨k,rfl⟩:∃k,n=k+1:=⟨n-1,by omega⟩
 simp[cH,hx,hn k (by omega)]
noncomputable def FA (T:cw)(xs:List D)(m:Nat):cw:=fun n=>yldΦ (T n) xs m
theorem ak.yld {T:cw}{xs:List D}{m f:Nat}{ds:List D}{d:D}(h:ak T f ds d)(hf:f≠l9):ak (FA T xs m) f ds d:=by
 obtain⟨n0,hn⟩:=h;exact⟨n0,fun n hle=>by simp[FA,yldΦ,hf,hn n hle]⟩
theorem ak.answer {T:cw}{xs l:List D}{m i:Nat}(hl:l=xs.take (i+1))(hi:i<xs.length)(hm:i≤m):ak (FA T xs m) l9 [.list l] (.v (.bool (decide (i<m)))):=by
 subst hl;refine⟨0,fun n _=>?_⟩;have h1:(xs.take (i+1)).length=i+1:=by rw[ei];omega
 simp only[FA,yldΦ,if_true,h1];rw[if_pos ⟨by omega,by omega,trivial⟩];rfl
theorem ak.of_it {tab:Nat→Option PC}{ext:Nat→Option (aT→List D→Option D)}{f:Nat}{pc:PC}{J k:Nat}{spec:List D→List D}{ds:List D}(hx:ext f=some (tK pc J k spec))(hk:∀x,x∈spec ds→∃ds',x=.tup ds'∧ds'.length=k)
 (h:∀m,m≤(spec ds).length→aY (FA (cH tab ext) (spec ds) m) pc (xM J ds) (fun x=>x=.ret (.list ((spec ds).take (m+1))))):ak (cH tab ext) f ds (.list (spec ds)):=by
 refine ak.of_ext hx ?_
 obtain⟨n0,hn⟩:=bounded (Q:=fun m n=>pc.ev (yldΦ (cH tab ext n) (spec ds) m) n (xM J ds)=some (.ret (.list ((spec ds).take (m+1))))) (spec ds).length (fun m hm=>by
  obtain⟨x,rfl,n0,hn⟩:=h m hm;exact⟨n0,hn⟩)
 refine⟨n0,fun n hle=>?_⟩;unfold tK;rw[if_pos];exact⟨fun m hm=>⟨n,hn n hle m hm⟩,hk⟩
theorem yldΦ_mono {Φ Ψ:aT}(h:∀f ds d,Φ f ds=some d→Ψ f ds=some d)(xs:List D)(m:Nat):∀f ds d,yldΦ Φ xs m f ds=some d→yldΦ Ψ xs m f ds=some d:=by
 intro f ds d e;unfold yldΦ at e ⊢;split at e
 ·rename_i hf;rw[if_pos hf];exact e
 ·rename_i hf;rw[if_neg hf];exact h f ds d e
theorem ak.det {T:cw}{f:Nat}{ds:List D}{d d':D}(h:ak T f ds d)(k:ak T f ds d'):d=d':=by
 obtain⟨n0,hn⟩:=h;obtain⟨n1,h1⟩:=k;have:=(hn (max n0 n1) (by omega)).symm.trans (h1 (max n0 n1) (by omega));exact Au this
theorem ak.fnOK {C:Ctx}{tab:Nat→Option PC}{ext:Nat→Option (aT→List D→Option D)}(h:TabOK C tab ext){f:Nat}{s:Sig}{ds:List D}{d:D}(hs:C.sig f=some s)(hr:ak (cH tab ext) f ds d)(hm:qx s.mode=false:=by rfl):lu C f s ds d:=by
 obtain⟨n0,hn⟩:=hr;exact((XF h n0).1 f ds d (hn n0 (bk _)) s hs).1 hm
def Le (Φ Ψ:aT):Prop:=∀f ds d,Φ f ds=some d→Ψ f ds=some d
theorem PI.run_mono {Φ Ψ:aT}(h:Le Φ Ψ){p:PI}{ρ ρ':Env}(hr:p.run Φ ρ=some ρ'):p.run Ψ ρ=some ρ':=by
 cases p with
 |setR t e=>exact hr
 |setO t e=>exact hr
 |chk e=>exact hr
 |call gs d f aa=>
  simp only[PI.run] at hr ⊢;cases hg:holds gs ρ<;>simp only[hg,cond_true,cond_false] at hr ⊢
  ·exact hr
  ·simp only[aH] at hr ⊢;obtain⟨x,hx,e⟩:=hr;exact⟨x,h _ _ _ hx,e⟩
 |callc gs d f aa=>
  simp only[PI.run] at hr ⊢;cases hg:holds gs ρ<;>simp only[hg,cond_true,cond_false] at hr ⊢
  ·exact hr
  ·split at hr
   ·simp only[aH] at hr ⊢;obtain⟨x,hx,e⟩:=hr;exact⟨x,h _ _ _ hx,e⟩
   ·cases hr
 |mcall j f aa=>
  simp only[PI.run,aH] at hr ⊢;obtain⟨x,hx,e⟩:=hr;exact⟨x,h _ _ _ hx,e⟩
theorem PI.runs_mono {Φ Ψ:aT}(h:Le Φ Ψ):∀{l:List PI} {ρ ρ':Env},PI.runs Φ l ρ=some ρ'→PI.runs Ψ l ρ=some ρ'
 |[],ρ,ρ',hr=>hr
 |p::l,ρ,ρ',hr=>by
  simp only[PI.runs,ax] at hr ⊢;obtain⟨x,hx,e⟩:=hr;exact⟨x,PI.run_mono h hx,PI.runs_mono h e⟩
theorem ab5 {b c:Env→Option Out}(h:∀ρ x,b ρ=some x→c ρ=some x){ρ:Env}{lr lo:List Nat}:∀{n m:Nat} {vr vo:List D} {x:Out},n≤m→fu b ρ lr lo n vr vo=some x→fu c ρ lr lo m vr vo=some x
 |0,m,vr,vo,x,_,hr=>by simp[fu] at hr
 |n+1,m,vr,vo,x,hle,hr=>by
  obtain⟨m,rfl⟩:∃k,m=k+1:=⟨m-1,by omega⟩
  simp only[fu] at hr ⊢;cases hb:b (ρ.put lr vr lo vo) with
  |none=>rw[hb] at hr;cases hr
  |some y=>
   rw[h _ _ hb];rw[hb] at hr;cases y with
   |next ρ'=>exact ab5 h (by omega) hr
   |exit id ρ'=>exact hr
   |ret d=>exact hr
theorem Zs {b c:Env→Option Out}(h:∀ρ x,b ρ=some x→c ρ=some x){ρ:Env}{ps lo:List Nat}{rt:Option PE}:∀{xs vo:List D} {x:Out},fX b ρ ps lo rt xs vo=some x→fX c ρ ps lo rt xs vo=some x
 |[],vo,x,hr=>hr
 |y::xs,vo,x,hr=>by
  simp only[fX] at hr ⊢;cases hb:b (ρ.put ps (partsOf ps y) lo vo) with
  |none=>rw[hb] at hr;cases hr
  |some z=>
   rw[h _ _ hb];rw[hb] at hr;cases z with
   |next ρ'=>exact Zs h hr
   |exit id ρ'=>exact hr
   |ret d=>cases hr
theorem afY {b c:Env→Option Out}(h:∀ρ x,b ρ=some x→c ρ=some x){ρ:Env}{J:Nat}{es:D}{ps cF lo:List Nat}:∀{xs done vo l7:List D},kY b ρ J es ps cF lo xs done vo=some l7→kY c ρ J es ps cF lo xs done vo=some l7
 |[],_,_,_,hr=>hr
 |x::xs,done,vo,l7,hr=>by
  simp only[kY] at hr ⊢;split at hr
  ·rename_i ρ' hb;rw[h _ _ hb];exact afY h hr
  ·cases hr
theorem PC.ev_mono {Φ Ψ:aT}(h:Le Φ Ψ){n m:Nat}(hle:n≤m):∀{c:PC} {ρ:Env} {x:Out},c.ev Φ n ρ=some x→c.ev Ψ m ρ=some x:=by
 intro c
 induction c with
 |skip=>intro ρ x hr;exact hr
 |is l=>
  intro ρ x hr;simp only[PC.ev,aH] at hr ⊢;obtain⟨y,hy,e⟩:=hr;exact⟨y,PI.runs_mono h hy,e⟩
 |seq a b bo du=>
  intro ρ x hr;simp only[PC.ev] at hr ⊢;cases ha:a.ev Φ n ρ with
  |none=>rw[ha] at hr;cases hr
  |some y=>rw[bo ha];rw[ha] at hr;cases y<;>first|exact du hr|exact hr
 |ite c lr lo a b bo du=>
  intro ρ x hr;simp only[PC.ev] at hr ⊢;cases hc:(c.ev ρ).b<;>simp only[hc,cond_true,cond_false] at hr ⊢
  ·cases ha:b.ev Φ n ρ with
   |none=>rw[ha] at hr;cases hr
   |some y=>rw[du ha];rw[ha] at hr;exact hr
  ·cases ha:a.ev Φ n ρ with
   |none=>rw[ha] at hr;cases hr
   |some y=>rw[bo ha];rw[ha] at hr;exact hr
 |block id lr lo a bo=>
  intro ρ x hr;simp only[PC.ev] at hr ⊢;cases ha:a.ev Φ n ρ with
  |none=>rw[ha] at hr;cases hr
  |some y=>rw[bo ha];rw[ha] at hr;exact hr
 |loop lr lo a bo=>intro ρ x hr;exact ab5 (fun ρ x=>bo) hle hr
 |exit id=>intro ρ x hr;exact hr
 |ret e=>intro ρ x hr;exact hr
 |each e ps lo rt a bo=>intro ρ x hr;exact Zs (fun ρ x=>bo) hr
 |meach J ps cF lo a bo=>
  intro ρ x hr;simp only[PC.ev,wu] at hr ⊢;obtain⟨vo,⟨h1,h2⟩,rfl⟩:=hr;exact⟨vo,⟨h1,fun ys hy=>afY (fun ρ x=>bo) (h2 ys hy)⟩,rfl⟩
theorem XE {tab:Nat→Option PC}{ext:Nat→Option (aT→List D→Option D)}(hx:∀f g,ext f=some g→∀Φ Ψ,Le Φ Ψ→∀ds d,g Φ ds=some d→g Ψ ds=some d):∀{n m:Nat},n≤m→Le (cH tab ext n) (cH tab ext m)
 |0,m,_=>fun f ds d h=>by simp[cH] at h
 |n+1,m,hle=>by
  obtain⟨m,rfl⟩:∃k,m=k+1:=⟨m-1,by omega⟩
  have ih:=XE (tab:=tab) hx (n:=n) (m:=m) (by omega);intro f ds d h;simp only[cH] at h ⊢;split at h
  ·rename_i g hg;exact hx f g hg _ _ ih ds d h
  ·split at h
   ·rename_i pc _;cases he:pc.ev (cH tab ext n) n (j9 ds) with
    |none=>rw[he] at h;cases h
    |some x=>
     rw[PC.ev_mono ih (by omega) he];rw[he] at h;exact h
   ·cases h
theorem avO {pc:PC}{J k:Nat}{spec:List D→List D}{Φ Ψ:aT}(h:Le Φ Ψ){ds:List D}{d:D}(e:tK pc J k spec Φ ds=some d):tK pc J k spec Ψ ds=some d:=by
 unfold tK at e ⊢;split at e
 ·rename_i hs;rw[if_pos]
  ·exact e
  ·exact⟨fun m hm=>let⟨N,hN⟩:=hs.1 m hm;⟨N,PC.ev_mono (yldΦ_mono h _ m) (bk _) hN⟩,hs.2⟩
 ·cases e
theorem ak.of_at {tab:Nat→Option PC}{ext:Nat→Option (aT→List D→Option D)}(hx:∀f g,ext f=some g→∀Φ Ψ,Le Φ Ψ→∀ds d,g Φ ds=some d→g Ψ ds=some d)(n:Nat){f:Nat}{ds:List D}{d:D}(h:cH tab ext n f ds=some d):ak (cH tab ext) f ds d:=
 ⟨n,fun m hm=>XE hx hm f ds d h⟩
theorem Env.setR_r (ρ:Env)(t u:Nat)(d:D):(ρ.setR t d).r u=if u=t then d else ρ.r u:=by simp only[Env.setR,fS]
theorem Env.setO_o (ρ:Env)(t u:Nat)(d:D):(ρ.setO t d).o u=if u=t then d else ρ.o u:=by simp only[Env.setO,fS]
theorem Env.join_r (ρ ρ':Env)(lr lo:List Nat)(u:Nat):(ρ.join lr lo ρ').r u=if u∈lr then ρ'.r u else ρ.r u:=by simp only[Env.join,Env.put,sd]
theorem Env.join_o (ρ ρ':Env)(lr lo:List Nat)(u:Nat):(ρ.join lr lo ρ').o u=if u∈lo then ρ'.o u else ρ.o u:=by simp only[Env.join,Env.put,sd]
theorem LD (f:Nat→D)(i:Nat)(is:List Nat)(x:D)(xs:List D)(u:Nat):putL f (i::is) (x::xs) u=if u=i then x else putL f is xs u:=by simp only[putL,fS]
theorem LF (f:Nat→D)(xs:List D)(u:Nat):putL f [] xs u=f u:=by cases xs<;>rfl
theorem auE (g:Nat×Bool)(gs:List (Nat×Bool))(ρ:Env):holds (g::gs) ρ=((ρ.r g.1).b==g.2&&holds gs ρ):=rfl
theorem D.tget_tup (x:List D)(i:Nat):(D.tup x).tget i=x.getD i .none:=rfl
theorem D.c_agg (x:List D)(i:Nat):(D.agg x).c i=x.getD i .none:=rfl
end Cx
