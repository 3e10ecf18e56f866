/-
  Shared texts of this claim.
-/
import Derived.Test.YtipjidjopglknaaGreatDoorNAH
import Derived.Below
import Derived.ChangeSame
import Derived.WalkKit
import Derived.ProofKit
import Derived.OpenShut
import Derived.Carry
import Derived.JoinedCond
set_option linter.unusedSimpArgs false
set_option linter.unusedVariables false
noncomputable section
namespace Cx
open Go Go.RowKit
def Xl (m:Nat)(s:Sig):Snap:=⟨s.args.map .dat++List.replicate (m-s.args.length) .none,[]⟩
def lE (ds:List D):Env:=⟨fun t=>ds.getD t .none,fun _=>.none⟩
def ui (C:Ctx)(fn:Func)(s:Sig)(ids:List Nat)(S0:Snap):Option PC:=
 match fn.body with
 |some c=>
  (comp C fn s fn.ntmps ids (K7 C fn.ntmps ids) false c S0).bind fun r=>
    match r.out with
    |none=>some r.pc
    |some S=>(xZ C fn s (S.st ids)).map fun e=>.seq r.pc (.ret e)
 |none=>none
def Nr (m:Nat)(shs:List Sh)(obs:List (Nat×Ob))(ids:List Nat):Snap:=⟨shs++List.replicate (m-shs.length) .none,ids.map (eD obs)⟩
def Ik (shs:List Sh)(obs:List (Nat×Ob))(ds:List D):Env:=mE obs ds (ds.drop shs.length)
def EC (l:List Nat):Nat→List Sh→Bool
 |_,[]=>true
 |t,s::ss=>(nl s|| !fe l t)&&EC l (t+1) ss
def BI:List (Nat×Ob)→Nat→List PI
 |[],_=>[]
 |x::l,k=>BI l (k+1)++[.setO x.1 (.r k)]
theorem ad4 {Φ:aL}:∀(l:List (Nat×Ob)) (k:Nat) (ρ:Env) (ds:List D),(∀i,ρ.r (k+i)=ds.getD i .none)→(∀j,ρ.o j=.none)→PI.runs Φ (BI l k) ρ=some ⟨ρ.r,fun j=>nr l ds j⟩
 |[],k,ρ,ds,h,ho=>by
  simp only[BI,PI.runs]
  congr 1
  cases ρ with|mk r o=>congr 1;funext j;exact ho j
 |x::l,k,ρ,ds,h,ho=>by
  simp only[BI,oY]
  rw[ad4 l (k+1) ρ ds.tail (fun i=>by
   have:=h (i+1);rw[ua,B9 1 i,this];cases ds<;>simp) ho]
  simp only[j8,PI.runs,PI.run,PE.ev,Env.setO]
  congr 1
  congr 1
  funext j;rw[fj];have h0:=h 0;simp only[iW] at h0;cases ds with
  |nil=>
   have e:∀m j,nr m [] j=D.none:=fun m j=>by cases m<;>rfl
   rw[h0];split<;>simp[e]
  |cons d ds=>
   simp only[nr,List.tail_cons];by_cases hj:j=x.1
   ·subst hj;rw[if_pos rfl,gR,h0];rfl
   ·rw[if_neg hj,eH (fun e=>hj e.symm)];rfl
theorem asf {Φ:aL}(shs:List Sh)(obs:List (Nat×Ob))(ds:List D):PI.runs Φ (BI obs shs.length) (lE ds)=some (Ik shs obs ds):=by
 rw[ad4 obs shs.length (lE ds) (ds.drop shs.length) (fun i=>by simp[lE,aJ]) (fun j=>rfl)];rfl
def G6 (fn:Func):List Nat:=match fn.body with|some c=>cu c|none=>[]
def uZ:List (Nat×Ob)→Bool
 |[]=>true
 |x::l=>(match x.2 with|.tr=>false|_=>true)&&uZ l
def fu (C:Ctx)(fn:Func)(s:Sig)(ids:List Nat):Option PC:=
 match C.yl with
 |none=>
  match s.mode with
  |.ob shs obs=>bif Nat.ble shs.length fn.ntmps&&EC (G6 fn) 0 shs&&shs.all tw&&uZ obs then(ui C fn s ids (Nr fn.ntmps shs obs ids)).map fun pc=>.seq (.is (BI obs shs.length)) pc else none
  |_=>bif Nat.ble s.args.length fn.ntmps then ui C fn s ids (Xl fn.ntmps s) else none
 |some _=>none
theorem Z6:∀(ids:List Nat) (j:Nat),dw ids [] j=.dead
 |[],_=>rfl
 |_::_,_=>rfl
theorem Nb {C:Ctx}{Φ:aL}(aY:dt C)(hΦ:cX C Φ)(dN:gi C Φ){fn:Func}{s:Sig}{ids:List Nat}{S0:Snap}{pc:PC}{c:Code}(hb:fn.body=some c)(hc:ui C fn s ids S0=some pc){w0:World}{σ0:Base}(m5:σ0.fin)(hC:CtxOK C σ0)(hY:pB C Φ w0 σ0)
 {N:Nat} {ρ:Env} {d:D} {a:Act} {w:World} (hn:a.tmps.size=fn.ntmps) (hg:Good C w0 σ0 (S0.st ids) ρ (fun _=>False) a w) (he:pc.ev Φ N ρ=some (.ret d)):
 c.wpIn (FR none) 0 C.P (fun e a' w'=>(e=.normal∨e=.ret)∧qL C w0 σ0 fn s d a'.tmps a'.defers w'∧SameBut (fun t=>t∈cu c) a a') a w:=by
 unfold ui at hc;rw[hb] at hc;simp only[aq] at hc;obtain⟨r,hr,hc⟩:=hc;have O5:=fun x hx=>ahC (fn:=fn) (s:=s) (N:=N) dN (arM (n:=fn.ntmps) (ids:=ids) aY hΦ) c false S0 r hr none w0 σ0 (fun t=>t∈cu c) ρ x a w (fun _=>⟨rfl,m5⟩) hC hY (fun _ h=>h) hn hg hx;split at hc
 ·rename_i ko;cases hc;refine wpIn_mono (O5 (.ret d) he) fun e a' w' ho=>?_;cases e with
  |normal=>obtain⟨_,_,h,_⟩:=ho;cases h
  |exit id=>obtain⟨_,_,h,_⟩:=ho;cases h
  |ret=>obtain⟨d',h,h2⟩:=ho;cases h;exact⟨.inr rfl,h2⟩
  |_=>exact ho.elim
 ·rename_i S ko;simp only[az] at hc;obtain⟨pe,uH,rfl⟩:=hc;simp only[PC.ev] at he;split at he
  ·rename_i ρ1 h1;cases he;refine wpIn_mono (O5 (.next ρ1) h1) fun e a' w' ho=>?_;cases e with
   |normal=>
    obtain⟨ρ2,S2,e1,e2,p9,gW⟩:=ho;cases e1;rw[ko] at e2;cases e2;obtain⟨σ2,own,hv,hi⟩:=gW;exact⟨.inl rfl,Inv.retD hC (fun _=>rfl) m5 uH _ hi rfl,p9⟩
   |exit id=>obtain⟨_,_,h,_⟩:=ho;cases h
   |ret=>obtain⟨d',h,h2⟩:=ho;cases h
   |_=>exact ho.elim
  ·rename_i aw;refine wpIn_mono (O5 (.ret d) he) fun e a' w' ho=>?_;cases e with
   |normal=>obtain⟨_,_,h,_⟩:=ho;cases h
   |exit id=>obtain⟨_,_,h,_⟩:=ho;cases h
   |ret=>obtain⟨d',h,h2⟩:=ho;cases h;exact⟨.inr rfl,h2⟩
   |_=>exact ho.elim
theorem qL.leaves {C:Ctx}{w0:World}{σ0:Base}{fn:Func}{s:Sig}{d:D}{tmps:Array Value}{R:Ending→World→Prop}(hR:∀w',Ma C w0 σ0 fn s d {tmps:=tmps,defers:=[]} w'→∃v,(results fn tmps).run C.P w'=.ok v w'∧R (.returned v) w'):
 ∀(ds:List Deferred) (w:World),qL C w0 σ0 fn s d tmps ds w→LeavesInM (FR none) 0 C.P fn tmps R ds .returning w
 |[],w,h=>hR w h
 |x::ds,w,⟨D,h1,h2,h3⟩=>⟨by simp,.inl ⟨D,_,h1,run_takeDeferred h2,qL.leaves hR ds _ h3⟩⟩
theorem aiP {C:Ctx}{σ:Im}{w:World}{args:Array Value}{ds:List D}{s:Sig}{m:Nat}{ids:List Nat}(av:σ.ok w)(ha:po C σ s.args args.toList ds):
 Good C w (Base.mk0 σ w.heap.size) ((Xl m s).st ids) (lE ds) (fun _=>False) {tmps:=args++Array.replicate (m-args.size) undef,defers:=[]} w:=by
 obtain⟨h1,h2,h3⟩:=ha;have aE:args.size=s.args.length:=by simpa using h1
 refine⟨σ,fun _=>none,fun _=>undef,trivial,av,.refl σ,fun _ k e=>(av.m k _ e).lt,fun _ _ _ h=>.inl h,fun _ _ h=>.inl h,.refl _ _,bf _,(fun k j h=>by cases h),fun t=>?_,fun j=>?_,fun t gs s' e=>absurd e (Snap.noOpt _ _ t gs s'),
  .none,fun _=>False,fun _=>False,⟨⟨fun _=>id,fun _=>id⟩,(fun k j h=>by cases h),fun _ _ _ _=>id,fun _ _ _=>id,fun _ _ _=>id⟩,fun j hj=>?_⟩
 ·show aH C _ _ σ _ (cB ((s.args.map Sh.dat++List.replicate (m-s.args.length) Sh.none).getD t .none)) _ _;rw[aJ];by_cases ht:t<s.args.length
  ·rw[j6 (by simpa using ht),ct,bA ht];simp only[ka,j9,cB];have:=h3 t _ (bA ht);have e1:(args++Array.replicate (m-args.size) undef).getD t undef=args.toList.getD t undef:=by
        simp only[dV,aJ];rw[Vy (by omega)];simp
   show aH C _ _ σ _ (.dat _) ((args++Array.replicate (m-args.size) undef).getD t undef) (ds.getD t .none);rw[e1];exact this
  ·rw[lC (by simpa using ht),VT];split<;>trivial
 ·show cd C _ _ σ _ _ w _ j (dw ids [] j);rw[Z6];trivial
 ·change dw ids [] j=.tr at hj;rw[Z6] at hj;cases hj
theorem Nc {C:Ctx}{Φ:aL}(aY:dt C)(hΦ:cX C Φ)(dN:gi C Φ){f:Nat}{fn:Func}{s:Sig}{ids:List Nat}{pc:PC}(hf:C.P.funcs[f]?=some fn)(hc:fu C fn s ids=some pc){N:Nat}{ds:List D}{d:D}(cG:oG s.mode=false)
 (he:pc.ev Φ N (lE ds)=some (.ret d)):gh C f s ds d:=by
 intro σ w args av hC ha;unfold fu at hc;split at hc
 case h_2=>cases hc
 rename_i ku;split at hc
 case h_1=>rename_i e;rw[e] at cG;cases cG
 cases hle:Nat.ble s.args.length fn.ntmps<;>simp only[hle,cond_true,cond_false] at hc
 ·cases hc
 have DZ:=jN hle;have aE:args.size=s.args.length:=by simpa using ha.1
 cases hb:fn.body with
 |none=>unfold ui at hc;rw[hb] at hc;cases hc
 |some c=>
 refine(callsIn_wide (n:=0)).1 (callsIn_of_wp_marks (F:=FR none) hf hb trivial ?_);have hg:=aiP (C:=C) (m:=fn.ntmps) (ids:=ids) av ha;have hn:(args++Array.replicate (fn.ntmps-args.size) undef).size=fn.ntmps:=by simp;omega
 refine wpIn_mono (Nb aY hΦ dN hb hc (σ0:=Base.mk0 σ w.heap.size) trivial hC (fun J ys e=>by rw[ku] at e;cases e) hn hg he) fun e a' w' ho=>?_
 have main:=qL.leaves (R:=fun e w'=>∃v σ',e=.returned v∧σ.le σ'∧σ'.ok w'∧Below w.heap.size w w'∧
  (∀k o x,σ'.c k o=some x→σ.c k o=some x∨w.heap.size≤k)∧(∀k x,σ'.m k=some x→σ.m k=some x∨w.heap.size≤k)∧l8 C s σ' w w' v d) (fun w2 Ek=>by
  obtain⟨v,σ',_,h2,h3,h4,h5,h6,h7,h8⟩:=Ek;exact⟨v,h2,v,σ',rfl,h3,h4,h5,h6,h7,h8⟩) _ _ ho.2.1
 rcases ho.1 with rfl|rfl<;>exact main
def Base.mkO (σ:Im)(own:Nat→Option Nat)(w:World)(cx:Nat→Prop):Base:=
 {σ with
  B:=0
  fin:=True
  F:=fun _ fx kf w'=>(∀k,fx k↔(k<w.heap.size∧own k=none))∧(∀k,kf k↔(fx k∧cx k))∧w.heap.size≤w'.heap.size∧∀k,fx k→w'.heap[k]?=w.heap[k]?
  lt:=fun t' fx cx w' h k hk=>sr ((h.1 k).1 hk).1 h.2.2.1
  sub:=fun t' fx cx w' h k hk=>((h.2.1 k).1 hk).1
  keep:=fun t' fx cx w' kH h hb hs=>⟨h.1,h.2.1,iv h.2.2.1 hb.size,fun k hk=>(hs k hk).trans (h.2.2.2 k hk)⟩}
theorem ZU {l:List Nat}:∀{shs:List Sh} {k:Nat},EC l k shs=true→∀(t:Nat) (s:Sh),shs[t]?=some s→nl s=false→(k+t)∉l
 |[],k,_,t,s,h,_=>by simp at h
 |x::shs,k,hk,t,s,h,hd=>by
  simp only[EC,ao,gg,iU] at hk;cases t with
  |zero=>
   simp at h;subst h;rcases hk.1 with h1|h1
   ·rw[hd] at h1;cases h1
   ·intro hm;rw[iW] at hm;rw[(ql _ _).2 hm] at h1;cases h1
  |succ t=>
   simp at h;have:=ZU hk.2 t s h hd
   rwa [ua,B9 1 t] at this
theorem PW (obs:List (Nat×Ob))(j:Nat):∀ids:List Nat,dw ids (ids.map (eD obs)) j=.dead∨dw ids (ids.map (eD obs)) j=eD obs j
 |[]=>.inl rfl
 |i::is=>by
  simp only[gk,dw];cases hb:Nat.beq i j
  ·exact PW obs j is
  ·right;rw[ay hb];rfl
theorem aaF:∀{l:List (Nat×Ob)},uZ l=true→∀x,x∈l→x.2≠.tr
 |[],_,x,hx=>by cases hx
 |y::l,h,x,hx=>by
  simp only[uZ,ao] at h;rcases cT.1 hx with rfl|hx
  ·intro e;rw[e] at h;cases h.1
  ·exact aaF h.2 x hx
theorem aaG:∀{l:List (Nat×Ob)},uZ l=true→∀j,eD l j≠.tr
 |[],_,j,e=>by cases e
 |x::l,h,j,e=>by
  simp only[uZ,ao] at h;simp only[eD] at e;cases hb:Nat.beq x.1 j<;>simp only[hb,cond_true,cond_false] at e
  ·exact aaG h.2 j e
  ·have h1:=h.1;rw[e] at h1;cases h1
theorem aiO {C:Ctx}{σ:Im}{own:Nat→Option Nat}{hv:Nat→Value}{w w0:World}{args:Array Value}{cx:Nat→Prop}{shs:List Sh}{obs:List (Nat×Ob)}{ds:List D}{m:Nat}{ids:List Nat}(hN:w0.heap.size≤w.heap.size)(DG:Below 0 w0 w)(av:σ.ok w)(bn:∀k,σ.m k≠some cD)(aE:args.size=shs.length)
 (bX:∀k j,own k=some j→w0.heap.size≤k∧k<w.heap.size∧(∀o,σ.c k o=none)∧σ.m k=none) (kP:∀k,cx k→k<w.heap.size∧own k=none∧(∀o,σ.c k o=none)∧σ.m k=none) (sX:uZ obs=true) (fC:shs.all tw=true)
 (h1:∀t,aH C (fY shs obs) (Ik shs obs ds) σ hv (shs.getD t .none) (args.getD t undef) (ds.getD t .none)) (h2:∀j,cd C (fY shs obs) (Ik shs obs ds) σ own hv w w0.heap.size j (eD obs j)):
 Good C w0 (Base.mkO σ own w cx) ((Nr m shs obs ids).st ids) (Ik shs obs ds) (fun _=>False) {tmps:=args++Array.replicate (m-args.size) undef,defers:=[]} w:=by
 have rf:Compat (fY shs obs) hv ((Nr m shs obs ids).st ids) hv:=⟨fun _=>bf _,fun _ _=>rfl⟩
 refine⟨σ,own,hv,trivial,av,.refl σ,fun _ k e=>absurd e (bn k),fun _ _ _ h=>.inl h,fun _ _ h=>.inl h,DG,pA _,bX,fun t=>?_,fun j=>?_,fun t gs s' e=>absurd e (Snap.noOpt _ _ t gs s'),
  .none,(fun k=>k<w.heap.size∧own k=none),cx,⟨⟨fun _=>Iff.rfl,fun k=>⟨fun h=>⟨⟨(kP k h).1,(kP k h).2.1⟩,h⟩,fun h=>h.2⟩,bf _,fun _ _=>rfl⟩,(fun k j h hf=>by rw[hf.2] at h;cases h),(fun k o x e hc=>by rw[(kP k hc).2.2.1 o] at e;cases e),(fun k x e hc=>by rw[(kP k hc).2.2.2] at e;cases e),fun k e=>absurd e (bn k)⟩,fun j hj=>?_⟩
 ·show aH C _ _ σ _ (cB ((shs++List.replicate (m-shs.length) Sh.none).getD t .none)) _ _;refine LM ?_;rw[aJ];by_cases ht:t<shs.length
  ·rw[j6 ht];have:=h1 t;rw[aJ (l:=shs)] at this;have e1:(args++Array.replicate (m-args.size) undef).getD t undef=args.getD t undef:=by
        simp only[dV];rw[Vy (by omega)]
   show aH C _ _ σ _ _ ((args++Array.replicate (m-args.size) undef).getD t undef) (ds.getD t .none);rw[e1];refine aH.mono' (.refl σ) rf (fun gs s' e=>?_) this;have hp:=bF.1 fC _ (cS ht);rw[bA ht] at e;simp only[j9] at e;rw[e] at hp;cases hp
  ·rw[lC (by omega),VT];split<;>trivial
 ·show cd C _ _ σ _ _ w _ j (dw ids (ids.map (eD obs)) j);rcases PW obs j ids with e|e
  ·rw[e];trivial
  ·rw[e];exact(h2 j).mono (.refl σ) rf rfl rfl (fun k hk=>⟨hk,rfl⟩)
 ·change dw ids (ids.map (eD obs)) j=.tr at hj;rcases PW obs j ids with e|e
  ·rw[e] at hj;cases hj
  ·rw[e] at hj;exact absurd hj (aaG sX j)
def Ig (w:World)(N:Nat):World:={w with heap:=w.heap.extract 0 N}
theorem ahw {C:Ctx}{Φ:aL}(aY:dt C)(hΦ:cX C Φ)(dN:gi C Φ){f:Nat}{fn:Func}{s:Sig}{ids:List Nat}{pc:PC}(hf:C.P.funcs[f]?=some fn)(hc:fu C fn s ids=some pc){N:Nat}{ds:List D}{d:D}{shs:List Sh}{obs:List (Nat×Ob)}(cG:s.mode=.ob shs obs)
 (he:pc.ev Φ N (lE ds)=some (.ret d)):gQ C f shs obs s.res ds d:=by
 unfold fu at hc;split at hc
 case h_2=>cases hc
 rename_i ku;rw[cG] at hc;simp only at hc;cases hle:(Nat.ble shs.length fn.ntmps&&EC (G6 fn) 0 shs&&shs.all tw&&uZ obs)<;>simp only[hle,cond_true,cond_false] at hc
 ·cases hc
 simp only[ao] at hle;obtain⟨⟨⟨l1,l2⟩,l3⟩,l4⟩:=hle;refine gQ.of (aaF l4) ?_;intro B σ own hv w args cx _ av hC bn hB aE bX kP h1 h2;simp only[az] at hc;obtain⟨pc,hc,rfl⟩:=hc;simp only[PC.ev,asf,ka] at he;have DZ:=jN l1;cases hb:fn.body with
 |none=>unfold ui at hc;rw[hb] at hc;cases hc
 |some c=>
 have br:G6 fn=cu c:=by unfold G6;rw[hb]
 rw[br] at l2;refine(callsIn_wide (n:=0)).1 (callsIn_of_wp_marks (F:=FR none) hf hb trivial ?_);have ry:(Ig w B).heap.size=B:=by simp[Ig];omega
 have DG:Below 0 (Ig w B) w:=⟨rfl,rfl,rfl,by rw[ry];exact hB,fun k hk=>by omega⟩
 have hg:=aiO (C:=C) (m:=fn.ntmps) (ids:=ids) (w0:=Ig w B) (cx:=cx) (by rw[ry];exact hB) DG av bn aE (by rw[ry];exact bX) kP l4 l3 h1 (by rw[ry];exact h2);have hn:(args++Array.replicate (fn.ntmps-args.size) undef).size=fn.ntmps:=by simp;omega
 refine wpIn_mono (Nb aY hΦ dN hb hc (σ0:=Base.mkO σ own w cx) trivial hC (fun J ys e=>by rw[ku] at e;cases e) hn hg he) fun e a' w' ho=>?_;obtain⟨jS,Ek,jh⟩:=ho
 have main:=qL.leaves (R:=fun e w'=>∃v σ' own' hv' dr os,e=.returned v∧d=.tup (dr::os)∧os.length=obs.length∧σ.le σ'∧σ'.ok w'∧Below 0 w w'∧
  (∀k,k<w.heap.size→own k=none→w'.heap[k]?=w.heap[k]?)∧
  (∀k o x,σ'.c k o=some x→(σ.c k o=some x∨B≤k)∧¬cx k)∧(∀k x,σ'.m k=some x→(σ.m k=some x∨B≤k)∧¬cx k)∧(∀k,σ'.m k=some cD→B≤k→k<w.heap.size→own k≠none)∧
  (∀k j,own' k=some j→B≤k∧k<w'.heap.size∧(∀o,σ'.c k o=none)∧σ'.m k=none∧(k<w.heap.size→own k≠none))∧
  (∀(t:Nat) (sh:Sh),shs[t]?=some sh→nl sh=false→aH C (fY shs obs) (mE obs ds os) σ' hv' sh (args.getD t undef) (ds.getD t .none))∧
  (∀j,cd C (fY shs obs) (mE obs ds os) σ' own' hv' w' B j (eD obs j))∧Rep C.cap σ' s.res v dr) (fun w2 hr=>by
  obtain⟨v,σ',⟨own',t,fx,kf,db,_,Jk⟩,ah,jT,ON,DF,da,cQ,_⟩:=hr;obtain⟨hv',dr,os,e1,e2,e3,e4,e5,e6⟩:=Jk shs obs cG;obtain⟨f1,f2,f3,f4⟩:=db.F;have Yk:∀k,cx k→kf k:=fun k hk=>(f2 k).2 ⟨(f1 k).2 ⟨(kP k hk).1,(kP k hk).2.1⟩,hk⟩;rw[ry] at da cQ e3 e5
  refine⟨v,ah,v,σ',own',hv',dr,os,rfl,e1,e2,jT,ON,⟨DF.os,DF.tape,DF.output,f3,fun k hk=>by omega⟩,fun k hk hn=>f4 k ((f1 k).2 ⟨hk,hn⟩),fun k o x e=>⟨da k o x e,fun hk=>db.c k o x e (Yk k hk)⟩,fun k x e=>⟨cQ k x e,fun hk=>db.m k x e (Yk k hk)⟩,
   fun k e NQ hk hn=>db.d k e (by rw[ry];exact NQ) ((f1 k).2 ⟨hk,hn⟩),fun k j hk=>?_,fun t sh hs hd=>?_,fun j=>?_,e6⟩
  ·obtain⟨g1,g2,g3,g4⟩:=e3 k j hk;exact⟨g1,g2,g3,g4,fun af hn=>db.own k j hk ((f1 k).2 ⟨af,hn⟩)⟩
  ·have:=e4 t sh hs hd (ds.getD t .none);have af:t<shs.length:=(fm.1 hs).1;have nf:t∉cu c:=by have:=ZU l2 t sh hs hd;simpa using this
   have cn:a'.tmps.getD t undef=args.getD t undef:=by
        rw[jh.get t nf];simp only[dV];rw[Vy (by omega)]
   simp only at this;rw[cn] at this;have hp:=bF.1 l3 _ (jM hs);exact aH.mono' (.refl σ') ⟨fun _=>bf _,fun _ _=>rfl⟩ (fun gs s' e=>by rw[e] at hp;cases hp) this
  ·exact cd.mono (S:=fY shs obs) (S':=fY shs obs) (ρ:=mE obs [] os) (ρ':=mE obs ds os) (hv:=hv') (hv':=hv') (own:=own') (own':=own') (w:=w2) (w':=w2) (.refl σ') ⟨fun _=>bf _,fun _ _=>rfl⟩ rfl rfl (fun k hk=>⟨hk,rfl⟩) (e5 j)) _ _ Ek
 rcases jS with rfl|rfl<;>exact main
def Xk (m:Nat)(cts:List Ty)(J:Nat)(ids:List Nat):Snap:=⟨.yv::(cts.map .dat++List.replicate (m-(cts.length+1)) .none),ids.map fun j=>bif Nat.beq j J then .tr else .dead⟩
def zN (J:Nat)(ds:List D):Env:=⟨fun t=>(D.none::ds).getD t .none,fun j=>bif Nat.beq j J then .list [] else .none⟩
def CU (C:Ctx)(fn:Func)(cts ys:List Ty)(J:Nat)(ids:List Nat):Option PC:=
 match C.yl,C.sig mR,C.cap mR with
 |none,none,none=>bif Nat.ble (cts.length+1) fn.ntmps then ui {C with yl:=some (J,ys)} fn ⟨[],.tup [],.it J⟩ ids (Xk fn.ntmps cts J ids) else none
 |_,_,_=>none
open Classical in
def yldΦ (Φ:aL)(xs:List D)(m:Nat):aL:=fun f ds=>
 if f=mR then(match ds with|[.list l]=>if 0<l.length∧l.length≤m+1∧l=xs.take l.length then some (.v (.bool (decide (l.length≤m)))) else none|_=>none)
 else Φ f ds
theorem yldΦ_at {Φ:aL}{xs l ds:List D}{d:D}{m:Nat}(h:yldΦ Φ xs m mR [.list (l++[.tup ds])]=some d):l.length≤m∧l=xs.take l.length∧xs[l.length]?=some (.tup ds)∧l++[.tup ds]=xs.take (l.length+1)∧d=.v (.bool (decide (l.length<m))):=by
 simp only[yldΦ,if_true] at h;split at h
 ·rename_i hc;obtain⟨h1,h2,h3⟩:=hc;simp only[kL,nL,yx,gS] at h2 h3 h;have hx:xs[l.length]?=some (.tup ds):=by
   have:(xs.take (l.length+1))[l.length]?=some (.tup ds):=by rw[←h3];simp
   rw[fM] at this;simpa using this
  have hl:l=xs.take l.length:=by
   have:=congrArg (List.take l.length) h3;simpa [List.take_take] using this
  refine⟨by omega,hl,hx,h3,?_⟩;cases h
  congr 2
 ·cases h
theorem cX.yl {C:Ctx}{Φ:aL}(h:cX C Φ){y:Option (Nat×List Ty)}{v:Value}{xs:List D}{m:Nat}(hs:C.sig mR=none):cX {C with yl:=y,yv:=v} (yldΦ Φ xs m):=by
 intro f ds d e s eT;have aw:f≠mR:=fun e'=>by subst e';change C.sig mR=some s at eT;rw[hs] at eT;cases eT
 simp only[yldΦ,if_neg aw] at e;obtain⟨h1,h2⟩:=h f ds d e s eT;exact⟨fun hm σ w args av hC ha=>h1 hm σ w args av ⟨hC.glob,hC.mg⟩ ha,fun shs obs hm=>(h2 shs obs hm).ctx rfl rfl rfl⟩
theorem ly.yl {C:Ctx}{y:Option (Nat×List Ty)}{v:Value}{f:Nat}{cts ys:List Ty}{ds xs:List D}(h:ly C f cts ys ds xs):ly {C with yl:=y,yv:=v} f cts ys ds xs:=
 fun σ w yv vs F fx cx m av hC=>h σ w yv vs F fx cx m av ⟨hC.glob,hC.mg⟩
theorem gi.yl {C:Ctx}{Φ:aL}(h:gi C Φ){y:Option (Nat×List Ty)}{v:Value}{xs:List D}{m:Nat}(hs:C.cap mR=none):gi {C with yl:=y,yv:=v} (yldΦ Φ xs m):=by
 intro f cs ys hc hi;have aw:f≠mR:=fun e'=>by subst e';change C.cap mR=some cs at hc;rw[hs] at hc;cases hc
 obtain⟨h1,h2⟩:=h f cs ys hc hi;refine⟨h1,fun ds d e=>?_⟩;simp only[yldΦ,if_neg aw] at e;obtain⟨xs,e1,e2,e3⟩:=h2 ds d e;exact⟨xs,e1,e2,e3.yl⟩
def VK (Φ:aL)(pc:PC)(J:Nat)(ds xs:List D):Prop:=∀m,m≤xs.length→∃N,pc.ev (yldΦ Φ xs m) N (zN J ds)=some (.ret (.list (xs.take (m+1))))
theorem aiN {C:Ctx}{σ:Im}{σ0:Base}{w:World}{yv:Value}{vs:List Value}{ds:List D}{cts ys:List Ty}{J m:Nat}{ids:List Nat}(av:σ.ok w)(ha:po C σ cts vs ds)(hm:cts.length+1≤m)(ku:C.yl=some (J,ys))(Eu:C.yv=yv)
 (h0:σ0.toIm=σ) (hB:σ0.B=0) {fx cx:Nat→Prop} (hF:σ0.F (.list []) fx cx w) (jc:∀k o x,σ.c k o=some x→¬cx k) (m4:∀k x,σ.m k=some x→¬cx k):
 Good C w σ0 ((Xk m cts J ids).st ids) (zN J ds) (fun _=>False) {tmps:=#[yv]++vs.toArray++Array.replicate (m-(vs.length+1)) undef,defers:=[]} w:=by
 obtain⟨h1,h2,h3⟩:=ha
 refine⟨σ,fun _=>none,fun _=>undef,trivial,av,by rw[h0];exact .refl σ,fun _ k e=>by rw[h0] at e;exact(av.m k _ e).lt,fun _ _ _ h=>by rw[h0];exact .inl h,fun _ _ h=>by rw[h0];exact .inl h,.refl _ _,by omega,(fun k j h=>by cases h),fun t=>?_,fun j=>?_,fun t gs s' e=>absurd e (Snap.noOpt _ _ t gs s'),
  .list [],fx,cx,⟨hF,(fun k j h=>by cases h),jc,m4,fun k e hk=>by have:=(av.m k _ e).lt;omega⟩,fun j hj=>?_⟩
 ·show aH C _ _ σ _ (cB ((Sh.yv::(cts.map Sh.dat++List.replicate (m-(cts.length+1)) Sh.none)).getD t .none)) ((#[yv]++vs.toArray++Array.replicate (m-(vs.length+1)) undef).getD t undef) ((D.none::ds).getD t .none);have ea:((#[yv]++vs.toArray++Array.replicate (m-(vs.length+1)) undef).getD t undef)=(yv::(vs++List.replicate (m-(vs.length+1)) undef)).getD t undef:=by
   rw[dV,←B1,aJ];simp
  rw[ea];cases t with
  |zero=>simp only[nJ,cB];exact Eu.symm
  |succ t=>
   simp only[sm];rw[aJ];by_cases ht:t<cts.length
   ·rw[j6 (by simpa using ht),ct,bA ht];simp only[ka,j9,cB];have:=h3 t _ (bA ht);have e1:(vs++List.replicate (m-(vs.length+1)) undef).getD t undef=vs.getD t undef:=by
     simp only[aJ];rw[j6 (by omega)]
    show aH C _ _ σ _ (.dat _) _ (ds.getD t .none);rw[e1];exact this
   ·rw[lC (by simpa using ht),VT];split<;>trivial
 ·show cd C _ _ σ _ _ w _ j (dw ids (ids.map fun j=>bif Nat.beq j J then .tr else .dead) j);refine xn _ (fun ob=>cd C _ _ σ _ _ w _ j ob) trivial j ?_ ids;cases Nat.beq j J<;>trivial
 ·change dw ids (ids.map fun j=>bif Nat.beq j J then .tr else .dead) j=.tr at hj
  have hb:=xn (fun j=>bif Nat.beq j J then Ob.tr else .dead) (fun ob=>ob=.tr→Nat.beq j J=true) (fun e=>by cases e) j (fun e=>by
   cases hb:Nat.beq j J
   ·rw[hb] at e;cases e
   ·rfl) ids hj
  have:=ay hb;subst this;refine⟨⟨ys,ku⟩,?_⟩;show(bif Nat.beq j j then D.list [] else .none)=_;rw[gR];rfl
theorem ahx {C:Ctx}{Φ:aL}(aY:dt C)(hΦ:cX C Φ)(dN:gi C Φ){f:Nat}{fn:Func}{cts ys:List Ty}{J:Nat}{ids:List Nat}{pc:PC}(hf:C.P.funcs[f]?=some fn)(hc:∀yv,CU {C with yv:=yv} fn cts ys J ids=some pc){ds xs:List D}
 (hr:VK Φ pc J ds xs):ly C f cts ys ds xs:=by
 intro σ w yv vs F fx cx m av hC ha hm af bS wN hF jc m4 Pv;have hc:=hc yv;unfold CU at hc;split at hc
 case h_2=>cases hc
 rename_i ku hsy hcy;cases hle:Nat.ble (cts.length+1) fn.ntmps<;>simp only[hle,cond_true,cond_false] at hc
 ·cases hc
 have DZ:=jN hle;obtain⟨N,he⟩:=hr m hm;cases hb:fn.body with
 |none=>unfold ui at hc;rw[hb] at hc;cases hc
 |some c=>
 refine(callsIn_wide (n:=0)).1 (callsIn_of_wp_marks (F:=FR none) hf hb trivial ?_);obtain⟨σ0,hσ0⟩:∃σ0:Base,σ0={σ with B:=0,fin:=True,F:=fun t fx cx w=>(∃l,t=.list l)∧F t fx cx w,lt:=fun t fx cx w h=>af t fx cx w h.2,sub:=fun t fx cx w h=>bS t fx cx w h.2,keep:=fun t fx cx w w' h hb hs=>⟨h.1,wN t fx cx w w' h.2 hb hs⟩}:=⟨_,rfl⟩
 have e1:σ0.toIm=σ:=by rw[hσ0]
 have e2:σ0.B=0:=by rw[hσ0]
 have e3:σ0.fin:=by rw[hσ0];trivial
 have e4:∀t fx cx w,σ0.F t fx cx w↔(∃l,t=.list l)∧F t fx cx w:=fun t fx cx w=>by rw[hσ0]
 have hg:=aiN (C:={C with yl:=some (J,ys),yv:=yv}) (σ0:=σ0) (w:=w) (yv:=yv) (vs:=vs) (ds:=ds) (cts:=cts) (ys:=ys) (J:=J) (m:=fn.ntmps) (ids:=ids) av ha DZ rfl rfl e1 e2 ((e4 _ _ _ _).2 ⟨⟨_,rfl⟩,hF⟩) jc m4;have aE:(#[yv]++vs.toArray).size=vs.length+1:=by simp<;>omega
 have Jq:vs.length=cts.length:=ha.1;have hY:pB {C with yl:=some (J,ys),yv:=yv} (yldΦ Φ xs m) w σ0:=by
  intro J' ys' e;cases e;refine⟨e2,fun t fx cx w h=>((e4 _ _ _ _).1 h).1,fun j4 ds' d hd fx cx w1 σ1 args zY amo wE Yh D0 da cQ=>?_⟩;obtain⟨g1,g2,g3,g4,rfl⟩:=yldΦ_at hd;rw[e1] at da cQ;have:=Pv j4.length fx cx w1 σ1 args ds' g1 g3 (by rw[←g2];exact((e4 _ _ _ _).1 zY).2) amo wE Yh D0 da cQ;intro rd o a x aa ts K Q bQ hv has hK;refine this rd o a x aa ts K Q bQ hv has fun u w2 hu=>hK u w2 ?_;obtain⟨u1,u2,u3,m0,kf,u4,u5,u6⟩:=hu;refine⟨_,rfl,u1,u2,u3,m0,kf,(e4 _ _ _ _).2 ⟨⟨_,rfl⟩,?_⟩,u5,u6⟩;rw[g4];exact u4
 have hn:(#[yv]++vs.toArray++Array.replicate (fn.ntmps-(vs.length+1)) undef).size=fn.ntmps:=by simp;omega
 rw[aE];refine wpIn_mono (Nb (C:={C with yl:=some (J,ys),yv:=yv}) aY (hΦ.yl hsy) (dN.yl hcy) hb hc (σ0:=σ0) e3 (by rw[e1];exact⟨hC.glob,hC.mg⟩) hY hn hg he) fun e a' w' ho=>?_
 have main:=qL.leaves (R:=fun e w'=>(∃v,e=.returned v)∧∃fx cx,F (.list (xs.take (m+1))) fx cx w') (fun w2 Ek=>by
  obtain⟨v,σ',⟨own,t,fx,cx,h1,ht,_⟩,h2,_⟩:=Ek;refine⟨v,h2,⟨v,rfl⟩,fx,cx,?_⟩;rw[ht J rfl];exact((e4 _ _ _ _).1 h1.F).2) _ _ ho.2.1
 rcases ho.1 with rfl|rfl<;>exact main
def ej (tab:Nat→Option PC)(ext:Nat→Option (aL→List D→Option D)):Nat→aL
 |0=>fun _ _=>none
 |n+1=>fun f ds=>
  match ext f with
  |some g=>g (ej tab ext n) ds
  |none=>
   match tab f with
   |some pc=>(match pc.ev (ej tab ext n) n (lE ds) with|some (.ret d)=>some d|_=>none)
   |none=>none
theorem gh.hint {C:Ctx}{fr nh:List Nat}{f:Nat}{s:Sig}{ds:List D}{d:D}(h:gh C f s ds d):gh {C with fr:=fr,nh:=nh} f s ds d:=
 fun σ w args av hC ha=>h σ w args av ⟨hC.glob,hC.mg⟩ ha
theorem gh.unhint {C:Ctx}{fr nh:List Nat}{f:Nat}{s:Sig}{ds:List D}{d:D}(h:gh {C with fr:=fr,nh:=nh} f s ds d):gh C f s ds d:=
 fun σ w args av hC ha=>h σ w args av ⟨hC.glob,hC.mg⟩ ha
theorem ly.hint {C:Ctx}{fr nh:List Nat}{f:Nat}{cts ys:List Ty}{ds xs:List D}(h:ly C f cts ys ds xs):ly {C with fr:=fr,nh:=nh} f cts ys ds xs:=
 fun σ w yv vs F fx cx m av hC=>h σ w yv vs F fx cx m av ⟨hC.glob,hC.mg⟩
theorem ly.unhint {C:Ctx}{fr nh:List Nat}{f:Nat}{cts ys:List Ty}{ds xs:List D}(h:ly {C with fr:=fr,nh:=nh} f cts ys ds xs):ly C f cts ys ds xs:=
 fun σ w yv vs F fx cx m av hC=>h σ w yv vs F fx cx m av ⟨hC.glob,hC.mg⟩
theorem gQ.hint {C:Ctx}{fr nh:List Nat}{f:Nat}{shs:List Sh}{obs:List (Nat×Ob)}{res:Ty}{ds:List D}{d:D}(h:gQ C f shs obs res ds d):gQ {C with fr:=fr,nh:=nh} f shs obs res ds d:=h.ctx rfl rfl rfl
theorem gQ.unhint {C:Ctx}{fr nh:List Nat}{f:Nat}{shs:List Sh}{obs:List (Nat×Ob)}{res:Ty}{ds:List D}{d:D}(h:gQ {C with fr:=fr,nh:=nh} f shs obs res ds d):gQ C f shs obs res ds d:=gQ.ctx (C':=C) h rfl rfl rfl
theorem cX.hint {C:Ctx}{fr nh:List Nat}{Φ:aL}(h:cX C Φ):cX {C with fr:=fr,nh:=nh} Φ:=
 fun f ds d e s hs=>⟨fun hm=>((h f ds d e s hs).1 hm).hint,fun shs obs hm=>((h f ds d e s hs).2 shs obs hm).hint⟩
theorem gi.hint {C:Ctx}{fr nh:List Nat}{Φ:aL}(h:gi C Φ):gi {C with fr:=fr,nh:=nh} Φ:=
 fun f cs ys hc hi=>let⟨h1,h2⟩:=h f cs ys hc hi;⟨h1,fun ds d e=>let⟨xs,e1,e2,e3⟩:=h2 ds d e;⟨xs,e1,e2,e3.hint⟩⟩
theorem dt.hint {C:Ctx}{fr nh:List Nat}(h:dt C):dt {C with fr:=fr,nh:=nh}:=h
def yr (C:Ctx)(f:Nat)(s:Sig)(ds:List D)(d:D):Prop:=(oG s.mode=false→gh C f s ds d)∧∀shs obs,s.mode=.ob shs obs→gQ C f shs obs s.res ds d
structure TabOK (C:Ctx) (tab:Nat→Option PC) (ext:Nat→Option (aL→List D→Option D)):Prop where
 clos:dt C
 its:∀f cs ys,C.cap f=some cs→jY cs.args cs.res=some ys→tab f=none∧∃fn,C.P.funcs[f]?=some fn∧fn.body.isSome=true∧(fn.name== "runtime.NumGoroutine")=false
 tab:∀f pc,ext f=none→tab f=some pc→∃fn s ids fr nh,C.P.funcs[f]?=some fn∧C.sig f=some s∧fu {C with fr:=fr,nh:=nh} fn s ids=some pc
 ext:∀f g,ext f=some g→∀Φ,cX C Φ→gi C Φ→∀ds d,g Φ ds=some d→(∀s,C.sig f=some s→yr C f s ds d)∧
  ∀cs ys,C.cap f=some cs→jY cs.args cs.res=some ys→∃xs,d=.list xs∧(∀x,x∈xs→∃ds',x=.tup ds'∧ds'.length=ys.length)∧ly C f cs.caps ys ds xs
theorem V1 {C:Ctx}{tab:Nat→Option PC}{ext:Nat→Option (aL→List D→Option D)}(h:TabOK C tab ext):∀n,cX C (ej tab ext n)∧gi C (ej tab ext n)
 |0=>⟨fun f ds d e=>by simp[ej] at e,fun f cs ys hc hi=>⟨(h.its f cs ys hc hi).2,fun ds d e=>by simp[ej] at e⟩⟩
 |n+1=>by
  obtain⟨ih,mz⟩:=V1 h n;refine⟨fun f ds d e=>?_,fun f cs ys hc hi=>⟨(h.its f cs ys hc hi).2,fun ds d e=>?_⟩⟩
  ·simp only[ej] at e;split at e
   ·rename_i g hg;exact(h.ext f g hg _ ih mz ds d e).1
   ·rename_i hx;split at e
    ·rename_i pc ae;split at e
     ·rename_i d' he;cases e;obtain⟨fn,s,ids,fr,nh,h1,h2,h3⟩:=h.tab f pc hx ae;intro s' eT;rw[h2] at eT;cases eT
      exact⟨fun hm=>(Nc (C:={C with fr:=fr,nh:=nh}) (dt.hint h.clos) (cX.hint ih) (gi.hint mz) h1 h3 hm he).unhint,
       fun shs obs hm=>(ahw (C:={C with fr:=fr,nh:=nh}) (dt.hint h.clos) (cX.hint ih) (gi.hint mz) h1 h3 hm he).unhint⟩
     ·cases e
    ·cases e
  ·simp only[ej] at e;split at e
   ·rename_i g hg;exact(h.ext f g hg _ ih mz ds d e).2 cs ys hc hi
   ·rw[(h.its f cs ys hc hi).1] at e;cases e
def afD (Φ:aL)(pc:PC)(J k:Nat)(ds xs:List D):Prop:=VK Φ pc J ds xs∧∀x,x∈xs→∃ds',x=.tup ds'∧ds'.length=k
open Classical in
def Ez (pc:PC)(J k:Nat)(spec:List D→List D):aL→List D→Option D:=fun Φ ds=>if afD Φ pc J k ds (spec ds) then some (.list (spec ds)) else none
theorem anK {C:Ctx}{Φ:aL}(aY:dt C)(hΦ:cX C Φ)(dN:gi C Φ){f:Nat}{fn:Func}{cts ys:List Ty}{J k:Nat}{ids fr nh:List Nat}{pc:PC}(hf:C.P.funcs[f]?=some fn)(hc:∀yv,CU {C with fr:=fr,nh:=nh,yv:=yv} fn cts ys J ids=some pc){spec:List D→List D}
 {ds:List D} {d:D} (h:Ez pc J k spec Φ ds=some d) (hk:k=ys.length):∃xs,d=.list xs∧(∀x,x∈xs→∃ds',x=.tup ds'∧ds'.length=ys.length)∧ly C f cts ys ds xs:=by
 unfold Ez at h;split at h
 ·rename_i hs;cases h;subst hk;exact⟨_,rfl,hs.2,(ahx (C:={C with fr:=fr,nh:=nh}) (dt.hint aY) (cX.hint hΦ) (gi.hint dN) hf hc hs.1).unhint⟩
 ·cases h
def aV {α:Type}:List (Nat×α)→Nat→Option α
 |[],_=>none
 |x::l,f=>bif Nat.beq x.1 f then some x.2 else aV l f
def GC {α:Type}(R:Nat→α→Prop):List (Nat×α)→Prop
 |[]=>True
 |x::l=>R x.1 x.2∧GC R l
theorem EH {α:Type}{R:Nat→α→Prop}:∀{l:List (Nat×α)},GC R l→∀f x,aV l f=some x→R f x
 |[],_,f,x,h=>by cases h
 |y::l,⟨h1,h2⟩,f,x,h=>by
  simp only[aV] at h;cases hb:Nat.beq y.1 f<;>simp only[hb,cond_true,cond_false] at h
  ·exact EH h2 f x h
  ·cases h;rw[←cU hb];exact h1
def S5 (P:Program):List (Nat×Sig)→Bool
 |[]=>true
 |x::l=>(match P.funcs[x.1]? with|some fn=>fn.body.isSome&& !(fn.name== "runtime.NumGoroutine")|none=>false)&&S5 P l
theorem aen {P:Program}:∀{l:List (Nat×Sig)},S5 P l=true→∀f s,aV l f=some s→∃fn,P.funcs[f]?=some fn∧fn.body.isSome=true∧(fn.name== "runtime.NumGoroutine")=false
 |[],_,f,s,h=>by cases h
 |y::l,hl,f,s,h=>by
  simp only[S5,ao] at hl;simp only[aV] at h;cases hb:Nat.beq y.1 f<;>simp only[hb,cond_true,cond_false] at h
  ·exact aen hl.2 f s h
  ·rw[←cU hb];have h1:=hl.1;split at h1
   ·rename_i fn e;simp only[ao,iU] at h1;exact⟨fn,e,h1.1,h1.2⟩
   ·cases h1
def SQ (a b:Sig):Bool:=Ty.beqs a.args b.args&&Ty.beq a.res b.res&&(match a.mode,b.mode with|.dat,.dat=>true|_,_=>false)
theorem asl {a b:Sig}(h:SQ a b=true):a=b:=by
 obtain⟨a1,a2,a3⟩:=a;obtain⟨b1,b2,b3⟩:=b;simp only[SQ,ao] at h;rw[Ty.beqs_eq _ _ h.1.1,Ty.beq_eq _ _ h.1.2];cases a3<;>cases b3<;>first|rfl|(have:=h.2;cases this)
def BR (P:Program)(f:Nat):Bool:=match P.funcs[f]? with|some fn=>fn.body.isSome&& !(fn.name== "runtime.NumGoroutine")|none=>false
theorem aeo {P:Program}{f:Nat}(h:BR P f=true):∃fn,P.funcs[f]?=some fn∧fn.body.isSome=true∧(fn.name== "runtime.NumGoroutine")=false:=by
 unfold BR at h;split at h
 ·rename_i fn e;simp only[ao,iU] at h;exact⟨fn,e,h.1,h.2⟩
 ·cases h
def M4 (P:Program)(sig:List (Nat×Sig))(pcs:List Nat):List (Nat×CSig)→Bool
 |[]=>true
 |x::l=>(match jY x.2.args x.2.res with
   |none=>(match aV sig x.1 with|some s=>SQ s ⟨x.2.args++x.2.caps,x.2.res,.dat⟩|none=>false)
   |some _=> !fe pcs x.1&&BR P x.1)&&M4 P sig pcs l
theorem M5 {P:Program}{sig:List (Nat×Sig)}{pcs:List Nat}:∀{l:List (Nat×CSig)},M4 P sig pcs l=true→∀f cs,aV l f=some cs→
 (jY cs.args cs.res=none→aV sig f=some ⟨cs.args++cs.caps,cs.res,.dat⟩)∧∀ys,jY cs.args cs.res=some ys→fe pcs f=false∧BR P f=true
 |[],_,f,cs,h=>by cases h
 |x::l,hl,f,cs,h=>by
  simp only[M4,ao] at hl;simp only[aV] at h;cases hb:Nat.beq x.1 f<;>simp only[hb,cond_true,cond_false] at h
  ·exact M5 hl.2 f cs h
  ·cases h;rw[←cU hb];have h1:=hl.1;refine⟨fun e=>?_,fun ys e=>?_⟩
   ·rw[e] at h1;simp only at h1;split at h1
    ·rename_i s hs;rw[hs,asl h1]
    ·cases h1
   ·rw[e] at h1;simpa using h1
theorem PS {α:Type}:∀{l:List (Nat×α)} {f:Nat},fe (l.map (·.1)) f=false→aV l f=none
 |[],f,_=>rfl
 |x::l,f,h=>by
  simp only[gk,fe,List.any_cons,VD] at h;simp only[aV];have hb:Nat.beq x.1 f=false:=by
   cases e:Nat.beq x.1 f
   ·rfl
   ·rw[ay e,gR] at h;cases h.1
  rw[hb];exact PS (l:=l) h.2
def afN (Φ:aL)(pa pb:PC)(ds:List D)(d:D):Prop:=(∃N xs,pa.ev Φ N (lE ds)=some (.ret (.list xs))∧xs≠[]∧d=.list xs)∨∃N,pb.ev Φ N (lE ds)=some (.ret (.list []))∧d=.list []
open Classical in
def AQ (pa pb:PC)(spec:List D→D):aL→List D→Option D:=fun Φ ds=>if afN Φ pa pb ds (spec ds) then some (spec ds) else none
theorem apD {C:Ctx}{Φ:aL}(aY:dt C)(hΦ:cX C Φ)(dN:gi C Φ){f:Nat}{fn:Func}{args:List Ty}{e:Ty}{ids anA fr nh XM nhb:List Nat}{pa pb:PC}(hf:C.P.funcs[f]?=some fn)(ha:fu {C with fr:=fr,nh:=nh} fn ⟨args,.slice e,.dat⟩ ids=some pa)
 (hb:fu {C with fr:=XM,nh:=nhb} fn ⟨args,.nils .bool,.dat⟩ anA=some pb) {spec:List D→D} {ds:List D} {d:D} (h:AQ pa pb spec Φ ds=some d):gh C f ⟨args,.nsl e,.dat⟩ ds d:=by
 unfold AQ at h;split at h
 case isFalse=>cases h
 rename_i hs;cases h;rcases hs with⟨N,xs,h1,h2,h3⟩|⟨N,h1,h2⟩
 ·rw[h3];have:=(Nc (C:={C with fr:=fr,nh:=nh}) (dt.hint aY) (cX.hint hΦ) (gi.hint dN) hf ha (N:=N) rfl h1).unhint;intro σ w aa av hC dD;refine(this σ w aa av hC dD).mono fun en w' hh=>?_;obtain⟨v,σ',g1,g2,g3,g4,g5,g6,g7⟩:=hh;refine⟨v,σ',g1,g2,g3,g4,g5,g6,?_⟩;change Rep C.cap σ' (.slice e) v (.list xs) at g7;show Rep C.cap σ' (.nsl e) v (.list xs);generalize hd:D.list xs=dd at g7;cases g7 with
  |nil=>injection hd with hd;exact absurd hd h2
  |emp=>injection hd with hd;exact absurd hd h2
  |slice _ k o n c j4 vs a1 a2 a3 a4 a5 a6=>exact .nsl e k o n c j4 (.slice e k o n c j4 vs a1 a2 a3 a4 a5 a6) (by injection hd with hd;rw[←hd];exact h2)
 ·rw[h2];have:=(Nc (C:={C with fr:=XM,nh:=nhb}) (dt.hint aY) (cX.hint hΦ) (gi.hint dN) hf hb (N:=N) rfl h1).unhint;intro σ w aa av hC dD;refine(this σ w aa av hC dD).mono fun en w' hh=>?_;obtain⟨v,σ',g1,g2,g3,g4,g5,g6,g7⟩:=hh;refine⟨v,σ',g1,g2,g3,g4,g5,g6,?_⟩;change Rep C.cap σ' (.nils .bool) v (.list []) at g7;show Rep C.cap σ' (.nsl e) v (.list []);generalize D.list []=dd at g7;cases g7;exact .nsl0 e
end Cx
namespace Cx
open Go Go.RowKit Go.ChangeShapes Go.WideShapes
def kW (w:World):Im:=
 ⟨fun k o=>bif Nat.beq k 0|| !w.frozen? ⟨k,o,none⟩ then w.cell? ⟨k,o,none⟩ else none,fun k=>match w.heap[k]? with|some (.cells _ _ _)=>some hG|_=>none⟩
theorem anC (w:World):(kW w).ok w:=by
 refine⟨fun k o v h=>?_,fun k es h=>?_,fun k o v h=>?_⟩
 case refine_2=>
  change (match w.heap[k]? with|some (.cells _ _ _)=>some hG|_=>none)=_ at h;split at h
  ·rename_i cs T fz e;cases h;exact .inr (.inr ⟨rfl,cs,T,fz,e⟩)
  ·cases h
 all_goals change (bif Nat.beq k 0|| !w.frozen? ⟨k,o,none⟩ then w.cell? ⟨k,o,none⟩ else none)=_ at h
 all_goals cases hb:(Nat.beq k 0|| !w.frozen? ⟨k,o,none⟩)<;>rw[hb] at h
 ·cases h
 ·exact h
 ·cases h
 ·rw[gg] at hb;exact hb.imp ay (by simp)
theorem ZB {w:World}{k o:Nat}{v:Value}(h:w.cell? ⟨k,o,none⟩=some v):(kW w).m k=some hG:=by
 change (match w.heap[k]? with|some (.cells _ _ _)=>some hG|_=>none)=_;unfold World.cell? at h;cases hk:w.heap[k]? with
 |none=>simp[hk] at h
 |some ob=>cases ob<;>simp_all
theorem ZA {w:World}{k o:Nat}{v:Value}(h:w.cell? ⟨k,o,none⟩=some v)(hz:k=0∨w.frozen? ⟨k,o,none⟩=false):(kW w).c k o=some v:=by
 change (bif Nat.beq k 0|| !w.frozen? ⟨k,o,none⟩ then w.cell? ⟨k,o,none⟩ else none)=_;rcases hz with rfl|hz
 ·exact h
 ·rw[hz];simpa using h
def BE (P:Program)(r:TypeId→Option Ty):List Field→Nat→Option (List Ty)
 |[],_=>some []
 |f::fs,off=>(r f.type).bind fun ft=>
  bif Nat.beq f.offset off&&Nat.beq (P.cellsOf f.type) ft.flat.length then(BE P r fs (off+ft.flat.length)).map (ft.flat++·) else none
def gz (P:Program):Nat→TypeId→Option Ty
 |0,_=>none
 |n+1,t=>
  match P.underlying t with
  |some .bool=>some .bool
  |some (.int k)=>some (.int k)
  |some .string=>some .str
  |some (.slice e)=>bif th P e then some (.slice .trm) else(gz P n e).bind fun te=>bif Nat.beq (P.cellsOf e) te.flat.length&&Nat.ble 1 te.flat.length then some (.slice te) else none
  |some (.struct fs)=>(BE P (gz P n) fs.toList 0).bind fun ts=>bif Nat.beq (P.cellsOf t) ts.length then some (.agg ts) else none
  |_=>none
theorem anJ {P:Program}{e:TypeId}(h:th P e=true)(n:Nat):gz P (n+2) e=some .trmA∧P.cellsOf e=3:=by
 unfold th at h;split at h
 case h_2=>cases h
 rename_i fs hu;split at h
 case h_2=>cases h
 rename_i f0 f1 f2 wJ;simp only[ao] at h;obtain⟨⟨⟨⟨⟨⟨⟨⟨⟨h0,h1⟩,h2⟩,o0⟩,o1⟩,o2⟩,c0⟩,c1⟩,c2⟩,c3⟩:=h;split at h0
 case h_2=>cases h0
 rename_i u0;split at h1
 case h_2=>cases h1
 rename_i u1;split at h2
 case h_2=>cases h2
 rename_i e' u2;obtain rfl:=ay h2;have r0:gz P (n+1) f0.type=some (.int .i64):=by simp[gz,u0]
 have r1:gz P (n+1) f1.type=some (.int .i64):=by simp[gz,u1]
 have ht:th P e'=true:=by
  unfold th;rw[hu];simp only[wJ];simp[u0,u1,u2,ay o0,ay o1,ay o2,ay c0,ay c1,ay c2,ay c3]
 have r2:gz P (n+1) f2.type=some (.slice .trm):=by simp[gz,u2,ht]
 refine⟨?_,ay c3⟩;show gz P (n+1+1) e'=_;rw[gz,hu];simp only[wJ,BE,r0,r1,r2,j8,Ty.flat,nL,yx,o0,c0,Bool.and_self,cond_true];simp[ay o1,ay o2,ay c1,ay c2,ay c3,Ty.trmA]
theorem Sv {P:Program}{n:Nat}{t:TypeId}{ty:Ty}(h:gz P n t=some ty):ty.rowT=true∨ty.one=true:=by
 cases n with
 |zero=>simp[gz] at h
 |succ n=>
  simp only[gz] at h;split at h
  ·cases h;exact .inr rfl
  ·cases h;exact .inr rfl
  ·cases h;exact .inr rfl
  ·rename_i e _;cases ht:th P e<;>simp only[ht,cond_true,cond_false] at h
   ·simp only[aq] at h;obtain⟨te,_,h⟩:=h;cases hb:(Nat.beq (P.cellsOf e) te.flat.length&&Nat.ble 1 te.flat.length)<;>simp only[hb,cond_true,cond_false] at h
    ·cases h
    ·cases h;exact .inr rfl
   ·cases h;exact .inr rfl
  ·rename_i fs _;simp only[aq] at h;obtain⟨ts,_,h⟩:=h;cases hb:Nat.beq (P.cellsOf t) ts.length<;>simp only[hb,cond_true,cond_false] at h
   ·cases h
   ·cases h;exact .inl rfl
  ·cases h
def mW (cap:Nat→Option CSig)(σ:Im)(ts:List Ty)(cs:List Value)(ds:List D):Prop:=
 cs.length=ts.length∧ds.length=ts.length∧∀(i:Nat) (u:Ty),ts[i]?=some u→Rep cap σ u (cs.getD i undef) (ds.getD i .none)∧u.one=true
theorem mW.one {cap:Nat→Option CSig}{σ:Im}{t:Ty}{v:Value}{d:D}(h:Rep cap σ t v d)(ht:t.one=true):mW cap σ [t] [v] [d]:=
 ⟨rfl,rfl,fun i u hu=>by
   cases i with
   |zero=>simp at hu;subst hu;exact⟨h,ht⟩
   |succ i=>simp at hu⟩
theorem mW.append {cap:Nat→Option CSig}{σ:Im}{ts us:List Ty}{cs vs:List Value}{ds es:List D}(h:mW cap σ ts cs ds)(k:mW cap σ us vs es):mW cap σ (ts++us) (cs++vs) (ds++es):=by
 obtain⟨h1,h2,h3⟩:=h;obtain⟨k1,k2,k3⟩:=k;refine⟨by simp[h1,k1],by simp[h2,k2],fun i u hu=>?_⟩;by_cases hi:i<ts.length
 ·rw[j6 hi] at hu;have:=h3 i u hu;rw[aJ,aJ,j6 (by omega),j6 (by omega)];rw[aJ,aJ] at this;exact this
 ·rw[lC (by omega)] at hu;have:=k3 _ u hu;rw[aJ,aJ,lC (by omega),lC (by omega),h1,h2];rw[aJ,aJ] at this;exact this
def WX (ag:Bool)(ds:List D):D:=if ag then .agg ds else ds.getD 0 .none
theorem ajg (t:Ty):t.flat.length=t.size:=by cases t<;>rfl
theorem Rep.ofRow {cap:Nat→Option CSig}{σ:Im}{t:Ty}{cs:List Value}{ds:List D}(iK:t.rowT=true∨t.one=true)(h:mW cap σ t.flat cs ds):Rep cap σ t (Cx.rowOf t.rowT cs) (WX t.rowT ds):=by
 obtain⟨h1,h2,h3⟩:=h;cases t with
 |agg ts=>exact .agg ts cs ds h1 h2 (fun i u hu=>(h3 i u hu).1) (fun i u hu=>(h3 i u hu).2)
 |trm=>simp[Ty.rowT,Ty.one] at iK
 |_=>exact(h3 0 _ rfl).1
theorem arY {cap:Nat→Option CSig}{σ:Im}{t:Ty}{cs:List Value}{ds:List D}(iK:t.rowT=true∨t.one=true)(h:mW cap σ t.flat cs ds){j:Nat}{u:Value}(hj:(rowOf t.rowT cs).cells[j]?=some u):cs[j]?=some u:=by
 obtain⟨h1,h2,h3⟩:=h;cases t with
 |agg ts=>simpa [rowOf,Ty.rowT,Value.cells] using hj
 |trm=>simp[Ty.rowT,Ty.one] at iK
 |_=>
  have h4:=h3 0 _ rfl;have h5:=(h4.1.oneCell h4.2).1;simp only[rowOf,Ty.rowT,vI,if_false] at hj;rw[h5] at hj;cases j with
  |zero=>
   simp only[GL,LZ,aS] at hj
   match cs,h1 with
   |[c],_=>simpa using hj
  |succ j=>simp at hj
section
variable {H:Type} {enc:TypeId×Value→H} {P:Program} {w:World} {base:Nat} {held:Bool} {cap:Nat→Option CSig}
theorem afe {k:IntKind}{n:Int}(h:(Lit.int k n).wf=true):k.min≤n∧n≤k.max:=by
 simpa [Lit.wf] using h
theorem adC {n m:Nat}(ih:∀(t:TypeId) (cs:List Value) (x:DataW H×List MemPlace) (ty:Ty),DataW.trod enc P w base (fun _=>true) held n t cs=some x→w.noneFrozen x.2→gz P m t=some ty→∃ds,mW cap (kW w) ty.flat cs ds):
 ∀(fs:List Field) (off:Nat) (cs:List Value) (ts:List Ty),BE P (gz P m) fs off=some ts→cs.length=off+ts.length→
  (∀f,f∈fs→∃x,DataW.trod enc P w base (fun _=>true) held n f.type ((cs.drop f.offset).take (P.cellsOf f.type))=some x∧w.noneFrozen x.2)→∃ds,mW cap (kW w) ts (cs.drop off) ds
 |[],off,cs,ts,h,hl,_=>by
  simp only[BE,aS] at h;subst h;have:cs.drop off=[]:=by simp at hl ⊢;omega
  rw[this];exact⟨[],rfl,rfl,fun i u hu=>by simp at hu⟩
 |f::fs,off,cs,ts,h,hl,hx=>by
  simp only[BE,aq] at h;obtain⟨ft,hft,h⟩:=h;cases hb:(Nat.beq f.offset off&&Nat.beq (P.cellsOf f.type) ft.flat.length)<;>simp only[hb,cond_true,cond_false] at h
  ·cases h
  simp only[az] at h;obtain⟨us,hus,rfl⟩:=h;simp only[ao] at hb;have e1:=cU hb.1;have e2:=cU hb.2;obtain⟨x,oD,td⟩:=hx f (dB ..);rw[e1,e2] at oD;obtain⟨CZ,jf⟩:=ih _ _ _ _ oD td hft;simp only[kL] at hl;obtain⟨W8,mq⟩:=adC ih fs (off+ft.flat.length) cs us hus (by omega) fun g hg=>hx g (dy _ hg);refine⟨CZ++W8,?_⟩;have:=jf.append mq;rw[←List.drop_drop,L4] at this;exact this
theorem auZ:∀(n m:Nat) (t:TypeId) (cs:List Value) (x:DataW H×List MemPlace) (ty:Ty),DataW.trod enc P w base (fun _=>true) held n t cs=some x→w.noneFrozen x.2→gz P m t=some ty→∃ds,mW cap (kW w) ty.flat cs ds:=by
 intro n
 induction n with
 |zero=>intro m t cs x ty h;simp[DataW.trod] at h
 |succ n ih=>
  intro m t cs x ty h hz bh;cases m with
  |zero=>simp[gz] at bh
  |succ m=>
   simp only[gz] at bh;split at bh
   ·rename_i hu;cases bh;obtain⟨b,rfl,_⟩:=DataW.trod_bool hu h;exact⟨_,.one (.bool b) rfl⟩
   ·rename_i k hu;cases bh;obtain⟨z,rfl,_,hw⟩:=DataW.trod_int hu h;exact⟨_,.one (.int k z (afe hw).1 (afe hw).2) rfl⟩
   ·rename_i hu;cases bh;obtain⟨s,rfl,_,hs⟩:=DataW.trod_string hu h;exact⟨_,.one (.str s hs) rfl⟩
   ·rename_i e hu;have w6:∃(m':Nat) (te yd:Ty),gz P m' e=some te∧P.cellsOf e=te.flat.length∧1≤te.flat.length∧ty=.slice yd∧yd.unf=te:=by
     cases ht:th P e<;>simp only[ht,cond_true,cond_false] at bh
     ·simp only[aq] at bh;obtain⟨te,w6,bh⟩:=bh;cases hb:(Nat.beq (P.cellsOf e) te.flat.length&&Nat.ble 1 te.flat.length)<;>simp only[hb,cond_true,cond_false] at bh
      ·cases bh
      cases bh;simp only[ao] at hb;exact⟨m,te,te,w6,cU hb.1,jN hb.2,rfl,Ty.unf_ro (Sv w6)⟩
     ·cases bh;obtain⟨k1,k2⟩:=anJ ht 0;exact⟨2,.trmA,.trm,k1,k2,by decide,rfl,rfl⟩
    obtain⟨m',te,yd,w6,e1,e2,rfl,nj⟩:=w6;have iK:=Sv w6;rcases DataW.trod_slice hu h with⟨rfl,_⟩|⟨a,len,cp,elems,rest,n',iJ,rfl,Ju,hba,hl,hm,hlen,jx,uN,_⟩
    ·exact⟨_,.one (.nil yd) rfl⟩
    ·cases iJ;obtain⟨hrl,uK⟩:=uN rfl
     have kl:∀i,i<cp→∃ci y,w.cells? base (a.add (i*P.cellsOf e)) (P.cellsOf e)=some ci∧DataW.trod enc P w base (fun _=>true) held n e ci=some y∧y∈elems++rest:=by
      intro i hi
      have ew:∃y,(w.cells? base (a.add (i*P.cellsOf e)) (P.cellsOf e)).bind (DataW.trod enc P w base (fun _=>true) held n e)=some y∧y∈elems++rest:=by
           by_cases wL:i<len
           ·rw[jx i wL];exact⟨_,bA (by omega),iu _ (cS _)⟩
           ·have:=uK (i-len) (by omega);rw[show len+(i-len)=i by omega] at this;rw[this];exact⟨_,bA (by omega),iV _ (cS _)⟩
      obtain⟨y,hy,Pw⟩:=ew;rw[aq] at hy;obtain⟨ci,h1,h2⟩:=hy;exact⟨ci,y,h1,h2,Pw⟩
     by_cases DH:cp=0
     ·subst DH;have:len=0:=by omega
      subst this;exact⟨_,.one (.emp yd a) rfl⟩
     ·have Zl:a.spot=none:=by
           obtain⟨ci,y,h1,_⟩:=kl 0 (by omega);obtain⟨_,_,h3⟩:=World.cells?_some h1;have:=h3 0 (by omega);simp only[Nat.zero_mul,Addr.add,if_true] at this;unfold World.cell? at this;cases hs:a.spot with
           |none=>rfl
           |some s=>
            exfalso;have hl:ci.length=P.cellsOf e:=(World.cells?_some h1).2.1;split at this
            ·rw[hs] at this;simp at this;subst this;simp at hl;omega
            ·rw[eq_comm,List.getElem?_eq_none_iff] at this;omega
      obtain⟨k,o,s⟩:=a;simp only at Zl;subst Zl;have aO:∀i,∃p:List Value×List D,i<len→w.cells? base ((⟨k,o,none⟩:Addr).add (i*P.cellsOf e)) (P.cellsOf e)=some p.1∧mW cap (kW w) te.flat p.1 p.2:=by
           intro i;by_cases hi:i<len
           ·obtain⟨ci,y,h1,h2,Pw⟩:=kl i (by omega);obtain⟨ds,hr⟩:=ih m' _ _ _ _ h2 (fun b off hp=>hz b off (by rw[Ju];exact iV _ (j7.2 ⟨y,Pw,hp⟩))) w6;exact⟨(ci,ds),fun _=>⟨h1,hr⟩⟩
           ·exact⟨([],[]),fun h=>absurd h hi⟩
      obtain⟨f,hf⟩:=Classical.axiomOfChoice aO;have uF:(kW w).m k=some hG:=by
           obtain⟨ci,y,h1,_⟩:=kl 0 (by omega);obtain⟨_,h4,h5⟩:=World.cells?_some h1;have h6:=h5 0 (by omega);rw[bA (by omega)] at h6;simp only[Nat.zero_mul,Addr.add,if_true] at h6;exact ZB h6
      refine⟨_,.one (.slice yd k o len cp ((List.range len).map fun i=>WX te.rowT (f i).2) (fun i=>rowOf te.rowT (f i).1) (by simp) hl hm (fun i x hx=>?_) (fun i j u hi hj=>?_) (fun _=>uF)) rfl⟩
      ·rw[ct,az] at hx;obtain⟨i',df,rfl⟩:=hx;have af:i<len:=by have:=(fm.1 df).1;simpa using this
       rw[qK af] at df;cases df;rw[nj];exact Rep.ofRow iK (hf i af).2
      ·obtain⟨h1,h2⟩:=hf i hi;have dv:=arY iK h2 hj;obtain⟨_,h4,h5⟩:=World.cells?_some h1;have gr:j<P.cellsOf e:=by rw[←h4];exact(fm.1 dv).1
       have:=h5 j gr;rw[dv] at this;have bt:i*P.cellsOf e+j<(elems.length+rest.length)*P.cellsOf e:=by
           have h6:(i+1)*P.cellsOf e≤(elems.length+rest.length)*P.cellsOf e:=nM _ (by omega);rw[Nat.succ_mul] at h6;omega
       have uP:=hz k (o+(i*P.cellsOf e+j)) (by rw[Ju];exact iu _ (MemPlace.mem_row.2 ⟨_,bt,rfl⟩));rw[←yd.unf_size,nj,←ajg,←e1,ua];refine ZA ?_ (.inr uP);rw[←this]
       congr 1
       simp only[Addr.add];split<;>split<;>simp_all<;>omega
   ·rename_i fs hu;simp only[aq] at bh;obtain⟨ts,Pd,bh⟩:=bh;cases hb:Nat.beq (P.cellsOf t) ts.length<;>simp only[hb,cond_true,cond_false] at bh
    ·cases bh
    cases bh;obtain⟨xs,n',iJ,Ju,hl,xc,hf⟩:=DataW.trod_struct hu h;cases iJ
    have:=adC (ih m) fs.toList 0 cs ts Pd (by rw[hl,cU hb];omega) (fun f hm=>by
     obtain⟨i,hi⟩:=yw hm;have df:fs[i]?=some f:=by simpa using hi
     have h1:=hf i f df;have af:i<fs.size:=(gD.1 df).1;exact⟨_,h1.trans (bA (by omega)),fun b off hp=>hz b off (by rw[Ju];exact j7.2 ⟨_,cS (by omega),hp⟩)⟩)
    show ∃ds,mW cap (kW w) ts cs ds;simpa using this
   ·cases bh
theorem CD {base:Nat}{t:TypeId}{v:Value}(h:Cell.okWide P w .any base t v):v.cells=#[v]:=by
 cases v<;>first|rfl|(exfalso;simp only[Cell.okWide,Cell.ok] at h;revert h;cases P.underlying t with|none=>simp|some T=>cases T<;>simp)
theorem aga {base base':Nat}{m:Nat}{t:TypeId}{v:Value}{d:DataW H}{ps:List MemPlace}{ty:Ty}(av:Value.okWide P w .any base' t v)(h:DataW.Trod enc P w base (fun _=>true) held t v d ps)(hz:w.noneFrozen ps)(bh:gz P m t=some ty):∃d,Rep cap (kW w) ty v d:=by
 obtain⟨fuel,h⟩:=h;obtain⟨ds,hr⟩:=auZ (cap:=cap) fuel m t _ _ _ h hz bh;have bL:=Rep.ofRow (Sv bh) hr;cases m with
 |zero=>simp[gz] at bh
 |succ m=>
  suffices hs:rowOf ty.rowT v.cells.toList=v by rw[hs] at bL;exact⟨_,bL⟩
  simp only[gz] at bh;unfold Value.okWide at av;split at bh
  ·rename_i hu;cases bh;rw[hu] at av;simp only at av;rw[CD av];rfl
  ·rename_i hu;cases bh;rw[hu] at av;simp only at av;rw[CD av];rfl
  ·rename_i hu;cases bh;rw[hu] at av;simp only at av;rw[CD av];rfl
  ·rename_i e hu;cases ht:th P e<;>simp only[ht,cond_true,cond_false] at bh
   ·simp only[aq] at bh;obtain⟨te,_,bh⟩:=bh;cases hb:(Nat.beq (P.cellsOf e) te.flat.length&&Nat.ble 1 te.flat.length)<;>simp only[hb,cond_true,cond_false] at bh
    ·cases bh
    cases bh;rw[hu] at av;simp only at av;rw[CD av];rfl
   ·cases bh;rw[hu] at av;simp only at av;rw[CD av];rfl
  ·rename_i fs hu;simp only[aq] at bh;obtain⟨ts,_,bh⟩:=bh;cases hb:Nat.beq (P.cellsOf t) ts.length<;>simp only[hb,cond_true,cond_false] at bh
   ·cases bh
   cases bh;rw[hu] at av;obtain⟨cs,rfl,_⟩:=av;simp[rowOf,Ty.rowT,Value.cells]
  ·cases bh
def F8 (P:Program)(m:Nat):List TypeId→Option (List Ty)
 |[]=>some []
 |t::ts=>(gz P m t).bind fun x=>(F8 P m ts).map (x::·)
theorem Wh {base base' m:Nat}:∀(ts:List TypeId) (vs:List Value) (ds:List (DataW H)) (ps:List MemPlace) (fK:List Ty),DataW.TrodAll enc P w base (fun _=>true) held ts vs ds ps→w.noneFrozen ps→F8 P m ts=some fK→
 (∀(j:Nat) t v,ts[j]?=some t→vs[j]?=some v→Value.okWide P w .any base' t v)→
 ∃es:List D,vs.length=fK.length∧es.length=fK.length∧∀(i:Nat) (t:Ty),fK[i]?=some t→Rep cap (kW w) t (vs.getD i undef) (es.getD i .none)
 |[],vs,ds,ps,fK,h,hz,bh,_=>by
  simp only[F8,aS] at bh;subst bh;cases vs with
  |nil=>exact⟨[],rfl,rfl,fun i t h=>by simp at h⟩
  |cons=>cases ds<;>exact h.elim
 |t::ts,vs,ds,ps,fK,h,hz,bh,av=>by
  simp only[F8,aq,az] at bh;obtain⟨ty,ane,au2,anf,rfl⟩:=bh;cases vs with
  |nil=>cases ds<;>exact h.elim
  |cons v vs=>
   cases ds with
   |nil=>exact h.elim
   |cons d ds=>
    obtain⟨p,q,h1,h2,Zc⟩:=h;obtain⟨e,he⟩:=aga (cap:=cap) (av 0 t v rfl rfl) h1 (fun b off hp=>hz b off (by rw[Zc];exact iu _ hp)) ane;obtain⟨es,k1,k2,k3⟩:=Wh ts vs ds q au2 h2 (fun b off hp=>hz b off (by rw[Zc];exact iV _ hp)) anf (fun j t' v' hj hv=>av (j+1) t' v' hj hv);refine⟨e::es,by simp[k1],by simp[k2],fun i u hu=>?_⟩;cases i with
    |zero=>simp at hu;subst hu;exact he
    |succ i=>simpa using k3 i u (by simpa using hu)
end
mutual
inductive DTy:Ty→D→Prop where
 |int (k:IntKind) (n:Int) (h1:k.min≤n) (h2:n≤k.max):DTy (.int k) (.v (.int k n))
 |bool (b:Bool):DTy .bool (.v (.bool b))
 |str (s:ByteArray) (h:s.size≤maxLen):DTy .str (.v (.string s))
 |slice (e:Ty) (xs:List D) (hm:xs.length≤maxLen) (h:∀x,x∈xs→DTy e.unf x):DTy (.slice e) (.list xs)
 |agg (ts:List Ty) (ds:List D) (h:DTys ts ds):DTy (.agg ts) (.agg ds)
 |other (t:Ty) (d:D) (h:match t with|.int _|.bool|.str|.slice _|.agg _=>False|_=>True):DTy t d
inductive DTys:List Ty→List D→Prop where
 |nil:DTys [] []
 |cons {t:Ty} {d:D} {ts:List Ty} {ds:List D} (h:DTy t d) (hs:DTys ts ds):DTys (t::ts) (d::ds)
end
theorem DTys.of_get:∀{ts:List Ty} {ds:List D},ds.length=ts.length→(∀(i:Nat) (t:Ty),ts[i]?=some t→DTy t (ds.getD i .none))→DTys ts ds
 |[],[],_,_=>.nil
 |t::ts,d::ds,hl,h=>.cons (h 0 t rfl) (DTys.of_get (by simpa using hl) fun i u hu=>by simpa using h (i+1) u (by simpa using hu))
 |[],_::_,hl,_=>by simp at hl
 |_::_,[],hl,_=>by simp at hl
theorem Rep.dty {cap:Nat→Option CSig}{σ:Im}{t:Ty}{v:Value}{d:D}(h:Rep cap σ t v d):DTy t d:=by
 induction h with
 |int k n h1 h2=>exact .int k n h1 h2
 |bool b=>exact .bool b
 |str s h=>exact .str s h
 |agg ts vs ds h1 h2 _ ho ih=>exact .agg ts ds (.of_get h2 ih)
 |nil e=>exact .slice e [] (by decide) (fun x hx=>by cases hx)
 |emp e a=>exact .slice e [] (by decide) (fun x hx=>by cases hx)
 |slice e k o n c xs vs hn hc hm _ hv _ ih=>
  refine .slice e xs (by omega) fun x hx=>?_;obtain⟨i,hi⟩:=yw hx;exact ih i x hi
 |_=>exact .other _ _ trivial
theorem anS {H:Type}{enc:TypeId×Value→H}{C:Ctx}{f:Nat}{fn:Func}{sg:Sig}{spec:ChangeSpec}{tb:TypeId}{apart fresh handsOn again:Bool}(hl:laidOutB C.P=true)
 (qh:F8 C.P 12 fn.params.toList=some sg.args) (amI:fn.params.toList.all (fun t=>C.P.readableRec t&&decide (t<C.P.types.size))=true) (Pj:spec.vars=[])
 (amZ:∀ds:List (DataW H),ds.length=fn.params.size→(spec.fn H ds).results=[.lit (.bool true)]∧(spec.fn H ds).args=ds∧(spec.fn H ds).vars=[])
 (dG:fn.resultTypes=#[tb]) (Zq:C.P.underlying tb=some .bool) (kU:sg.mode=.dat) (uL:sg.res=.bool)
 (Ow:∀ds,DTys sg.args ds→gh C f sg ds (.v (.bool true)))
 (W:World) (ri:CtxOK C (kW W)) (base:Nat) (args:Array Value) (ds gs:List (DataW H)) (before:List MemPlace)
 (cn:∀(j:Nat) t v,fn.params[j]?=some t→args[j]?=some v→Value.okWide C.P W .any base t v)
 (hW:DataW.Whole enc C.P fn.params.toList spec.vars apart W args.toList ds gs before):
 Calls C.P f args W fun e W'=>∃v,e=.returned v∧spec.post enc C.P fn apart fresh handsOn again W args v W':=by
 have II:=hW;have af:∀p∈before,p.block<W.heap.size:=fun p hp=>II.lt p hp;obtain⟨p,q,hA,hV,rfl,Ak,bn⟩:=hW;rw[Pj] at hV;obtain⟨rfl,rfl⟩:=trodVars_none hV;obtain⟨es,k1,k2,k3⟩:=Wh (cap:=C.cap) (base':=base) fn.params.toList args.toList ds p sg.args hA (fun b off hp=>Ak b off (by simpa using hp)) qh (fun j t v hj hv=>cn j t v (by simpa using hj) (by simpa using hv));have bh:DTys sg.args es:=.of_get k2 fun i t ht=>(k3 i t ht).dty
 have hlen:∀(ts:List TypeId) (vs:List Value) (ds:List (DataW H)) (ps:List MemPlace),DataW.TrodAll enc C.P W 0 (fun _=>true) true ts vs ds ps→ds.length=ts.length:=by
  intro ts
  induction ts with
  |nil=>intro vs ds ps h;cases vs<;>cases ds<;>first|rfl|exact h.elim
  |cons t ts ih=>
   intro vs ds ps h;cases vs with
   |nil=>cases ds<;>exact h.elim
   |cons v vs=>cases ds with
    |nil=>exact h.elim
    |cons d ds=>obtain⟨p,q,_,h2,_⟩:=h;simp[ih vs ds q h2]
 have Oa:ds.length=fn.params.size:=by simpa using hlen _ _ _ _ hA
 obtain⟨s1,s2,s3⟩:=amZ (ds++[]) (by simpa using Oa);refine(Ow es bh (kW W) W args (anC W) ri ⟨k1,k2,k3⟩).mono fun e W' hh=>?_;obtain⟨v,σ',rfl,_,_,hb,_,_,hr⟩:=hh;refine⟨v,rfl,?_⟩;simp only[l8,kU,uL] at hr;obtain⟨b,rfl,wF⟩:=hr.bool_inv;cases wF
 have stays:∀(sp:Nat→Bool) (ts:List TypeId) (vs:List Value) (ds:List (DataW H)) (ps:List MemPlace),ts.all (fun t=>C.P.readableRec t&&decide (t<C.P.types.size))=true→(∀x∈ps,x.block<W.heap.size)→(∀x∈ps,sp x.block=true)→
  DataW.TrodAll enc C.P W 0 (fun _=>true) true ts vs ds ps→DataW.TrodAll enc C.P W' 0 sp true ts vs ds ps:=by
  intro sp ts
  induction ts with
  |nil=>intro vs ds ps _ _ _ h;cases vs<;>cases ds<;>first|exact h|exact h.elim
  |cons t ts ih=>
   intro vs ds ps ha sV uN h;cases vs with
   |nil=>cases ds<;>exact h.elim
   |cons v vs=>cases ds with
    |nil=>exact h.elim
    |cons d ds=>
     obtain⟨p,q,h1,h2,rfl⟩:=h;simp only[qJ,ao,decide_eq_true_eq] at ha
     exact⟨p,q,WideElems.Trod_stays hl ha.1.1 ha.1.2 h1 (fun x hx=>hb.same (sV x (iu _ hx))) (fun x hx=>uN x (iu _ hx)),
      ih vs ds q (by simpa using ha.2) (fun x hx=>sV x (iV _ hx)) (fun x hx=>uN x (iV _ hx)) h2,rfl⟩
 have YL:∀x∈p,x.block<W.heap.size:=fun x hx=>af x (iu _ hx);have dD:=fun sp (h:∀x∈p,sp x.block=true)=>stays sp _ _ _ _ amI YL h hA;have uK:∀(b:Nat) (sp:Nat→Bool) (hd:Bool),DataW.TrodAll enc C.P W' b sp hd fn.resultTypes.toList ((Value.bool true).resultList fn.resultTypes.size) [.lit (.bool true)] []:=by
  intro b sp hd;rw[dG];exact trodAll_mk1 (shut_bool Zq true)
 refine⟨ds,[],p++[],[],p,[],II,?_,?_,?_,World.keptBut_mono (fun x hx=>⟨hx,?_⟩) (hb.frame (·∈p++[])),fun _=>?_⟩
 ·rw[s1];exact uK _ _ _
 ·rw[s2];simpa using dD _ (fun x hx=>by simpa using YL x hx)
 ·rw[s3,Pj];rfl
 ·simpa using hx
 ·refine⟨ok_one dG rfl (okWide_bool_mk Zq true),_,[],([]++p)++[],⟨[]++p,[],trodAll_append (dD _ (fun _ _=>rfl)) (uK _ _ _),by rw[Pj];exact rfl,rfl,?_,?_⟩,?_⟩
  ·intro b off hp;have bt:MemPlace.cell b off∈p++[]:=by simpa using hp
   rw[hb.frozen (af _ bt)];exact Ak b off bt
  ·intro ha;simpa using bn ha
  ·intro x hx _;simpa using hx
end Cx
namespace Cx
open Go Go.RowKit
abbrev cC:=Nat→aL
def ak (T:cC)(f:Nat)(ds:List D)(d:D):Prop:=∃n0,∀n,n0≤n→T n f ds=some d
def yq (T:cC)(l:List PI)(ρ:Env)(Q:Env→Prop):Prop:=∃ρ',Q ρ'∧∃n0,∀n,n0≤n→PI.runs (T n) l ρ=some ρ'
def aP (T:cC)(c:PC)(ρ:Env)(Q:Out→Prop):Prop:=∃x,Q x∧∃n0,∀n,n0≤n→c.ev (T n) n ρ=some x
theorem aP.mono {T:cC}{c:PC}{ρ:Env}{Q Q':Out→Prop}(h:aP T c ρ Q)(hq:∀x,Q x→Q' x):aP T c ρ Q':=by
 obtain⟨x,hx,n0,hn⟩:=h;exact⟨x,hq x hx,n0,hn⟩
theorem yq.nil {T:cC}{ρ:Env}{Q:Env→Prop}(h:Q ρ):yq T [] ρ Q:=⟨ρ,h,0,fun _ _=>rfl⟩
theorem yq.cons {T:cC}{p:PI}{l:List PI}{ρ ρ1:Env}{Q:Env→Prop}{n0:Nat}(h:∀n,n0≤n→p.run (T n) ρ=some ρ1)(k:yq T l ρ1 Q):yq T (p::l) ρ Q:=by
 obtain⟨ρ',hQ,n1,h1⟩:=k;exact⟨ρ',hQ,max n0 n1,fun n hn=>by simp[PI.runs,h n (by omega),h1 n (by omega)]⟩
def ij (T:cC):List PI→Env→(Env→Prop)→Prop
 |[],ρ,Q=>Q ρ
 |.setR t e::l,ρ,Q=>ij T l (ρ.setR t (e.ev ρ)) Q
 |.setO t e::l,ρ,Q=>ij T l (ρ.setO t (e.ev ρ)) Q
 |.chk e::l,ρ,Q=>(e.ev ρ).b=true∧ij T l ρ Q
 |.call gs dst f args::l,ρ,Q=>if holds gs ρ=true then ∃d,ak T f (PE.evs ρ args) d∧ij T l (ρ.setR dst d) Q else ij T l ρ Q
 |.callc gs dst e args::l,ρ,Q=>if holds gs ρ=true then ∃f caps d,e.ev ρ=.clo f caps∧ak T f (PE.evs ρ args++caps) d∧ij T l (ρ.setR dst d) Q else ij T l ρ Q
 |.mcall j f args::l,ρ,Q=>∃d,ak T f (PE.evs ρ args) d∧ij T l (ρ.setO j d) Q
theorem tN {T:cC}:∀{l:List PI} {ρ:Env} {Q:Env→Prop},ij T l ρ Q→yq T l ρ Q
 |[],ρ,Q,h=>.nil h
 |.setR t e::l,ρ,Q,h=>.cons (n0:=0) (fun _ _=>rfl) (tN h)
 |.setO t e::l,ρ,Q,h=>.cons (n0:=0) (fun _ _=>rfl) (tN h)
 |.chk e::l,ρ,Q,h=>.cons (n0:=0) (fun n _=>by simp[PI.run,h.1]) (tN h.2)
 |.call gs dst f args::l,ρ,Q,h=>by
  unfold ij at h;split at h
  ·rename_i hg;obtain⟨d,⟨n0,hn⟩,h⟩:=h;exact .cons (n0:=n0) (fun n hle=>by simp[PI.run,hg,hn n hle]) (tN h)
  ·rename_i hg;exact .cons (n0:=0) (fun n hle=>by simp[PI.run,hg]) (tN h)
 |.callc gs dst e args::l,ρ,Q,h=>by
  unfold ij at h;split at h
  ·rename_i hg;obtain⟨f,caps,d,he,⟨n0,hn⟩,h⟩:=h;exact .cons (n0:=n0) (fun n hle=>by simp[PI.run,hg,he,hn n hle]) (tN h)
  ·rename_i hg;exact .cons (n0:=0) (fun n hle=>by simp[PI.run,hg]) (tN h)
 |.mcall j f args::l,ρ,Q,h=>by
  obtain⟨d,⟨n0,hn⟩,h⟩:=h;exact .cons (n0:=n0) (fun n hle=>by simp[PI.run,hn n hle]) (tN h)
def kZ (ρ:Env)(lr lo:List Nat)(Q:Out→Prop):Out→Prop
 |.next ρ'=>Q (.next (ρ.join lr lo ρ'))
 |x=>Q x
def me (ρ:Env)(id:Nat)(lr lo:List Nat)(Q:Out→Prop):Out→Prop
 |.next ρ'=>Q (.next (ρ.join lr lo ρ'))
 |.exit bR ρ'=>if bR=id then Q (.next (ρ.join lr lo ρ')) else Q (.exit bR ρ')
 |.ret d=>Q (.ret d)
def hZ (K:Env→Prop)(Q:Out→Prop):Out→Prop
 |.next ρ'=>K ρ'
 |.exit id ρ'=>Q (.exit id ρ')
 |.ret d=>Q (.ret d)
theorem aP.is {T:cC}{l:List PI}{ρ:Env}{Q:Out→Prop}(h:ij T l ρ fun ρ'=>Q (.next ρ')):aP T (.is l) ρ Q:=by
 obtain⟨ρ',hQ,n0,hn⟩:=tN h;exact⟨.next ρ',hQ,n0,fun n hle=>by simp[PC.ev,hn n hle]⟩
theorem aP.skip {T:cC}{ρ:Env}{Q:Out→Prop}(h:Q (.next ρ)):aP T .skip ρ Q:=⟨_,h,0,fun _ _=>rfl⟩
theorem aP.exit {T:cC}{ρ:Env}{id:Nat}{Q:Out→Prop}(h:Q (.exit id ρ)):aP T (.exit id) ρ Q:=⟨_,h,0,fun _ _=>rfl⟩
theorem aP.ret {T:cC}{ρ:Env}{e:PE}{Q:Out→Prop}(h:Q (.ret (e.ev ρ))):aP T (.ret e) ρ Q:=⟨_,h,0,fun _ _=>rfl⟩
theorem aP.seq {T:cC}{a b:PC}{ρ:Env}{Q:Out→Prop}(h:aP T a ρ (hZ (fun ρ'=>aP T b ρ' Q) Q)):aP T (.seq a b) ρ Q:=by
 obtain⟨x,hx,n0,hn⟩:=h;cases x with
 |next ρ'=>
  obtain⟨y,hy,n1,h1⟩:=hx;exact⟨y,hy,max n0 n1,fun n hle=>by simp[PC.ev,hn n (by omega),h1 n (by omega)]⟩
 |exit id ρ'=>exact⟨_,hx,n0,fun n hle=>by simp[PC.ev,hn n hle]⟩
 |ret d=>exact⟨_,hx,n0,fun n hle=>by simp[PC.ev,hn n hle]⟩
theorem aP.ite {T:cC}{c:PE}{lr lo:List Nat}{a b:PC}{ρ:Env}{Q:Out→Prop}(h:if(c.ev ρ).b=true then aP T a ρ (kZ ρ lr lo Q) else aP T b ρ (kZ ρ lr lo Q)):aP T (.ite c lr lo a b) ρ Q:=by
 split at h
 all_goals
  rename_i hc;obtain⟨x,hx,n0,hn⟩:=h;cases x with
  |next ρ'=>exact⟨_,hx,n0,fun n hle=>by simp[PC.ev,hc,hn n hle]⟩
  |exit id ρ'=>exact⟨_,hx,n0,fun n hle=>by simp[PC.ev,hc,hn n hle]⟩
  |ret d=>exact⟨_,hx,n0,fun n hle=>by simp[PC.ev,hc,hn n hle]⟩
theorem aP.block {T:cC}{id:Nat}{lr lo:List Nat}{a:PC}{ρ:Env}{Q:Out→Prop}(h:aP T a ρ (me ρ id lr lo Q)):aP T (.block id lr lo a) ρ Q:=by
 obtain⟨x,hx,n0,hn⟩:=h;cases x with
 |next ρ'=>exact⟨_,hx,n0,fun n hle=>by simp[PC.ev,hn n hle]⟩
 |exit bR ρ'=>
  simp only[me] at hx;split at hx
  ·rename_i e;subst e;exact⟨_,hx,n0,fun n hle=>by simp[PC.ev,hn n hle]⟩
  ·rename_i e;exact⟨_,hx,n0,fun n hle=>by simp[PC.ev,hn n hle,eH e]⟩
 |ret d=>exact⟨_,hx,n0,fun n hle=>by simp[PC.ev,hn n hle]⟩
theorem aP.loop {T:cC}{lr lo:List Nat}{a:PC}{ρ:Env}{Q:Out→Prop}{α:Type}(inv:α→List D→List D→Prop)(uY:α→Nat)(s0:α)(h0:inv s0 (lr.map ρ.r) (lo.map ρ.o))
 (step:∀s vr vo,inv s vr vo→aP T a (ρ.put lr vr lo vo) (hZ (fun ρ'=>∃s',uY s'<uY s∧inv s' (lr.map ρ'.r) (lo.map ρ'.o)) Q)):aP T (.loop lr lo a) ρ Q:=by
 have key:∀(m:Nat) (s:α) (vr vo:List D),uY s≤m→inv s vr vo→∃x,Q x∧∃n0,∀n k,n0≤n→n0≤k→iO (a.ev (T n) n) ρ lr lo k vr vo=some x:=by
  intro m
  induction m with
  |zero=>
   intro s vr vo hm hi;obtain⟨x,hx,n0,hn⟩:=step s vr vo hi;cases x with
   |next ρ'=>obtain⟨s',af,_⟩:=hx;omega
   |exit id ρ'=>
    refine⟨_,hx,n0+1,fun n k hle hk=>?_⟩;obtain⟨k',rfl⟩:∃k',k=k'+1:=⟨k-1,by omega⟩
    simp[iO,hn n (by omega)]
   |ret d=>
    refine⟨_,hx,n0+1,fun n k hle hk=>?_⟩;obtain⟨k',rfl⟩:∃k',k=k'+1:=⟨k-1,by omega⟩
    simp[iO,hn n (by omega)]
  |succ m ih=>
   intro s vr vo hm hi;obtain⟨x,hx,n0,hn⟩:=step s vr vo hi;cases x with
   |next ρ'=>
    obtain⟨s',af,df⟩:=hx;obtain⟨y,hy,n1,h1⟩:=ih s' _ _ (by omega) df;refine⟨y,hy,max n0 n1+1,fun n k hle hk=>?_⟩;obtain⟨k',rfl⟩:∃k',k=k'+1:=⟨k-1,by omega⟩
    simp[iO,hn n (by omega),h1 n k' (by omega) (by omega)]
   |exit id ρ'=>
    refine⟨_,hx,n0+1,fun n k hle hk=>?_⟩;obtain⟨k',rfl⟩:∃k',k=k'+1:=⟨k-1,by omega⟩
    simp[iO,hn n (by omega)]
   |ret d=>
    refine⟨_,hx,n0+1,fun n k hle hk=>?_⟩;obtain⟨k',rfl⟩:∃k',k=k'+1:=⟨k-1,by omega⟩
    simp[iO,hn n (by omega)]
 obtain⟨x,hx,n0,hn⟩:=key (uY s0) s0 _ _ (bf _) h0;exact⟨x,hx,n0,fun n hle=>by simp only[PC.ev];exact hn n n hle hle⟩
def uq (ρ:Env)(lo:List Nat)(rt:Option PE)(K:List D→Prop)(Q:Out→Prop):Out→Prop
 |.next ρ'=>K (lo.map ρ'.o)
 |.exit id ρ'=>if id=cO then ∃e,rt=some e∧Q (.ret (e.ev (ρ.put [] [] lo (lo.map ρ'.o)))) else Q (.exit id (ρ.put [] [] lo (lo.map ρ'.o)))
 |.ret _=>False
theorem aP.each {T:cC}{e:PE}{ps lo:List Nat}{rt:Option PE}{a:PC}{ρ:Env}{Q:Out→Prop}(xs:List D)(he:(e.ev ρ).l=xs)(inv:Nat→List D→Prop)(h0:inv 0 (lo.map ρ.o))
 (step:∀k x vo,xs[k]?=some x→inv k vo→aP T a (ρ.put ps (partsOf ps x) lo vo) (uq ρ lo rt (inv (k+1)) Q)) (done:∀vo,inv xs.length vo→Q (.next (ρ.put [] [] lo vo))):aP T (.each e ps lo rt a) ρ Q:=by
 have key:∀(r k:Nat) (vo:List D),k+r=xs.length→inv k vo→∃x,Q x∧∃n0,∀n,n0≤n→iY (a.ev (T n) n) ρ ps lo rt (xs.drop k) vo=some x:=by
  intro r
  induction r with
  |zero=>
   intro k vo hk hi;have:xs.drop k=[]:=by rw[VO];omega
   obtain rfl:k=xs.length:=by omega
   exact⟨_,done vo hi,0,fun n _=>by rw[this];rfl⟩
  |succ r ih=>
   intro k vo hk hi;have af:k<xs.length:=by omega
   rw[afF af];obtain⟨y,hy,n0,hn⟩:=step k xs[k] vo (bA af) hi;cases y with
   |next ρ'=>
    obtain⟨z,hz,n1,h1⟩:=ih (k+1) _ (by omega) hy;exact⟨z,hz,max n0 n1,fun n hle=>by simp only[iY,hn n (by omega)];exact h1 n (by omega)⟩
   |exit id ρ'=>
    simp only[uq] at hy;split at hy
    ·rename_i cE;obtain⟨e,h1,h2⟩:=hy;exact⟨_,h2,n0,fun n hle=>by subst cE;simp[iY,hn n hle,h1]⟩
    ·rename_i cE;exact⟨_,hy,n0,fun n hle=>by simp[iY,hn n hle,eH cE]⟩
   |ret d=>exact hy.elim
 obtain⟨x,hx,n0,hn⟩:=key xs.length 0 _ (by omega) h0;exact⟨x,hx,n0,fun n hle=>by simp only[PC.ev,he];exact hn n hle⟩
theorem acw {α:Type}:∀(l:List α),∃L:List (List α),∀ys,ys∈L↔ys.Perm l
 |[]=>⟨[[]],fun ys=>by simp⟩
 |x::l=>by
  obtain⟨L,hL⟩:=acw l;refine⟨L.flatMap fun ys=>(List.range (ys.length+1)).map fun i=>ys.take i++x::ys.drop i,fun zs=>?_⟩;simp only[j7,ei,bZ];constructor
  ·rintro⟨ys,hy,i,_,rfl⟩;have h1:=(hL ys).1 hy;refine(List.perm_middle).trans (.cons x ?_);rw[L4];exact h1
  ·intro h;have hx:x∈zs:=h.symm.subset (dB ..);obtain⟨s,t,rfl⟩:=VM hx;refine⟨s++t,(hL _).2 ?_,s.length,by simp;omega,by simp⟩;exact(List.perm_cons x).1 ((List.perm_middle).symm.trans h)
theorem aP.meach {T:cC}{J:Nat}{ps de lo:List Nat}{a:PC}{ρ:Env}{Q:Out→Prop}(es:List (D×D))(he:ρ.o J=.tup [.list [],.map es])(inv:List D→List D→Prop)(h0:inv [] (lo.map ρ.o))
 (step:∀done x rest vo,(done++x::rest).Perm (iQ (.map es))→inv done vo→aP T a ((ρ.put ps (de.map x.tget) lo vo).setO J (.tup [.list (done++[x]),.map es])) (fun y=>∃ρ',y=.next ρ'∧inv (done++[x]) (lo.map ρ'.o)))
 (last:∃vo,(∀done,done.Perm (iQ (.map es))→∀rZ,inv done rZ→rZ=vo)∧Q (.next (ρ.put [] [] lo vo))):aP T (.meach J ps de lo a) ρ Q:=by
 obtain⟨vo,hl,hQ⟩:=last;have key:∀(xs done:List D) (vs:List D),(done++xs).Perm (iQ (.map es))→inv done vs→∃n0,∀n,n0≤n→oO (a.ev (T n) n) ρ J (.map es) ps de lo xs done vs=some vo:=by
  intro xs
  induction xs with
  |nil=>intro done vs hp hi;exact⟨0,fun n _=>by rw[hl done (by simpa using hp) vs hi];rfl⟩
  |cons x xs ih=>
   intro done vs hp hi;obtain⟨y,⟨ρ',rfl,df⟩,n0,hn⟩:=step done x xs vs hp hi;obtain⟨n1,h1⟩:=ih (done++[x]) _ (by simpa using hp) df;exact⟨max n0 n1,fun n hle=>by simp only[oO,hn n (by omega)];exact h1 n (by omega)⟩
 have m5:∀(L:List (List D)),(∀ys,ys∈L→ys.Perm (iQ (.map es)))→∃n0,∀n,n0≤n→∀ys,ys∈L→oO (a.ev (T n) n) ρ J (.map es) ps de lo ys [] (lo.map ρ.o)=some vo:=by
  intro L
  induction L with
  |nil=>intro _;exact⟨0,fun n _ ys hy=>by cases hy⟩
  |cons y L ih=>
   intro hL;obtain⟨n0,gp⟩:=ih fun ys hy=>hL ys (dy _ hy);obtain⟨n1,h1⟩:=key y [] _ (by simpa using hL y (dB ..)) h0;refine⟨max n0 n1,fun n hle ys hy=>?_⟩;rcases cT.1 hy with e|hy
   ·subst e;exact h1 n (by omega)
   ·exact gp n (by omega) ys hy
 obtain⟨L,hL⟩:=acw (iQ (.map es));obtain⟨n0,hn⟩:=m5 L fun ys hy=>(hL ys).1 hy;refine⟨_,hQ,n0,fun n hle=>?_⟩;simp only[PC.ev,Bb];refine⟨vo,⟨by rw[he];rfl,fun ys hy=>?_⟩,rfl⟩;rw[he] at hy ⊢;exact hn n hle ys ((hL ys).2 hy)
theorem bounded {Q:Nat→Nat→Prop}:∀(L:Nat),(∀m,m≤L→∃n0,∀n,n0≤n→Q m n)→∃n0,∀n,n0≤n→∀m,m≤L→Q m n
 |0,h=>by
  obtain⟨n0,hn⟩:=h 0 (bf _)
  exact⟨n0,fun n hle m hm=>by obtain rfl:m=0:=by omega
                              exact hn n hle⟩
 |L+1,h=>by
  obtain⟨n0,hn⟩:=bounded L fun m hm=>h m (by omega);obtain⟨n1,h1⟩:=h (L+1) (bf _);refine⟨max n0 n1,fun n hle m hm=>?_⟩;by_cases e:m=L+1
  ·subst e;exact h1 n (by omega)
  ·exact hn n (by omega) m (by omega)
theorem ak.of_pc {tab:Nat→Option PC}{ext:Nat→Option (aL→List D→Option D)}{f:Nat}{pc:PC}{ds:List D}{d:D}(hx:ext f=none)(ht:tab f=some pc)(h:aP (ej tab ext) pc (lE ds) (fun x=>x=.ret d)):ak (ej tab ext) f ds d:=by
 obtain⟨x,rfl,n0,hn⟩:=h;refine⟨n0+1,fun n hle=>?_⟩;obtain⟨k,rfl⟩:∃k,n=k+1:=⟨n-1,by omega⟩
 simp[ej,hx,ht,hn k (by omega)]
theorem ak.of_ext {tab:Nat→Option PC}{ext:Nat→Option (aL→List D→Option D)}{f:Nat}{g:aL→List D→Option D}{ds:List D}{d:D}(hx:ext f=some g)(h:∃n0,∀n,n0≤n→g (ej tab ext n) ds=some d):ak (ej tab ext) f ds d:=by
 obtain⟨n0,hn⟩:=h;refine⟨n0+1,fun n hle=>?_⟩;obtain⟨k,rfl⟩:∃k,n=k+1:=⟨n-1,by omega⟩
 simp[ej,hx,hn k (by omega)]
def Gz (T:cC)(xs:List D)(m:Nat):cC:=fun n=>yldΦ (T n) xs m
theorem ak.yld {T:cC}{xs:List D}{m f:Nat}{ds:List D}{d:D}(h:ak T f ds d)(hf:f≠mR):ak (Gz T xs m) f ds d:=by
 obtain⟨n0,hn⟩:=h;exact⟨n0,fun n hle=>by simp[Gz,yldΦ,hf,hn n hle]⟩
theorem ak.answer {T:cC}{xs l:List D}{m i:Nat}(hl:l=xs.take (i+1))(hi:i<xs.length)(hm:i≤m):ak (Gz T xs m) mR [.list l] (.v (.bool (decide (i<m)))):=by
 subst hl;refine⟨0,fun n _=>?_⟩;have h1:(xs.take (i+1)).length=i+1:=by rw[dW];omega
 simp only[Gz,yldΦ,if_true,h1];rw[if_pos ⟨by omega,by omega,trivial⟩];rfl
theorem ak.of_it {tab:Nat→Option PC}{ext:Nat→Option (aL→List D→Option D)}{f:Nat}{pc:PC}{J k:Nat}{spec:List D→List D}{ds:List D}(hx:ext f=some (Ez pc J k spec))(hk:∀x,x∈spec ds→∃ds',x=.tup ds'∧ds'.length=k)
 (h:∀m,m≤(spec ds).length→aP (Gz (ej tab ext) (spec ds) m) pc (zN J ds) (fun x=>x=.ret (.list ((spec ds).take (m+1))))):ak (ej tab ext) f ds (.list (spec ds)):=by
 refine ak.of_ext hx ?_
 obtain⟨n0,hn⟩:=bounded (Q:=fun m n=>pc.ev (yldΦ (ej tab ext n) (spec ds) m) n (zN J ds)=some (.ret (.list ((spec ds).take (m+1))))) (spec ds).length (fun m hm=>by
  obtain⟨x,rfl,n0,hn⟩:=h m hm;exact⟨n0,hn⟩)
 refine⟨n0,fun n hle=>?_⟩;unfold Ez;rw[if_pos];exact⟨fun m hm=>⟨n,hn n hle m hm⟩,hk⟩
theorem ak.det {T:cC}{f:Nat}{ds:List D}{d d':D}(h:ak T f ds d)(k:ak T f ds d'):d=d':=by
 obtain⟨n0,hn⟩:=h;obtain⟨n1,h1⟩:=k;have:=(hn (max n0 n1) (by omega)).symm.trans (h1 (max n0 n1) (by omega));exact uc this
theorem ak.fnOK {C:Ctx}{tab:Nat→Option PC}{ext:Nat→Option (aL→List D→Option D)}(h:TabOK C tab ext){f:Nat}{s:Sig}{ds:List D}{d:D}(hs:C.sig f=some s)(hr:ak (ej tab ext) f ds d)(hm:oG s.mode=false:=by rfl):gh C f s ds d:=by
 obtain⟨n0,hn⟩:=hr;exact((V1 h n0).1 f ds d (hn n0 (bf _)) s hs).1 hm
def Le (Φ Ψ:aL):Prop:=∀f ds d,Φ f ds=some d→Ψ f ds=some d
theorem Env.setR_r (ρ:Env)(t u:Nat)(d:D):(ρ.setR t d).r u=if u=t then d else ρ.r u:=by simp only[Env.setR,fj]
theorem Env.setO_o (ρ:Env)(t u:Nat)(d:D):(ρ.setO t d).o u=if u=t then d else ρ.o u:=by simp only[Env.setO,fj]
theorem Env.join_r (ρ ρ':Env)(lr lo:List Nat)(u:Nat):(ρ.join lr lo ρ').r u=if u∈lr then ρ'.r u else ρ.r u:=by simp only[Env.join,Env.put,tB]
theorem Env.join_o (ρ ρ':Env)(lr lo:List Nat)(u:Nat):(ρ.join lr lo ρ').o u=if u∈lo then ρ'.o u else ρ.o u:=by simp only[Env.join,Env.put,tB]
theorem Ki (f:Nat→D)(i:Nat)(is:List Nat)(x:D)(xs:List D)(u:Nat):putL f (i::is) (x::xs) u=if u=i then x else putL f is xs u:=by simp only[putL,fj]
theorem Kj (f:Nat→D)(xs:List D)(u:Nat):putL f [] xs u=f u:=by cases xs<;>rfl
theorem amp (g:Nat×Bool)(gs:List (Nat×Bool))(ρ:Env):holds (g::gs) ρ=((ρ.r g.1).b==g.2&&holds gs ρ):=rfl
theorem D.tget_tup (x:List D)(i:Nat):(D.tup x).tget i=x.getD i .none:=rfl
theorem D.c_agg (x:List D)(i:Nat):(D.agg x).c i=x.getD i .none:=rfl
end Cx
