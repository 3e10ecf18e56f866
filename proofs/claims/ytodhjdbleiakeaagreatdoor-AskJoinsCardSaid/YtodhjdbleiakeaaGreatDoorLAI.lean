/-
  Shared texts of this claim.
-/
import Derived.Test.YtodhjdbleiakeaaGreatDoorLAH
import Derived.Below
import Derived.ChangeSame
import Derived.WalkKit
import Derived.ProofKit
import Derived.OpenShut
import Derived.Carry
import Derived.JoinedCond
set_option linter.unusedSimpArgs false
set_option linter.unusedVariables false
namespace Cx
open Go Go.RowKit
def Ue (m:Nat)(s:Sig):Snap:=⟨s.args.map .dat++List.replicate (m-s.args.length) .none,[]⟩
def iQ (ds:List D):Env:=⟨fun t=>ds.getD t .none,fun _=>.none⟩
def qd (C:Ctx)(fn:Func)(s:Sig)(ids:List Nat)(S0:Snap):Option PC:=
 match fn.body with
 |some c=>
  (comp C fn s fn.ntmps ids (H9 C fn.ntmps ids) false c S0).bind fun r=>
    match r.out with
    |none=>some r.pc
    |some S=>(tL C fn s (S.st ids)).map fun e=>.seq r.pc (.ret e)
 |none=>none
def Kh (m:Nat)(shs:List Sh)(obs:List (Nat×Ob))(ids:List Nat):Snap:=⟨shs++List.replicate (m-shs.length) .none,ids.map (dv obs)⟩
def DA (shs:List Sh)(obs:List (Nat×Ob))(ds:List D):Env:=km obs ds (ds.drop shs.length)
def Am (l:List Nat):Nat→List Sh→Bool
 |_,[]=>true
 |t,s::ss=>(kW s|| !eg l t)&&Am l (t+1) ss
def wM:List (Nat×Ob)→Nat→List PI
 |[],_=>[]
 |x::l,k=>wM l (k+1)++[.setO x.1 (.r k)]
theorem abE {Φ:aL}:∀(l:List (Nat×Ob)) (k:Nat) (ρ:Env) (ds:List D),(∀i,ρ.r (k+i)=ds.getD i .none)→(∀j,ρ.o j=.none)→PI.runs Φ (wM l k) ρ=some ⟨ρ.r,fun j=>la l ds j⟩
 |[],k,ρ,ds,h,ho=>by
  simp only[wM,PI.runs]
  congr 1
  cases ρ with|mk r o=>congr 1;funext j;exact ho j
 |x::l,k,ρ,ds,h,ho=>by
  simp only[wM,l5]
  rw[abE l (k+1) ρ ds.tail (fun i=>by
   have:=h (i+1);rw[Nat.add_assoc,Nat.add_comm 1 i,this];cases ds<;>simp) ho]
  simp only[Option.bind_some,PI.runs,PI.run,PE.ev,Env.setO]
  congr 1
  congr 1
  funext j;rw[fb];have h0:=h 0;simp only[Nat.add_zero] at h0;cases ds with
  |nil=>
   have e:∀m j,la m [] j=D.none:=fun m j=>by cases m<;>rfl
   rw[h0];split<;>simp[e]
  |cons d ds=>
   simp only[la,List.tail_cons];by_cases hj:j=x.1
   ·subst hj;rw[if_pos rfl,Nat.beq_refl,h0];rfl
   ·rw[if_neg hj,dI (fun e=>hj e.symm)];rfl
theorem auF {Φ:aL}(shs:List Sh)(obs:List (Nat×Ob))(ds:List D):PI.runs Φ (wM obs shs.length) (iQ ds)=some (DA shs obs ds):=by
 rw[abE obs shs.length (iQ ds) (ds.drop shs.length) (fun i=>by simp[iQ,List.getD_eq_getElem?_getD]) (fun j=>rfl)];rfl
def Co (fn:Func):List Nat:=match fn.body with|some c=>bW c|none=>[]
def vF:List (Nat×Ob)→Bool
 |[]=>true
 |x::l=>(match x.2 with|.tr=>false|_=>true)&&vF l
def aA (C:Ctx)(fn:Func)(s:Sig)(ids:List Nat):Option PC:=
 match C.yl with
 |none=>
  match s.mode with
  |.ob shs obs=>bif Nat.ble shs.length fn.ntmps&&Am (Co fn) 0 shs&&shs.all pD&&vF obs then(qd C fn s ids (Kh fn.ntmps shs obs ids)).map fun pc=>.seq (.is (wM obs shs.length)) pc else none
  |_=>bif Nat.ble s.args.length fn.ntmps then qd C fn s ids (Ue fn.ntmps s) else none
 |some _=>none
theorem WA:∀(ids:List Nat) (j:Nat),cO ids [] j=.dead
 |[],_=>rfl
 |_::_,_=>rfl
theorem J2 {C:Ctx}{Φ:aL}(aX:db C)(hΦ:cM C Φ)(eB:fc C Φ){fn:Func}{s:Sig}{ids:List Nat}{S0:Snap}{pc:PC}{c:Code}(hb:fn.body=some c)(hc:qd C fn s ids S0=some pc){w0:World}{σ0:Base}(kN:σ0.fin)(hC:CtxOK C σ0)(hY:mf C Φ w0 σ0)
 {N:Nat} {ρ:Env} {d:D} {a:Act} {w:World} (hn:a.tmps.size=fn.ntmps) (hg:Good C w0 σ0 (S0.st ids) ρ (fun _=>False) a w) (he:pc.ev Φ N ρ=some (.ret d)):
 c.wpIn (FR none) 0 C.P (fun e a' w'=>(e=.normal∨e=.ret)∧nl C w0 σ0 fn s d a'.tmps a'.defers w'∧SameBut (fun t=>t∈bW c) a a') a w:=by
 unfold qd at hc;rw[hb] at hc;simp only[Option.bind_eq_some_iff] at hc;obtain⟨r,hr,hc⟩:=hc;have LO:=fun x hx=>ah2 (fn:=fn) (s:=s) (N:=N) eB (aud (n:=fn.ntmps) (ids:=ids) aX hΦ) c false S0 r hr none w0 σ0 (fun t=>t∈bW c) ρ x a w (fun _=>⟨rfl,kN⟩) hC hY (fun _ h=>h) hn hg hx;split at hc
 ·rename_i ir;cases hc;refine wpIn_mono (LO (.ret d) he) fun e a' w' ho=>?_;cases e with
  |normal=>obtain⟨_,_,h,_⟩:=ho;cases h
  |exit id=>obtain⟨_,_,h,_⟩:=ho;cases h
  |ret=>obtain⟨d',h,h2⟩:=ho;cases h;exact⟨.inr rfl,h2⟩
  |_=>exact ho.elim
 ·rename_i S ir;simp only[Option.map_eq_some_iff] at hc;obtain⟨pe,qA,rfl⟩:=hc;simp only[PC.ev] at he;split at he
  ·rename_i ρ1 h1;cases he;refine wpIn_mono (LO (.next ρ1) h1) fun e a' w' ho=>?_;cases e with
   |normal=>
    obtain⟨ρ2,S2,e1,e2,qy,fA⟩:=ho;cases e1;rw[ir] at e2;cases e2;obtain⟨σ2,own,hv,hi⟩:=fA;exact⟨.inl rfl,Inv.retD hC (fun _=>rfl) kN qA _ hi rfl,qy⟩
   |exit id=>obtain⟨_,_,h,_⟩:=ho;cases h
   |ret=>obtain⟨d',h,h2⟩:=ho;cases h
   |_=>exact ho.elim
  ·rename_i aB;refine wpIn_mono (LO (.ret d) he) fun e a' w' ho=>?_;cases e with
   |normal=>obtain⟨_,_,h,_⟩:=ho;cases h
   |exit id=>obtain⟨_,_,h,_⟩:=ho;cases h
   |ret=>obtain⟨d',h,h2⟩:=ho;cases h;exact⟨.inr rfl,h2⟩
   |_=>exact ho.elim
theorem nl.leaves {C:Ctx}{w0:World}{σ0:Base}{fn:Func}{s:Sig}{d:D}{tmps:Array Value}{R:Ending→World→Prop}(hR:∀w',I0 C w0 σ0 fn s d {tmps:=tmps,defers:=[]} w'→∃v,(results fn tmps).run C.P w'=.ok v w'∧R (.returned v) w'):
 ∀(ds:List Deferred) (w:World),nl C w0 σ0 fn s d tmps ds w→LeavesInM (FR none) 0 C.P fn tmps R ds .returning w
 |[],w,h=>hR w h
 |x::ds,w,⟨D,h1,h2,h3⟩=>⟨by simp,.inl ⟨D,_,h1,run_takeDeferred h2,nl.leaves hR ds _ h3⟩⟩
theorem ai8 {C:Ctx}{σ:Im}{w:World}{args:Array Value}{ds:List D}{s:Sig}{m:Nat}{ids:List Nat}(ax:σ.ok w)(ha:nj C σ s.args args.toList ds):
 Good C w (Base.mk0 σ w.heap.size) ((Ue m s).st ids) (iQ ds) (fun _=>False) {tmps:=args++Array.replicate (m-args.size) undef,defers:=[]} w:=by
 obtain⟨h1,h2,h3⟩:=ha;have aK:args.size=s.args.length:=by simpa using h1
 refine⟨σ,fun _=>none,fun _=>undef,trivial,ax,.refl σ,fun _ k e=>(ax.m k _ e).lt,fun _ _ _ h=>.inl h,fun _ _ h=>.inl h,.refl _ _,Nat.le_refl _,(fun k j h=>by cases h),fun t=>?_,fun j=>?_,fun t gs s' e=>absurd e (Snap.noOpt _ _ t gs s'),
  .none,fun _=>False,fun _=>False,⟨⟨fun _=>id,fun _=>id⟩,(fun k j h=>by cases h),fun _ _ _ _=>id,fun _ _ _=>id,fun _ _ _=>id⟩,fun j hj=>?_⟩
 ·show aI C _ _ σ _ (bY ((s.args.map Sh.dat++List.replicate (m-s.args.length) Sh.none).getD t .none)) _ _;rw[List.getD_eq_getElem?_getD];by_cases ht:t<s.args.length
  ·rw[List.getElem?_append_left (by simpa using ht),List.getElem?_map,List.getElem?_eq_getElem ht];simp only[Option.map_some,Option.getD_some,bY];have:=h3 t _ (List.getElem?_eq_getElem ht);have e1:(args++Array.replicate (m-args.size) undef).getD t undef=args.toList.getD t undef:=by
        simp only[Array.getD_eq_getD_getElem?,List.getD_eq_getElem?_getD];rw[Array.getElem?_append_left (by omega)];simp
   show aI C _ _ σ _ (.dat _) ((args++Array.replicate (m-args.size) undef).getD t undef) (ds.getD t .none);rw[e1];exact this
  ·rw[List.getElem?_append_right (by simpa using ht),List.getElem?_replicate];split<;>trivial
 ·show bQ C _ _ σ _ _ w _ j (cO ids [] j);rw[WA];trivial
 ·change cO ids [] j=.tr at hj;rw[WA] at hj;cases hj
theorem J3 {C:Ctx}{Φ:aL}(aX:db C)(hΦ:cM C Φ)(eB:fc C Φ){f:Nat}{fn:Func}{s:Sig}{ids:List Nat}{pc:PC}(hf:C.P.funcs[f]?=some fn)(hc:aA C fn s ids=some pc){N:Nat}{ds:List D}{d:D}(cn:nO s.mode=false)
 (he:pc.ev Φ N (iQ ds)=some (.ret d)):jU C f s ds d:=by
 intro σ w args ax hC ha;unfold aA at hc;split at hc
 case h_2=>cases hc
 rename_i ix;split at hc
 case h_1=>rename_i e;rw[e] at cn;cases cn
 cases hle:Nat.ble s.args.length fn.ntmps<;>simp only[hle,cond_true,cond_false] at hc
 ·cases hc
 have zG:=Nat.le_of_ble_eq_true hle;have aK:args.size=s.args.length:=by simpa using ha.1
 cases hb:fn.body with
 |none=>unfold qd at hc;rw[hb] at hc;cases hc
 |some c=>
 refine(callsIn_wide (n:=0)).1 (callsIn_of_wp_marks (F:=FR none) hf hb trivial ?_);have hg:=ai8 (C:=C) (m:=fn.ntmps) (ids:=ids) ax ha;have hn:(args++Array.replicate (fn.ntmps-args.size) undef).size=fn.ntmps:=by simp;omega
 refine wpIn_mono (J2 aX hΦ eB hb hc (σ0:=Base.mk0 σ w.heap.size) trivial hC (fun J ys e=>by rw[ix] at e;cases e) hn hg he) fun e a' w' ho=>?_
 have main:=nl.leaves (R:=fun e w'=>∃v σ',e=.returned v∧σ.le σ'∧σ'.ok w'∧Below w.heap.size w w'∧
  (∀k o x,σ'.c k o=some x→σ.c k o=some x∨w.heap.size≤k)∧(∀k x,σ'.m k=some x→σ.m k=some x∨w.heap.size≤k)∧nk C s σ' w w' v d) (fun w2 zY=>by
  obtain⟨v,σ',_,h2,h3,h4,h5,h6,h7,h8⟩:=zY;exact⟨v,h2,v,σ',rfl,h3,h4,h5,h6,h7,h8⟩) _ _ ho.2.1
 rcases ho.1 with rfl|rfl<;>exact main
def Base.mkO (σ:Im)(own:Nat→Option Nat)(w:World)(cx:Nat→Prop):Base:=
 {σ with
  B:=0
  fin:=True
  F:=fun _ fx ia w'=>(∀k,fx k↔(k<w.heap.size∧own k=none))∧(∀k,ia k↔(fx k∧cx k))∧w.heap.size≤w'.heap.size∧∀k,fx k→w'.heap[k]?=w.heap[k]?
  lt:=fun t' fx cx w' h k hk=>Nat.lt_of_lt_of_le ((h.1 k).1 hk).1 h.2.2.1
  sub:=fun t' fx cx w' h k hk=>((h.2.1 k).1 hk).1
  keep:=fun t' fx cx w' iM h hb hs=>⟨h.1,h.2.1,Nat.le_trans h.2.2.1 hb.size,fun k hk=>(hs k hk).trans (h.2.2.2 k hk)⟩}
theorem Wl {l:List Nat}:∀{shs:List Sh} {k:Nat},Am l k shs=true→∀(t:Nat) (s:Sh),shs[t]?=some s→kW s=false→(k+t)∉l
 |[],k,_,t,s,h,_=>by simp at h
 |x::shs,k,hk,t,s,h,hd=>by
  simp only[Am,Bool.and_eq_true,Bool.or_eq_true,Bool.not_eq_true'] at hk;cases t with
  |zero=>
   simp at h;subst h;rcases hk.1 with h1|h1
   ·rw[hd] at h1;cases h1
   ·intro hm;rw[Nat.add_zero] at hm;rw[(mQ _ _).2 hm] at h1;cases h1
  |succ t=>
   simp at h;have:=Wl hk.2 t s h hd
   rwa [Nat.add_assoc,Nat.add_comm 1 t] at this
theorem MN (obs:List (Nat×Ob))(j:Nat):∀ids:List Nat,cO ids (ids.map (dv obs)) j=.dead∨cO ids (ids.map (dv obs)) j=dv obs j
 |[]=>.inl rfl
 |i::is=>by
  simp only[List.map_cons,cO];cases hb:Nat.beq i j
  ·exact MN obs j is
  ·right;rw[Nat.eq_of_beq_eq_true hb];rfl
theorem Yz:∀{l:List (Nat×Ob)},vF l=true→∀j,dv l j≠.tr
 |[],_,j,e=>by cases e
 |x::l,h,j,e=>by
  simp only[vF,Bool.and_eq_true] at h;simp only[dv] at e;cases hb:Nat.beq x.1 j<;>simp only[hb,cond_true,cond_false] at e
  ·exact Yz h.2 j e
  ·have h1:=h.1;rw[e] at h1;cases h1
theorem ai7 {C:Ctx}{σ:Im}{own:Nat→Option Nat}{hv:Nat→Value}{w w0:World}{args:Array Value}{cx:Nat→Prop}{shs:List Sh}{obs:List (Nat×Ob)}{ds:List D}{m:Nat}{ids:List Nat}(hN:w0.heap.size≤w.heap.size)(zn:Below 0 w0 w)(ax:σ.ok w)(aZ:∀k,σ.m k≠some cu)(aK:args.size=shs.length)
 (bI:∀k j,own k=some j→w0.heap.size≤k∧k<w.heap.size∧(∀o,σ.c k o=none)∧σ.m k=none) (iX:∀k,cx k→k<w.heap.size∧own k=none∧(∀o,σ.c k o=none)∧σ.m k=none) (pk:vF obs=true) (cX:shs.all pD=true)
 (h1:∀t,aI C (eJ shs obs) (DA shs obs ds) σ hv (shs.getD t .none) (args.getD t undef) (ds.getD t .none)) (h2:∀j,bQ C (eJ shs obs) (DA shs obs ds) σ own hv w w0.heap.size j (dv obs j)):
 Good C w0 (Base.mkO σ own w cx) ((Kh m shs obs ids).st ids) (DA shs obs ds) (fun _=>False) {tmps:=args++Array.replicate (m-args.size) undef,defers:=[]} w:=by
 have qq:Compat (eJ shs obs) hv ((Kh m shs obs ids).st ids) hv:=⟨fun _=>Nat.le_refl _,fun _ _=>rfl⟩
 refine⟨σ,own,hv,trivial,ax,.refl σ,fun _ k e=>absurd e (aZ k),fun _ _ _ h=>.inl h,fun _ _ h=>.inl h,zn,Nat.zero_le _,bI,fun t=>?_,fun j=>?_,fun t gs s' e=>absurd e (Snap.noOpt _ _ t gs s'),
  .none,(fun k=>k<w.heap.size∧own k=none),cx,⟨⟨fun _=>Iff.rfl,fun k=>⟨fun h=>⟨⟨(iX k h).1,(iX k h).2.1⟩,h⟩,fun h=>h.2⟩,Nat.le_refl _,fun _ _=>rfl⟩,(fun k j h hf=>by rw[hf.2] at h;cases h),(fun k o x e hc=>by rw[(iX k hc).2.2.1 o] at e;cases e),(fun k x e hc=>by rw[(iX k hc).2.2.2] at e;cases e),fun k e=>absurd e (aZ k)⟩,fun j hj=>?_⟩
 ·show aI C _ _ σ _ (bY ((shs++List.replicate (m-shs.length) Sh.none).getD t .none)) _ _;refine IL ?_;rw[List.getD_eq_getElem?_getD];by_cases ht:t<shs.length
  ·rw[List.getElem?_append_left ht];have:=h1 t;rw[List.getD_eq_getElem?_getD (l:=shs)] at this;have e1:(args++Array.replicate (m-args.size) undef).getD t undef=args.getD t undef:=by
        simp only[Array.getD_eq_getD_getElem?];rw[Array.getElem?_append_left (by omega)]
   show aI C _ _ σ _ _ ((args++Array.replicate (m-args.size) undef).getD t undef) (ds.getD t .none);rw[e1];refine aI.mono' (.refl σ) qq (fun gs s' e=>?_) this;have hp:=List.all_eq_true.1 cX _ (List.getElem_mem ht);rw[List.getElem?_eq_getElem ht] at e;simp only[Option.getD_some] at e;rw[e] at hp;cases hp
  ·rw[List.getElem?_append_right (by omega),List.getElem?_replicate];split<;>trivial
 ·show bQ C _ _ σ _ _ w _ j (cO ids (ids.map (dv obs)) j);rcases MN obs j ids with e|e
  ·rw[e];trivial
  ·rw[e];exact(h2 j).mono (.refl σ) qq rfl rfl (fun k hk=>⟨hk,rfl⟩)
 ·change cO ids (ids.map (dv obs)) j=.tr at hj;rcases MN obs j ids with e|e
  ·rw[e] at hj;cases hj
  ·rw[e] at hj;exact absurd hj (Yz pk j)
def Dx (w:World)(N:Nat):World:={w with heap:=w.heap.extract 0 N}
theorem ahW {C:Ctx}{Φ:aL}(aX:db C)(hΦ:cM C Φ)(eB:fc C Φ){f:Nat}{fn:Func}{s:Sig}{ids:List Nat}{pc:PC}(hf:C.P.funcs[f]?=some fn)(hc:aA C fn s ids=some pc){N:Nat}{ds:List D}{d:D}{shs:List Sh}{obs:List (Nat×Ob)}(cn:s.mode=.ob shs obs)
 (he:pc.ev Φ N (iQ ds)=some (.ret d)):jV C f shs obs s.res ds d:=by
 intro B σ own hv w args cx _ ax hC aZ hB aK bI iX h1 h2;unfold aA at hc;split at hc
 case h_2=>cases hc
 rename_i ix;rw[cn] at hc;simp only at hc;cases hle:(Nat.ble shs.length fn.ntmps&&Am (Co fn) 0 shs&&shs.all pD&&vF obs)<;>simp only[hle,cond_true,cond_false] at hc
 ·cases hc
 simp only[Bool.and_eq_true] at hle;obtain⟨⟨⟨l1,l2⟩,l3⟩,l4⟩:=hle;simp only[Option.map_eq_some_iff] at hc;obtain⟨pc,hc,rfl⟩:=hc;simp only[PC.ev,auF,Option.map_some] at he;have zG:=Nat.le_of_ble_eq_true l1;cases hb:fn.body with
 |none=>unfold qd at hc;rw[hb] at hc;cases hc
 |some c=>
 have bz:Co fn=bW c:=by unfold Co;rw[hb]
 rw[bz] at l2;refine(callsIn_wide (n:=0)).1 (callsIn_of_wp_marks (F:=FR none) hf hb trivial ?_);have nM:(Dx w B).heap.size=B:=by simp[Dx];omega
 have zn:Below 0 (Dx w B) w:=⟨rfl,rfl,rfl,by rw[nM];exact hB,fun k hk=>by omega⟩
 have hg:=ai7 (C:=C) (m:=fn.ntmps) (ids:=ids) (w0:=Dx w B) (cx:=cx) (by rw[nM];exact hB) zn ax aZ aK (by rw[nM];exact bI) iX l4 l3 h1 (by rw[nM];exact h2);have hn:(args++Array.replicate (fn.ntmps-args.size) undef).size=fn.ntmps:=by simp;omega
 refine wpIn_mono (J2 aX hΦ eB hb hc (σ0:=Base.mkO σ own w cx) trivial hC (fun J ys e=>by rw[ix] at e;cases e) hn hg he) fun e a' w' ho=>?_;obtain⟨gh,zY,fB⟩:=ho
 have main:=nl.leaves (R:=fun e w'=>∃v σ' own' hv' dr os,e=.returned v∧d=.tup (dr::os)∧os.length=obs.length∧σ.le σ'∧σ'.ok w'∧Below 0 w w'∧
  (∀k,k<w.heap.size→own k=none→w'.heap[k]?=w.heap[k]?)∧
  (∀k o x,σ'.c k o=some x→(σ.c k o=some x∨B≤k)∧¬cx k)∧(∀k x,σ'.m k=some x→(σ.m k=some x∨B≤k)∧¬cx k)∧(∀k,σ'.m k=some cu→B≤k→k<w.heap.size→own k≠none)∧
  (∀k j,own' k=some j→B≤k∧k<w'.heap.size∧(∀o,σ'.c k o=none)∧σ'.m k=none∧(k<w.heap.size→own k≠none))∧
  (∀(t:Nat) (sh:Sh),shs[t]?=some sh→kW sh=false→aI C (eJ shs obs) (km obs ds os) σ' hv' sh (args.getD t undef) (ds.getD t .none))∧
  (∀j,bQ C (eJ shs obs) (km obs ds os) σ' own' hv' w' B j (dv obs j))∧Rep C.cap σ' s.res v dr) (fun w2 hr=>by
  obtain⟨v,σ',⟨own',t,fx,ia,cI,_,Ez⟩,aj,j9,Lu,KJ,cQ,cK,_⟩:=hr;obtain⟨hv',dr,os,e1,e2,e3,e4,e5,e6⟩:=Ez shs obs cn;obtain⟨f1,f2,f3,f4⟩:=cI.F;have U8:∀k,cx k→ia k:=fun k hk=>(f2 k).2 ⟨(f1 k).2 ⟨(iX k hk).1,(iX k hk).2.1⟩,hk⟩;rw[nM] at cQ cK e3 e5
  refine⟨v,aj,v,σ',own',hv',dr,os,rfl,e1,e2,j9,Lu,⟨KJ.os,KJ.tape,KJ.output,f3,fun k hk=>by omega⟩,fun k hk hn=>f4 k ((f1 k).2 ⟨hk,hn⟩),fun k o x e=>⟨cQ k o x e,fun hk=>cI.c k o x e (U8 k hk)⟩,fun k x e=>⟨cK k x e,fun hk=>cI.m k x e (U8 k hk)⟩,
   fun k e Kz hk hn=>cI.d k e (by rw[nM];exact Kz) ((f1 k).2 ⟨hk,hn⟩),fun k j hk=>?_,fun t sh hs hd=>?_,fun j=>?_,e6⟩
  ·obtain⟨g1,g2,g3,g4⟩:=e3 k j hk;exact⟨g1,g2,g3,g4,fun ah hn=>cI.own k j hk ((f1 k).2 ⟨ah,hn⟩)⟩
  ·have:=e4 t sh hs hd (ds.getD t .none);have ah:t<shs.length:=(List.getElem?_eq_some_iff.1 hs).1;have kR:t∉bW c:=by have:=Wl l2 t sh hs hd;simpa using this
   have cj:a'.tmps.getD t undef=args.getD t undef:=by
        rw[fB.get t kR];simp only[Array.getD_eq_getD_getElem?];rw[Array.getElem?_append_left (by omega)]
   simp only at this;rw[cj] at this;have hp:=List.all_eq_true.1 l3 _ (List.mem_of_getElem? hs);exact aI.mono' (.refl σ') ⟨fun _=>Nat.le_refl _,fun _ _=>rfl⟩ (fun gs s' e=>by rw[e] at hp;cases hp) this
  ·exact bQ.mono (S:=eJ shs obs) (S':=eJ shs obs) (ρ:=km obs [] os) (ρ':=km obs ds os) (hv:=hv') (hv':=hv') (own:=own') (own':=own') (w:=w2) (w':=w2) (.refl σ') ⟨fun _=>Nat.le_refl _,fun _ _=>rfl⟩ rfl rfl (fun k hk=>⟨hk,rfl⟩) (e5 j)) _ _ zY
 rcases gh with rfl|rfl<;>exact main
def Ud (m:Nat)(cts:List Ty)(J:Nat)(ids:List Nat):Snap:=⟨.yv::(cts.map .dat++List.replicate (m-(cts.length+1)) .none),ids.map fun j=>bif Nat.beq j J then .tr else .dead⟩
def uB (J:Nat)(ds:List D):Env:=⟨fun t=>(D.none::ds).getD t .none,fun j=>bif Nat.beq j J then .list [] else .none⟩
def yJ (C:Ctx)(fn:Func)(cts ys:List Ty)(J:Nat)(ids:List Nat):Option PC:=
 match C.yl,C.sig kD,C.cap kD with
 |none,none,none=>bif Nat.ble (cts.length+1) fn.ntmps then qd {C with yl:=some (J,ys)} fn ⟨[],.tup [],.it J⟩ ids (Ud fn.ntmps cts J ids) else none
 |_,_,_=>none
open Classical in
noncomputable def yldΦ (Φ:aL)(xs:List D)(m:Nat):aL:=fun f ds=>
 if f=kD then(match ds with|[.list l]=>if 0<l.length∧l.length≤m+1∧l=xs.take l.length then some (.v (.bool (decide (l.length≤m)))) else none|_=>none)
 else Φ f ds
theorem yldΦ_at {Φ:aL}{xs l ds:List D}{d:D}{m:Nat}(h:yldΦ Φ xs m kD [.list (l++[.tup ds])]=some d):l.length≤m∧l=xs.take l.length∧xs[l.length]?=some (.tup ds)∧l++[.tup ds]=xs.take (l.length+1)∧d=.v (.bool (decide (l.length<m))):=by
 simp only[yldΦ,if_true] at h;split at h
 ·rename_i hc;obtain⟨h1,h2,h3⟩:=hc;simp only[List.length_append,List.length_cons,List.length_nil,Nat.zero_add] at h2 h3 h;have hx:xs[l.length]?=some (.tup ds):=by
   have:(xs.take (l.length+1))[l.length]?=some (.tup ds):=by rw[←h3];simp
   rw[List.getElem?_take] at this;simpa using this
  have hl:l=xs.take l.length:=by
   have:=congrArg (List.take l.length) h3;simpa [List.take_take] using this
  refine⟨by omega,hl,hx,h3,?_⟩;cases h
  congr 2
 ·cases h
theorem cM.yl {C:Ctx}{Φ:aL}(h:cM C Φ){y:Option (Nat×List Ty)}{v:Value}{xs:List D}{m:Nat}(hs:C.sig kD=none):cM {C with yl:=y,yv:=v} (yldΦ Φ xs m):=by
 intro f ds d e s dJ;have aB:f≠kD:=fun e'=>by subst e';change C.sig kD=some s at dJ;rw[hs] at dJ;cases dJ
 simp only[yldΦ,if_neg aB] at e;obtain⟨h1,h2⟩:=h f ds d e s dJ;exact⟨fun hm σ w args ax hC ha=>h1 hm σ w args ax ⟨hC.glob⟩ ha,fun shs obs hm=>(h2 shs obs hm).ctx rfl rfl rfl⟩
theorem jW.yl {C:Ctx}{y:Option (Nat×List Ty)}{v:Value}{f:Nat}{cts ys:List Ty}{ds xs:List D}(h:jW C f cts ys ds xs):jW {C with yl:=y,yv:=v} f cts ys ds xs:=
 fun σ w yv vs F fx cx m ax hC=>h σ w yv vs F fx cx m ax ⟨hC.glob⟩
theorem fc.yl {C:Ctx}{Φ:aL}(h:fc C Φ){y:Option (Nat×List Ty)}{v:Value}{xs:List D}{m:Nat}(hs:C.cap kD=none):fc {C with yl:=y,yv:=v} (yldΦ Φ xs m):=by
 intro f cs ys hc hi;have aB:f≠kD:=fun e'=>by subst e';change C.cap kD=some cs at hc;rw[hs] at hc;cases hc
 obtain⟨h1,h2⟩:=h f cs ys hc hi;refine⟨h1,fun ds d e=>?_⟩;simp only[yldΦ,if_neg aB] at e;obtain⟨xs,e1,e2,e3⟩:=h2 ds d e;exact⟨xs,e1,e2,e3.yl⟩
def Sf (Φ:aL)(pc:PC)(J:Nat)(ds xs:List D):Prop:=∀m,m≤xs.length→∃N,pc.ev (yldΦ Φ xs m) N (uB J ds)=some (.ret (.list (xs.take (m+1))))
theorem ai6 {C:Ctx}{σ:Im}{σ0:Base}{w:World}{yv:Value}{vs:List Value}{ds:List D}{cts ys:List Ty}{J m:Nat}{ids:List Nat}(ax:σ.ok w)(ha:nj C σ cts vs ds)(hm:cts.length+1≤m)(ix:C.yl=some (J,ys))(Af:C.yv=yv)
 (h0:σ0.toIm=σ) (hB:σ0.B=0) {fx cx:Nat→Prop} (hF:σ0.F (.list []) fx cx w) (gg:∀k o x,σ.c k o=some x→¬cx k) (kM:∀k x,σ.m k=some x→¬cx k):
 Good C w σ0 ((Ud m cts J ids).st ids) (uB J ds) (fun _=>False) {tmps:=#[yv]++vs.toArray++Array.replicate (m-(vs.length+1)) undef,defers:=[]} w:=by
 obtain⟨h1,h2,h3⟩:=ha
 refine⟨σ,fun _=>none,fun _=>undef,trivial,ax,by rw[h0];exact .refl σ,fun _ k e=>by rw[h0] at e;exact(ax.m k _ e).lt,fun _ _ _ h=>by rw[h0];exact .inl h,fun _ _ h=>by rw[h0];exact .inl h,.refl _ _,by omega,(fun k j h=>by cases h),fun t=>?_,fun j=>?_,fun t gs s' e=>absurd e (Snap.noOpt _ _ t gs s'),
  .list [],fx,cx,⟨hF,(fun k j h=>by cases h),gg,kM,fun k e hk=>by have:=(ax.m k _ e).lt;omega⟩,fun j hj=>?_⟩
 ·show aI C _ _ σ _ (bY ((Sh.yv::(cts.map Sh.dat++List.replicate (m-(cts.length+1)) Sh.none)).getD t .none)) ((#[yv]++vs.toArray++Array.replicate (m-(vs.length+1)) undef).getD t undef) ((D.none::ds).getD t .none);have ea:((#[yv]++vs.toArray++Array.replicate (m-(vs.length+1)) undef).getD t undef)=(yv::(vs++List.replicate (m-(vs.length+1)) undef)).getD t undef:=by
   rw[Array.getD_eq_getD_getElem?,←Array.getElem?_toList,List.getD_eq_getElem?_getD];simp
  rw[ea];cases t with
  |zero=>simp only[List.getD_cons_zero,bY];exact Af.symm
  |succ t=>
   simp only[List.getD_cons_succ];rw[List.getD_eq_getElem?_getD];by_cases ht:t<cts.length
   ·rw[List.getElem?_append_left (by simpa using ht),List.getElem?_map,List.getElem?_eq_getElem ht];simp only[Option.map_some,Option.getD_some,bY];have:=h3 t _ (List.getElem?_eq_getElem ht);have e1:(vs++List.replicate (m-(vs.length+1)) undef).getD t undef=vs.getD t undef:=by
     simp only[List.getD_eq_getElem?_getD];rw[List.getElem?_append_left (by omega)]
    show aI C _ _ σ _ (.dat _) _ (ds.getD t .none);rw[e1];exact this
   ·rw[List.getElem?_append_right (by simpa using ht),List.getElem?_replicate];split<;>trivial
 ·show bQ C _ _ σ _ _ w _ j (cO ids (ids.map fun j=>bif Nat.beq j J then .tr else .dead) j);refine sV _ (fun ob=>bQ C _ _ σ _ _ w _ j ob) trivial j ?_ ids;cases Nat.beq j J<;>trivial
 ·change cO ids (ids.map fun j=>bif Nat.beq j J then .tr else .dead) j=.tr at hj
  have hb:=sV (fun j=>bif Nat.beq j J then Ob.tr else .dead) (fun ob=>ob=.tr→Nat.beq j J=true) (fun e=>by cases e) j (fun e=>by
   cases hb:Nat.beq j J
   ·rw[hb] at e;cases e
   ·rfl) ids hj
  have:=Nat.eq_of_beq_eq_true hb;subst this;refine⟨⟨ys,ix⟩,?_⟩;show(bif Nat.beq j j then D.list [] else .none)=_;rw[Nat.beq_refl];rfl
theorem ahX {C:Ctx}{Φ:aL}(aX:db C)(hΦ:cM C Φ)(eB:fc C Φ){f:Nat}{fn:Func}{cts ys:List Ty}{J:Nat}{ids:List Nat}{pc:PC}(hf:C.P.funcs[f]?=some fn)(hc:∀yv,yJ {C with yv:=yv} fn cts ys J ids=some pc){ds xs:List D}
 (hr:Sf Φ pc J ds xs):jW C f cts ys ds xs:=by
 intro σ w yv vs F fx cx m ax hC ha hm ah bV K6 hF gg kM L8;have hc:=hc yv;unfold yJ at hc;split at hc
 case h_2=>cases hc
 rename_i ix hsy hcy;cases hle:Nat.ble (cts.length+1) fn.ntmps<;>simp only[hle,cond_true,cond_false] at hc
 ·cases hc
 have zG:=Nat.le_of_ble_eq_true hle;obtain⟨N,he⟩:=hr m hm;cases hb:fn.body with
 |none=>unfold qd at hc;rw[hb] at hc;cases hc
 |some c=>
 refine(callsIn_wide (n:=0)).1 (callsIn_of_wp_marks (F:=FR none) hf hb trivial ?_);obtain⟨σ0,hσ0⟩:∃σ0:Base,σ0={σ with B:=0,fin:=True,F:=fun t fx cx w=>(∃l,t=.list l)∧F t fx cx w,lt:=fun t fx cx w h=>ah t fx cx w h.2,sub:=fun t fx cx w h=>bV t fx cx w h.2,keep:=fun t fx cx w w' h hb hs=>⟨h.1,K6 t fx cx w w' h.2 hb hs⟩}:=⟨_,rfl⟩
 have e1:σ0.toIm=σ:=by rw[hσ0]
 have e2:σ0.B=0:=by rw[hσ0]
 have e3:σ0.fin:=by rw[hσ0];trivial
 have e4:∀t fx cx w,σ0.F t fx cx w↔(∃l,t=.list l)∧F t fx cx w:=fun t fx cx w=>by rw[hσ0]
 have hg:=ai6 (C:={C with yl:=some (J,ys),yv:=yv}) (σ0:=σ0) (w:=w) (yv:=yv) (vs:=vs) (ds:=ds) (cts:=cts) (ys:=ys) (J:=J) (m:=fn.ntmps) (ids:=ids) ax ha zG rfl rfl e1 e2 ((e4 _ _ _ _).2 ⟨⟨_,rfl⟩,hF⟩) gg kM;have aK:(#[yv]++vs.toArray).size=vs.length+1:=by simp<;>omega
 have EF:vs.length=cts.length:=ha.1;have hY:mf {C with yl:=some (J,ys),yv:=yv} (yldΦ Φ xs m) w σ0:=by
  intro J' ys' e;cases e;refine⟨e2,fun t fx cx w h=>((e4 _ _ _ _).1 h).1,fun IS ds' d hd fx cx w1 σ1 args uM anV sc U6 zH cQ cK=>?_⟩;obtain⟨g1,g2,g3,g4,rfl⟩:=yldΦ_at hd;rw[e1] at cQ cK;have:=L8 IS.length fx cx w1 σ1 args ds' g1 g3 (by rw[←g2];exact((e4 _ _ _ _).1 uM).2) anV sc U6 zH cQ cK;intro rd o a x aa ts K Q bE hv has hK;refine this rd o a x aa ts K Q bE hv has fun u w2 hu=>hK u w2 ?_;obtain⟨u1,u2,u3,kL,ia,u4,u5,u6⟩:=hu;refine⟨_,rfl,u1,u2,u3,kL,ia,(e4 _ _ _ _).2 ⟨⟨_,rfl⟩,?_⟩,u5,u6⟩;rw[g4];exact u4
 have hn:(#[yv]++vs.toArray++Array.replicate (fn.ntmps-(vs.length+1)) undef).size=fn.ntmps:=by simp;omega
 rw[aK];refine wpIn_mono (J2 (C:={C with yl:=some (J,ys),yv:=yv}) aX (hΦ.yl hsy) (eB.yl hcy) hb hc (σ0:=σ0) e3 (by rw[e1];exact⟨hC.glob⟩) hY hn hg he) fun e a' w' ho=>?_
 have main:=nl.leaves (R:=fun e w'=>(∃v,e=.returned v)∧∃fx cx,F (.list (xs.take (m+1))) fx cx w') (fun w2 zY=>by
  obtain⟨v,σ',⟨own,t,fx,cx,h1,ht,_⟩,h2,_⟩:=zY;refine⟨v,h2,⟨v,rfl⟩,fx,cx,?_⟩;rw[ht J rfl];exact((e4 _ _ _ _).1 h1.F).2) _ _ ho.2.1
 rcases ho.1 with rfl|rfl<;>exact main
noncomputable def cv (tab:Nat→Option PC)(ext:Nat→Option (aL→List D→Option D)):Nat→aL
 |0=>fun _ _=>none
 |n+1=>fun f ds=>
  match ext f with
  |some g=>g (cv tab ext n) ds
  |none=>
   match tab f with
   |some pc=>(match pc.ev (cv tab ext n) n (iQ ds) with|some (.ret d)=>some d|_=>none)
   |none=>none
theorem jU.hint {C:Ctx}{fr nh:List Nat}{f:Nat}{s:Sig}{ds:List D}{d:D}(h:jU C f s ds d):jU {C with fr:=fr,nh:=nh} f s ds d:=
 fun σ w args ax hC ha=>h σ w args ax ⟨hC.glob⟩ ha
theorem jU.unhint {C:Ctx}{fr nh:List Nat}{f:Nat}{s:Sig}{ds:List D}{d:D}(h:jU {C with fr:=fr,nh:=nh} f s ds d):jU C f s ds d:=
 fun σ w args ax hC ha=>h σ w args ax ⟨hC.glob⟩ ha
theorem jW.hint {C:Ctx}{fr nh:List Nat}{f:Nat}{cts ys:List Ty}{ds xs:List D}(h:jW C f cts ys ds xs):jW {C with fr:=fr,nh:=nh} f cts ys ds xs:=
 fun σ w yv vs F fx cx m ax hC=>h σ w yv vs F fx cx m ax ⟨hC.glob⟩
theorem jW.unhint {C:Ctx}{fr nh:List Nat}{f:Nat}{cts ys:List Ty}{ds xs:List D}(h:jW {C with fr:=fr,nh:=nh} f cts ys ds xs):jW C f cts ys ds xs:=
 fun σ w yv vs F fx cx m ax hC=>h σ w yv vs F fx cx m ax ⟨hC.glob⟩
theorem jV.hint {C:Ctx}{fr nh:List Nat}{f:Nat}{shs:List Sh}{obs:List (Nat×Ob)}{res:Ty}{ds:List D}{d:D}(h:jV C f shs obs res ds d):jV {C with fr:=fr,nh:=nh} f shs obs res ds d:=h.ctx rfl rfl rfl
theorem jV.unhint {C:Ctx}{fr nh:List Nat}{f:Nat}{shs:List Sh}{obs:List (Nat×Ob)}{res:Ty}{ds:List D}{d:D}(h:jV {C with fr:=fr,nh:=nh} f shs obs res ds d):jV C f shs obs res ds d:=jV.ctx (C':=C) h rfl rfl rfl
theorem cM.hint {C:Ctx}{fr nh:List Nat}{Φ:aL}(h:cM C Φ):cM {C with fr:=fr,nh:=nh} Φ:=
 fun f ds d e s hs=>⟨fun hm=>((h f ds d e s hs).1 hm).hint,fun shs obs hm=>((h f ds d e s hs).2 shs obs hm).hint⟩
theorem fc.hint {C:Ctx}{fr nh:List Nat}{Φ:aL}(h:fc C Φ):fc {C with fr:=fr,nh:=nh} Φ:=
 fun f cs ys hc hi=>let⟨h1,h2⟩:=h f cs ys hc hi;⟨h1,fun ds d e=>let⟨xs,e1,e2,e3⟩:=h2 ds d e;⟨xs,e1,e2,e3.hint⟩⟩
theorem db.hint {C:Ctx}{fr nh:List Nat}(h:db C):db {C with fr:=fr,nh:=nh}:=h
def IW (C:Ctx)(f:Nat)(s:Sig)(ds:List D)(d:D):Prop:=(nO s.mode=false→jU C f s ds d)∧∀shs obs,s.mode=.ob shs obs→jV C f shs obs s.res ds d
structure TabOK (C:Ctx) (tab:Nat→Option PC) (ext:Nat→Option (aL→List D→Option D)):Prop where
 clos:db C
 its:∀f cs ys,C.cap f=some cs→kh cs.args cs.res=some ys→tab f=none∧∃fn,C.P.funcs[f]?=some fn∧fn.body.isSome=true∧(fn.name== "runtime.NumGoroutine")=false
 tab:∀f pc,ext f=none→tab f=some pc→∃fn s ids fr nh,C.P.funcs[f]?=some fn∧C.sig f=some s∧aA {C with fr:=fr,nh:=nh} fn s ids=some pc
 ext:∀f g,ext f=some g→∀Φ,cM C Φ→fc C Φ→∀ds d,g Φ ds=some d→(∀s,C.sig f=some s→IW C f s ds d)∧
  ∀cs ys,C.cap f=some cs→kh cs.args cs.res=some ys→∃xs,d=.list xs∧(∀x,x∈xs→∃ds',x=.tup ds'∧ds'.length=ys.length)∧jW C f cs.caps ys ds xs
theorem Sk {C:Ctx}{tab:Nat→Option PC}{ext:Nat→Option (aL→List D→Option D)}(h:TabOK C tab ext):∀n,cM C (cv tab ext n)∧fc C (cv tab ext n)
 |0=>⟨fun f ds d e=>by simp[cv] at e,fun f cs ys hc hi=>⟨(h.its f cs ys hc hi).2,fun ds d e=>by simp[cv] at e⟩⟩
 |n+1=>by
  obtain⟨ih,kg⟩:=Sk h n;refine⟨fun f ds d e=>?_,fun f cs ys hc hi=>⟨(h.its f cs ys hc hi).2,fun ds d e=>?_⟩⟩
  ·simp only[cv] at e;split at e
   ·rename_i g hg;exact(h.ext f g hg _ ih kg ds d e).1
   ·rename_i hx;split at e
    ·rename_i pc ay;split at e
     ·rename_i d' he;cases e;obtain⟨fn,s,ids,fr,nh,h1,h2,h3⟩:=h.tab f pc hx ay;intro s' dJ;rw[h2] at dJ;cases dJ
      exact⟨fun hm=>(J3 (C:={C with fr:=fr,nh:=nh}) (db.hint h.clos) (cM.hint ih) (fc.hint kg) h1 h3 hm he).unhint,
       fun shs obs hm=>(ahW (C:={C with fr:=fr,nh:=nh}) (db.hint h.clos) (cM.hint ih) (fc.hint kg) h1 h3 hm he).unhint⟩
     ·cases e
    ·cases e
  ·simp only[cv] at e;split at e
   ·rename_i g hg;exact(h.ext f g hg _ ih kg ds d e).2 cs ys hc hi
   ·rw[(h.its f cs ys hc hi).1] at e;cases e
def adj (Φ:aL)(pc:PC)(J k:Nat)(ds xs:List D):Prop:=Sf Φ pc J ds xs∧∀x,x∈xs→∃ds',x=.tup ds'∧ds'.length=k
open Classical in
noncomputable def qM (pc:PC)(J k:Nat)(spec:List D→List D):aL→List D→Option D:=fun Φ ds=>if adj Φ pc J k ds (spec ds) then some (.list (spec ds)) else none
theorem apb {C:Ctx}{Φ:aL}(aX:db C)(hΦ:cM C Φ)(eB:fc C Φ){f:Nat}{fn:Func}{cts ys:List Ty}{J k:Nat}{ids fr nh:List Nat}{pc:PC}(hf:C.P.funcs[f]?=some fn)(hc:∀yv,yJ {C with fr:=fr,nh:=nh,yv:=yv} fn cts ys J ids=some pc){spec:List D→List D}
 {ds:List D} {d:D} (h:qM pc J k spec Φ ds=some d) (hk:k=ys.length):∃xs,d=.list xs∧(∀x,x∈xs→∃ds',x=.tup ds'∧ds'.length=ys.length)∧jW C f cts ys ds xs:=by
 unfold qM at h;split at h
 ·rename_i hs;cases h;subst hk;exact⟨_,rfl,hs.2,(ahX (C:={C with fr:=fr,nh:=nh}) (db.hint aX) (cM.hint hΦ) (fc.hint eB) hf hc hs.1).unhint⟩
 ·cases h
def ae {α:Type}:List (Nat×α)→Nat→Option α
 |[],_=>none
 |x::l,f=>bif Nat.beq x.1 f then some x.2 else ae l f
def Cd {α:Type}(R:Nat→α→Prop):List (Nat×α)→Prop
 |[]=>True
 |x::l=>R x.1 x.2∧Cd R l
theorem Ar {α:Type}{R:Nat→α→Prop}:∀{l:List (Nat×α)},Cd R l→∀f x,ae l f=some x→R f x
 |[],_,f,x,h=>by cases h
 |y::l,⟨h1,h2⟩,f,x,h=>by
  simp only[ae] at h;cases hb:Nat.beq y.1 f<;>simp only[hb,cond_true,cond_false] at h
  ·exact Ar h2 f x h
  ·cases h;rw[←cq hb];exact h1
def P5 (P:Program):List (Nat×Sig)→Bool
 |[]=>true
 |x::l=>(match P.funcs[x.1]? with|some fn=>fn.body.isSome&& !(fn.name== "runtime.NumGoroutine")|none=>false)&&P5 P l
theorem abW {P:Program}:∀{l:List (Nat×Sig)},P5 P l=true→∀f s,ae l f=some s→∃fn,P.funcs[f]?=some fn∧fn.body.isSome=true∧(fn.name== "runtime.NumGoroutine")=false
 |[],_,f,s,h=>by cases h
 |y::l,hl,f,s,h=>by
  simp only[P5,Bool.and_eq_true] at hl;simp only[ae] at h;cases hb:Nat.beq y.1 f<;>simp only[hb,cond_true,cond_false] at h
  ·exact abW hl.2 f s h
  ·rw[←cq hb];have h1:=hl.1;split at h1
   ·rename_i fn e;simp only[Bool.and_eq_true,Bool.not_eq_true'] at h1;exact⟨fn,e,h1.1,h1.2⟩
   ·cases h1
def PX (a b:Sig):Bool:=Ty.beqs a.args b.args&&Ty.beq a.res b.res&&(match a.mode,b.mode with|.dat,.dat=>true|_,_=>false)
theorem auK {a b:Sig}(h:PX a b=true):a=b:=by
 obtain⟨a1,a2,a3⟩:=a;obtain⟨b1,b2,b3⟩:=b;simp only[PX,Bool.and_eq_true] at h;rw[Ty.beqs_eq _ _ h.1.1,Ty.beq_eq _ _ h.1.2];cases a3<;>cases b3<;>first|rfl|(have:=h.2;cases this)
def B4 (P:Program)(f:Nat):Bool:=match P.funcs[f]? with|some fn=>fn.body.isSome&& !(fn.name== "runtime.NumGoroutine")|none=>false
theorem au5 {P:Program}{f:Nat}(h:B4 P f=true):∃fn,P.funcs[f]?=some fn∧fn.body.isSome=true∧(fn.name== "runtime.NumGoroutine")=false:=by
 unfold B4 at h;split at h
 ·rename_i fn e;simp only[Bool.and_eq_true,Bool.not_eq_true'] at h;exact⟨fn,e,h.1,h.2⟩
 ·cases h
def JW (P:Program)(sig:List (Nat×Sig))(pcs:List Nat):List (Nat×CSig)→Bool
 |[]=>true
 |x::l=>(match kh x.2.args x.2.res with
   |none=>(match ae sig x.1 with|some s=>PX s ⟨x.2.args++x.2.caps,x.2.res,.dat⟩|none=>false)
   |some _=> !eg pcs x.1&&B4 P x.1)&&JW P sig pcs l
theorem Tf {P:Program}{sig:List (Nat×Sig)}{pcs:List Nat}:∀{l:List (Nat×CSig)},JW P sig pcs l=true→∀f cs,ae l f=some cs→
 (kh cs.args cs.res=none→ae sig f=some ⟨cs.args++cs.caps,cs.res,.dat⟩)∧∀ys,kh cs.args cs.res=some ys→eg pcs f=false∧B4 P f=true
 |[],_,f,cs,h=>by cases h
 |x::l,hl,f,cs,h=>by
  simp only[JW,Bool.and_eq_true] at hl;simp only[ae] at h;cases hb:Nat.beq x.1 f<;>simp only[hb,cond_true,cond_false] at h
  ·exact Tf hl.2 f cs h
  ·cases h;rw[←cq hb];have h1:=hl.1;refine⟨fun e=>?_,fun ys e=>?_⟩
   ·rw[e] at h1;simp only at h1;split at h1
    ·rename_i s hs;rw[hs,auK h1]
    ·cases h1
   ·rw[e] at h1;simpa using h1
theorem Wy {α:Type}:∀{l:List (Nat×α)} {f:Nat},eg (l.map (·.1)) f=false→ae l f=none
 |[],f,_=>rfl
 |x::l,f,h=>by
  simp only[List.map_cons,eg,List.any_cons,Bool.or_eq_false_iff] at h;simp only[ae];have hb:Nat.beq x.1 f=false:=by
   cases e:Nat.beq x.1 f
   ·rfl
   ·rw[Nat.eq_of_beq_eq_true e,Nat.beq_refl] at h;cases h.1
  rw[hb];exact Wy (l:=l) h.2
def adn (Φ:aL)(pa pb:PC)(ds:List D)(d:D):Prop:=(∃N xs,pa.ev Φ N (iQ ds)=some (.ret (.list xs))∧xs≠[]∧d=.list xs)∨∃N,pb.ev Φ N (iQ ds)=some (.ret (.list []))∧d=.list []
open Classical in
noncomputable def pB (pa pb:PC)(spec:List D→D):aL→List D→Option D:=fun Φ ds=>if adn Φ pa pb ds (spec ds) then some (spec ds) else none
theorem ar9 {C:Ctx}{Φ:aL}(aX:db C)(hΦ:cM C Φ)(eB:fc C Φ){f:Nat}{fn:Func}{args:List Ty}{e:Ty}{ids ao2 fr nh UD Yy:List Nat}{pa pb:PC}(hf:C.P.funcs[f]?=some fn)(ha:aA {C with fr:=fr,nh:=nh} fn ⟨args,.slice e,.dat⟩ ids=some pa)
 (hb:aA {C with fr:=UD,nh:=Yy} fn ⟨args,.nils .bool,.dat⟩ ao2=some pb) {spec:List D→D} {ds:List D} {d:D} (h:pB pa pb spec Φ ds=some d):jU C f ⟨args,.nsl e,.dat⟩ ds d:=by
 unfold pB at h;split at h
 case isFalse=>cases h
 rename_i hs;cases h;rcases hs with⟨N,xs,h1,h2,h3⟩|⟨N,h1,h2⟩
 ·rw[h3];have:=(J3 (C:={C with fr:=fr,nh:=nh}) (db.hint aX) (cM.hint hΦ) (fc.hint eB) hf ha (N:=N) rfl h1).unhint;intro σ w aa ax hC gO;refine(this σ w aa ax hC gO).mono fun en w' hh=>?_;obtain⟨v,σ',g1,g2,g3,g4,g5,g6,g7⟩:=hh;refine⟨v,σ',g1,g2,g3,g4,g5,g6,?_⟩;change Rep C.cap σ' (.slice e) v (.list xs) at g7;show Rep C.cap σ' (.nsl e) v (.list xs);generalize hd:D.list xs=dd at g7;cases g7 with
  |nil=>injection hd with hd;exact absurd hd h2
  |emp=>injection hd with hd;exact absurd hd h2
  |slice _ k o n c IS vs a1 a2 a3 a4 a5=>exact .nsl e k o n c IS (.slice e k o n c IS vs a1 a2 a3 a4 a5) (by injection hd with hd;rw[←hd];exact h2)
 ·rw[h2];have:=(J3 (C:={C with fr:=UD,nh:=Yy}) (db.hint aX) (cM.hint hΦ) (fc.hint eB) hf hb (N:=N) rfl h1).unhint;intro σ w aa ax hC gO;refine(this σ w aa ax hC gO).mono fun en w' hh=>?_;obtain⟨v,σ',g1,g2,g3,g4,g5,g6,g7⟩:=hh;refine⟨v,σ',g1,g2,g3,g4,g5,g6,?_⟩;change Rep C.cap σ' (.nils .bool) v (.list []) at g7;show Rep C.cap σ' (.nsl e) v (.list []);generalize D.list []=dd at g7;cases g7;exact .nsl0 e
end Cx
namespace Cx
open Go Go.RowKit Go.ChangeShapes Go.WideShapes
def kV (w:World):Im:=
 ⟨fun k o=>w.cell? ⟨k,o,none⟩,fun _=>none⟩
theorem ao4 (w:World):(kV w).ok w:=by
 exact⟨fun k o v h=>h,fun k es h=>by cases h⟩
def wJ (P:Program)(r:TypeId→Option Ty):List Field→Nat→Option (List Ty)
 |[],_=>some []
 |f::fs,off=>(r f.type).bind fun ft=>
  bif Nat.beq f.offset off&&Nat.beq (P.cellsOf f.type) ft.flat.length then(wJ P r fs (off+ft.flat.length)).map (ft.flat++·) else none
def eY (P:Program):Nat→TypeId→Option Ty
 |0,_=>none
 |n+1,t=>
  match P.underlying t with
  |some .bool=>some .bool
  |some (.int k)=>some (.int k)
  |some .string=>some .str
  |some (.slice e)=>bif px P e then some (.slice .trm) else(eY P n e).bind fun te=>bif Nat.beq (P.cellsOf e) te.flat.length&&Nat.ble 1 te.flat.length then some (.slice te) else none
  |some (.struct fs)=>(wJ P (eY P n) fs.toList 0).bind fun ts=>bif Nat.beq (P.cellsOf t) ts.length then some (.agg ts) else none
  |_=>none
theorem ao9 {P:Program}{e:TypeId}(h:px P e=true)(n:Nat):eY P (n+2) e=some .trmA∧P.cellsOf e=3:=by
 unfold px at h;split at h
 case h_2=>cases h
 rename_i fs hu;split at h
 case h_2=>cases h
 rename_i f0 f1 f2 sn;simp only[Bool.and_eq_true] at h;obtain⟨⟨⟨⟨⟨⟨⟨⟨⟨h0,h1⟩,h2⟩,o0⟩,o1⟩,o2⟩,c0⟩,c1⟩,c2⟩,c3⟩:=h;split at h0
 case h_2=>cases h0
 rename_i u0;split at h1
 case h_2=>cases h1
 rename_i u1;split at h2
 case h_2=>cases h2
 rename_i e' u2;obtain rfl:=Nat.eq_of_beq_eq_true h2;have r0:eY P (n+1) f0.type=some (.int .i64):=by simp[eY,u0]
 have r1:eY P (n+1) f1.type=some (.int .i64):=by simp[eY,u1]
 have ht:px P e'=true:=by
  unfold px;rw[hu];simp only[sn];simp[u0,u1,u2,Nat.eq_of_beq_eq_true o0,Nat.eq_of_beq_eq_true o1,Nat.eq_of_beq_eq_true o2,Nat.eq_of_beq_eq_true c0,Nat.eq_of_beq_eq_true c1,Nat.eq_of_beq_eq_true c2,Nat.eq_of_beq_eq_true c3]
 have r2:eY P (n+1) f2.type=some (.slice .trm):=by simp[eY,u2,ht]
 refine⟨?_,Nat.eq_of_beq_eq_true c3⟩;show eY P (n+1+1) e'=_;rw[eY,hu];simp only[sn,wJ,r0,r1,r2,Option.bind_some,Ty.flat,List.length_cons,List.length_nil,o0,c0,Bool.and_self,cond_true];simp[Nat.eq_of_beq_eq_true o1,Nat.eq_of_beq_eq_true o2,Nat.eq_of_beq_eq_true c1,Nat.eq_of_beq_eq_true c2,Nat.eq_of_beq_eq_true c3,Ty.trmA]
theorem PB {P:Program}{n:Nat}{t:TypeId}{ty:Ty}(h:eY P n t=some ty):ty.rowT=true∨ty.one=true:=by
 cases n with
 |zero=>simp[eY] at h
 |succ n=>
  simp only[eY] at h;split at h
  ·cases h;exact .inr rfl
  ·cases h;exact .inr rfl
  ·cases h;exact .inr rfl
  ·rename_i e _;cases ht:px P e<;>simp only[ht,cond_true,cond_false] at h
   ·simp only[Option.bind_eq_some_iff] at h;obtain⟨te,_,h⟩:=h;cases hb:(Nat.beq (P.cellsOf e) te.flat.length&&Nat.ble 1 te.flat.length)<;>simp only[hb,cond_true,cond_false] at h
    ·cases h
    ·cases h;exact .inr rfl
   ·cases h;exact .inr rfl
  ·rename_i fs _;simp only[Option.bind_eq_some_iff] at h;obtain⟨ts,_,h⟩:=h;cases hb:Nat.beq (P.cellsOf t) ts.length<;>simp only[hb,cond_true,cond_false] at h
   ·cases h
   ·cases h;exact .inl rfl
  ·cases h
def kF (cap:Nat→Option CSig)(σ:Im)(ts:List Ty)(cs:List Value)(ds:List D):Prop:=
 cs.length=ts.length∧ds.length=ts.length∧∀(i:Nat) (u:Ty),ts[i]?=some u→Rep cap σ u (cs.getD i undef) (ds.getD i .none)∧u.one=true
theorem kF.one {cap:Nat→Option CSig}{σ:Im}{t:Ty}{v:Value}{d:D}(h:Rep cap σ t v d)(ht:t.one=true):kF cap σ [t] [v] [d]:=
 ⟨rfl,rfl,fun i u hu=>by
   cases i with
   |zero=>simp at hu;subst hu;exact⟨h,ht⟩
   |succ i=>simp at hu⟩
theorem kF.append {cap:Nat→Option CSig}{σ:Im}{ts us:List Ty}{cs vs:List Value}{ds es:List D}(h:kF cap σ ts cs ds)(k:kF cap σ us vs es):kF cap σ (ts++us) (cs++vs) (ds++es):=by
 obtain⟨h1,h2,h3⟩:=h;obtain⟨k1,k2,k3⟩:=k;refine⟨by simp[h1,k1],by simp[h2,k2],fun i u hu=>?_⟩;by_cases hi:i<ts.length
 ·rw[List.getElem?_append_left hi] at hu;have:=h3 i u hu;rw[List.getD_eq_getElem?_getD,List.getD_eq_getElem?_getD,List.getElem?_append_left (by omega),List.getElem?_append_left (by omega)];rw[List.getD_eq_getElem?_getD,List.getD_eq_getElem?_getD] at this;exact this
 ·rw[List.getElem?_append_right (by omega)] at hu;have:=k3 _ u hu;rw[List.getD_eq_getElem?_getD,List.getD_eq_getElem?_getD,List.getElem?_append_right (by omega),List.getElem?_append_right (by omega),h1,h2];rw[List.getD_eq_getElem?_getD,List.getD_eq_getElem?_getD] at this;exact this
def TV (ag:Bool)(ds:List D):D:=if ag then .agg ds else ds.getD 0 .none
theorem ajx (t:Ty):t.flat.length=t.size:=by cases t<;>rfl
theorem Rep.ofRow {cap:Nat→Option CSig}{σ:Im}{t:Ty}{cs:List Value}{ds:List D}(fR:t.rowT=true∨t.one=true)(h:kF cap σ t.flat cs ds):Rep cap σ t (Cx.rowOf t.rowT cs) (TV t.rowT ds):=by
 obtain⟨h1,h2,h3⟩:=h;cases t with
 |agg ts=>exact .agg ts cs ds h1 h2 (fun i u hu=>(h3 i u hu).1) (fun i u hu=>(h3 i u hu).2)
 |trm=>simp[Ty.rowT,Ty.one] at fR
 |_=>exact(h3 0 _ rfl).1
theorem aup {cap:Nat→Option CSig}{σ:Im}{t:Ty}{cs:List Value}{ds:List D}(fR:t.rowT=true∨t.one=true)(h:kF cap σ t.flat cs ds){j:Nat}{u:Value}(hj:(rowOf t.rowT cs).cells[j]?=some u):cs[j]?=some u:=by
 obtain⟨h1,h2,h3⟩:=h;cases t with
 |agg ts=>simpa [rowOf,Ty.rowT,Value.cells] using hj
 |trm=>simp[Ty.rowT,Ty.one] at fR
 |_=>
  have h4:=h3 0 _ rfl;have h5:=(h4.1.oneCell h4.2).1;simp only[rowOf,Ty.rowT,Bool.false_eq_true,if_false] at hj;rw[h5] at hj;cases j with
  |zero=>
   simp only[List.getElem?_toArray,List.getElem?_cons_zero,Option.some.injEq] at hj
   match cs,h1 with
   |[c],_=>simpa using hj
  |succ j=>simp at hj
section
variable {H:Type} {enc:TypeId×Value→H} {P:Program} {w:World} {base:Nat} {held:Bool} {cap:Nat→Option CSig}
theorem acY {k:IntKind}{n:Int}(h:(Lit.int k n).wf=true):k.min≤n∧n≤k.max:=by
 simpa [Lit.wf] using h
theorem abc {n m:Nat}(ih:∀(t:TypeId) (cs:List Value) (x:DataW H×List MemPlace) (ty:Ty),DataW.trod enc P w base (fun _=>true) held n t cs=some x→eY P m t=some ty→∃ds,kF cap (kV w) ty.flat cs ds):
 ∀(fs:List Field) (off:Nat) (cs:List Value) (ts:List Ty),wJ P (eY P m) fs off=some ts→cs.length=off+ts.length→
  (∀f,f∈fs→∃x,DataW.trod enc P w base (fun _=>true) held n f.type ((cs.drop f.offset).take (P.cellsOf f.type))=some x)→∃ds,kF cap (kV w) ts (cs.drop off) ds
 |[],off,cs,ts,h,hl,_=>by
  simp only[wJ,Option.some.injEq] at h;subst h;have:cs.drop off=[]:=by simp at hl ⊢;omega
  rw[this];exact⟨[],rfl,rfl,fun i u hu=>by simp at hu⟩
 |f::fs,off,cs,ts,h,hl,hx=>by
  simp only[wJ,Option.bind_eq_some_iff] at h;obtain⟨ft,hft,h⟩:=h;cases hb:(Nat.beq f.offset off&&Nat.beq (P.cellsOf f.type) ft.flat.length)<;>simp only[hb,cond_true,cond_false] at h
  ·cases h
  simp only[Option.map_eq_some_iff] at h;obtain⟨us,hus,rfl⟩:=h;simp only[Bool.and_eq_true] at hb;have e1:=cq hb.1;have e2:=cq hb.2;obtain⟨x,lL⟩:=hx f (List.mem_cons_self ..);rw[e1,e2] at lL;obtain⟨yM,gi⟩:=ih _ _ _ _ lL hft;simp only[List.length_append] at hl;obtain⟨ds2,nJ⟩:=abc ih fs (off+ft.flat.length) cs us hus (by omega) fun g hg=>hx g (List.mem_cons_of_mem _ hg);refine⟨yM++ds2,?_⟩;have:=gi.append nJ;rw[←List.drop_drop,List.take_append_drop] at this;exact this
theorem aw3:∀(n m:Nat) (t:TypeId) (cs:List Value) (x:DataW H×List MemPlace) (ty:Ty),DataW.trod enc P w base (fun _=>true) held n t cs=some x→eY P m t=some ty→∃ds,kF cap (kV w) ty.flat cs ds:=by
 intro n
 induction n with
 |zero=>intro m t cs x ty h;simp[DataW.trod] at h
 |succ n ih=>
  intro m t cs x ty h aW;cases m with
  |zero=>simp[eY] at aW
  |succ m=>
   simp only[eY] at aW;split at aW
   ·rename_i hu;cases aW;obtain⟨b,rfl,_⟩:=DataW.trod_bool hu h;exact⟨_,.one (.bool b) rfl⟩
   ·rename_i k hu;cases aW;obtain⟨z,rfl,_,hw⟩:=DataW.trod_int hu h;exact⟨_,.one (.int k z (acY hw).1 (acY hw).2) rfl⟩
   ·rename_i hu;cases aW;obtain⟨s,rfl,_,hs⟩:=DataW.trod_string hu h;exact⟨_,.one (.str s hs) rfl⟩
   ·rename_i e hu;have sH:∃(m':Nat) (te rv:Ty),eY P m' e=some te∧P.cellsOf e=te.flat.length∧1≤te.flat.length∧ty=.slice rv∧rv.unf=te:=by
     cases ht:px P e<;>simp only[ht,cond_true,cond_false] at aW
     ·simp only[Option.bind_eq_some_iff] at aW;obtain⟨te,sH,aW⟩:=aW;cases hb:(Nat.beq (P.cellsOf e) te.flat.length&&Nat.ble 1 te.flat.length)<;>simp only[hb,cond_true,cond_false] at aW
      ·cases aW
      cases aW;simp only[Bool.and_eq_true] at hb;exact⟨m,te,te,sH,cq hb.1,Nat.le_of_ble_eq_true hb.2,rfl,Ty.unf_ro (PB sH)⟩
     ·cases aW;obtain⟨k1,k2⟩:=ao9 ht 0;exact⟨2,.trmA,.trm,k1,k2,by decide,rfl,rfl⟩
    obtain⟨m',te,rv,sH,e1,e2,rfl,kU⟩:=sH;have fR:=PB sH;rcases DataW.trod_slice hu h with⟨rfl,_⟩|⟨a,len,cp,elems,rest,n',gA,rfl,_,hba,hl,hm,hlen,gy,qH,_⟩
    ·exact⟨_,.one (.nil rv) rfl⟩
    ·cases gA;obtain⟨hrl,qC⟩:=qH rfl
     have mI:∀i,i<cp→∃ci y,w.cells? base (a.add (i*P.cellsOf e)) (P.cellsOf e)=some ci∧DataW.trod enc P w base (fun _=>true) held n e ci=some y:=by
      intro i hi
      have fj:∃y,(w.cells? base (a.add (i*P.cellsOf e)) (P.cellsOf e)).bind (DataW.trod enc P w base (fun _=>true) held n e)=some y:=by
           by_cases Ee:i<len
           ·rw[gy i Ee];exact⟨_,List.getElem?_eq_getElem (by omega)⟩
           ·have:=qC (i-len) (by omega);rw[show len+(i-len)=i by omega] at this;rw[this];exact⟨_,List.getElem?_eq_getElem (by omega)⟩
      obtain⟨y,hy⟩:=fj;rw[Option.bind_eq_some_iff] at hy;obtain⟨ci,h1,h2⟩:=hy;exact⟨ci,y,h1,h2⟩
     by_cases zo:cp=0
     ·subst zo;have:len=0:=by omega
      subst this;exact⟨_,.one (.emp rv a) rfl⟩
     ·have VV:a.spot=none:=by
           obtain⟨ci,y,h1,_⟩:=mI 0 (by omega);obtain⟨_,_,h3⟩:=World.cells?_some h1;have:=h3 0 (by omega);simp only[Nat.zero_mul,Addr.add,if_true] at this;unfold World.cell? at this;cases hs:a.spot with
           |none=>rfl
           |some s=>
            exfalso;have hl:ci.length=P.cellsOf e:=(World.cells?_some h1).2.1;split at this
            ·rw[hs] at this;simp at this;subst this;simp at hl;omega
            ·rw[eq_comm,List.getElem?_eq_none_iff] at this;omega
      obtain⟨k,o,s⟩:=a;simp only at VV;subst VV;have aQ:∀i,∃p:List Value×List D,i<len→w.cells? base ((⟨k,o,none⟩:Addr).add (i*P.cellsOf e)) (P.cellsOf e)=some p.1∧kF cap (kV w) te.flat p.1 p.2:=by
           intro i;by_cases hi:i<len
           ·obtain⟨ci,y,h1,h2⟩:=mI i (by omega);obtain⟨ds,hr⟩:=ih m' _ _ _ _ h2 sH;exact⟨(ci,ds),fun _=>⟨h1,hr⟩⟩
           ·exact⟨([],[]),fun h=>absurd h hi⟩
      obtain⟨f,hf⟩:=Classical.axiomOfChoice aQ;refine⟨_,.one (.slice rv k o len cp ((List.range len).map fun i=>TV te.rowT (f i).2) (fun i=>rowOf te.rowT (f i).1) (by simp) hl hm (fun i x hx=>?_) (fun i j u hi hj=>?_)) rfl⟩
      ·rw[List.getElem?_map,Option.map_eq_some_iff] at hx;obtain⟨i',cV,rfl⟩:=hx;have ah:i<len:=by have:=(List.getElem?_eq_some_iff.1 cV).1;simpa using this
       rw[List.getElem?_range ah] at cV;cases cV;rw[kU];exact Rep.ofRow fR (hf i ah).2
      ·obtain⟨h1,h2⟩:=hf i hi;have dX:=aup fR h2 hj;obtain⟨_,h4,h5⟩:=World.cells?_some h1;have eR:j<P.cellsOf e:=by rw[←h4];exact(List.getElem?_eq_some_iff.1 dX).1
       have:=h5 j eR;rw[dX] at this;show w.cell? ⟨k,o+i*rv.size+j,none⟩=some u;rw[←rv.unf_size,kU,←ajx,←e1,←this]
       congr 1
       simp only[Addr.add];split<;>split<;>simp_all
   ·rename_i fs hu;simp only[Option.bind_eq_some_iff] at aW;obtain⟨ts,EG,aW⟩:=aW;cases hb:Nat.beq (P.cellsOf t) ts.length<;>simp only[hb,cond_true,cond_false] at aW
    ·cases aW
    cases aW;obtain⟨xs,n',gA,_,hl,sL,hf⟩:=DataW.trod_struct hu h;cases gA
    have:=abc (ih m) fs.toList 0 cs ts EG (by rw[hl,cq hb];omega) (fun f hm=>by
     obtain⟨i,hi⟩:=List.getElem?_of_mem hm;have cV:fs[i]?=some f:=by simpa using hi
     have h1:=hf i f cV;have ah:i<fs.size:=(Array.getElem?_eq_some_iff.1 cV).1;exact⟨_,h1.trans (List.getElem?_eq_getElem (by omega))⟩)
    show ∃ds,kF cap (kV w) ts cs ds;simpa using this
   ·cases aW
theorem xA {base:Nat}{t:TypeId}{v:Value}(h:Cell.okWide P w .any base t v):v.cells=#[v]:=by
 cases v<;>first|rfl|(exfalso;simp only[Cell.okWide,Cell.ok] at h;revert h;cases P.underlying t with|none=>simp|some T=>cases T<;>simp)
theorem adB {base base':Nat}{m:Nat}{t:TypeId}{v:Value}{d:DataW H}{ps:List MemPlace}{ty:Ty}(ax:Value.okWide P w .any base' t v)(h:DataW.Trod enc P w base (fun _=>true) held t v d ps)(aW:eY P m t=some ty):∃d,Rep cap (kV w) ty v d:=by
 obtain⟨fuel,h⟩:=h;obtain⟨ds,hr⟩:=aw3 (cap:=cap) fuel m t _ _ _ h aW;have bH:=Rep.ofRow (PB aW) hr;cases m with
 |zero=>simp[eY] at aW
 |succ m=>
  suffices hs:rowOf ty.rowT v.cells.toList=v by rw[hs] at bH;exact⟨_,bH⟩
  simp only[eY] at aW;unfold Value.okWide at ax;split at aW
  ·rename_i hu;cases aW;rw[hu] at ax;simp only at ax;rw[xA ax];rfl
  ·rename_i hu;cases aW;rw[hu] at ax;simp only at ax;rw[xA ax];rfl
  ·rename_i hu;cases aW;rw[hu] at ax;simp only at ax;rw[xA ax];rfl
  ·rename_i e hu;cases ht:px P e<;>simp only[ht,cond_true,cond_false] at aW
   ·simp only[Option.bind_eq_some_iff] at aW;obtain⟨te,_,aW⟩:=aW;cases hb:(Nat.beq (P.cellsOf e) te.flat.length&&Nat.ble 1 te.flat.length)<;>simp only[hb,cond_true,cond_false] at aW
    ·cases aW
    cases aW;rw[hu] at ax;simp only at ax;rw[xA ax];rfl
   ·cases aW;rw[hu] at ax;simp only at ax;rw[xA ax];rfl
  ·rename_i fs hu;simp only[Option.bind_eq_some_iff] at aW;obtain⟨ts,_,aW⟩:=aW;cases hb:Nat.beq (P.cellsOf t) ts.length<;>simp only[hb,cond_true,cond_false] at aW
   ·cases aW
   cases aW;rw[hu] at ax;obtain⟨cs,rfl,_⟩:=ax;simp[rowOf,Ty.rowT,Value.cells]
  ·cases aW
def BL (P:Program)(m:Nat):List TypeId→Option (List Ty)
 |[]=>some []
 |t::ts=>(eY P m t).bind fun x=>(BL P m ts).map (x::·)
theorem Su {base base' m:Nat}:∀(ts:List TypeId) (vs:List Value) (ds:List (DataW H)) (ps:List MemPlace) (eA:List Ty),DataW.TrodAll enc P w base (fun _=>true) held ts vs ds ps→BL P m ts=some eA→
 (∀(j:Nat) t v,ts[j]?=some t→vs[j]?=some v→Value.okWide P w .any base' t v)→
 ∃es:List D,vs.length=eA.length∧es.length=eA.length∧∀(i:Nat) (t:Ty),eA[i]?=some t→Rep cap (kV w) t (vs.getD i undef) (es.getD i .none)
 |[],vs,ds,ps,eA,h,aW,_=>by
  simp only[BL,Option.some.injEq] at aW;subst aW;cases vs with
  |nil=>exact⟨[],rfl,rfl,fun i t h=>by simp at h⟩
  |cons=>cases ds<;>exact h.elim
 |t::ts,vs,ds,ps,eA,h,aW,ax=>by
  simp only[BL,Option.bind_eq_some_iff,Option.map_eq_some_iff] at aW;obtain⟨ty,aoJ,aw8,aoK,rfl⟩:=aW;cases vs with
  |nil=>cases ds<;>exact h.elim
  |cons v vs=>
   cases ds with
   |nil=>exact h.elim
   |cons d ds=>
    obtain⟨p,q,h1,h2,_⟩:=h;obtain⟨e,he⟩:=adB (cap:=cap) (ax 0 t v rfl rfl) h1 aoJ;obtain⟨es,k1,k2,k3⟩:=Su ts vs ds q aw8 h2 aoK (fun j t' v' hj hv=>ax (j+1) t' v' hj hv);refine⟨e::es,by simp[k1],by simp[k2],fun i u hu=>?_⟩;cases i with
    |zero=>simp at hu;subst hu;exact he
    |succ i=>simpa using k3 i u (by simpa using hu)
end
mutual
inductive DTy:Ty→D→Prop where
 |int (k:IntKind) (n:Int) (h1:k.min≤n) (h2:n≤k.max):DTy (.int k) (.v (.int k n))
 |bool (b:Bool):DTy .bool (.v (.bool b))
 |str (s:ByteArray) (h:s.size≤maxLen):DTy .str (.v (.string s))
 |slice (e:Ty) (xs:List D) (hm:xs.length≤maxLen) (h:∀x,x∈xs→DTy e.unf x):DTy (.slice e) (.list xs)
 |agg (ts:List Ty) (ds:List D) (h:DTys ts ds):DTy (.agg ts) (.agg ds)
 |other (t:Ty) (d:D) (h:match t with|.int _|.bool|.str|.slice _|.agg _=>False|_=>True):DTy t d
inductive DTys:List Ty→List D→Prop where
 |nil:DTys [] []
 |cons {t:Ty} {d:D} {ts:List Ty} {ds:List D} (h:DTy t d) (hs:DTys ts ds):DTys (t::ts) (d::ds)
end
theorem DTys.of_get:∀{ts:List Ty} {ds:List D},ds.length=ts.length→(∀(i:Nat) (t:Ty),ts[i]?=some t→DTy t (ds.getD i .none))→DTys ts ds
 |[],[],_,_=>.nil
 |t::ts,d::ds,hl,h=>.cons (h 0 t rfl) (DTys.of_get (by simpa using hl) fun i u hu=>by simpa using h (i+1) u (by simpa using hu))
 |[],_::_,hl,_=>by simp at hl
 |_::_,[],hl,_=>by simp at hl
theorem Rep.dty {cap:Nat→Option CSig}{σ:Im}{t:Ty}{v:Value}{d:D}(h:Rep cap σ t v d):DTy t d:=by
 induction h with
 |int k n h1 h2=>exact .int k n h1 h2
 |bool b=>exact .bool b
 |str s h=>exact .str s h
 |agg ts vs ds h1 h2 _ ho ih=>exact .agg ts ds (.of_get h2 ih)
 |nil e=>exact .slice e [] (by decide) (fun x hx=>by cases hx)
 |emp e a=>exact .slice e [] (by decide) (fun x hx=>by cases hx)
 |slice e k o n c xs vs hn hc hm _ hv ih=>
  refine .slice e xs (by omega) fun x hx=>?_;obtain⟨i,hi⟩:=List.getElem?_of_mem hx;exact ih i x hi
 |_=>exact .other _ _ trivial
theorem apl {H:Type}{enc:TypeId×Value→H}{C:Ctx}{f:Nat}{fn:Func}{sg:Sig}{spec:ChangeSpec}{tb:TypeId}{apart fresh handsOn again:Bool}(hl:laidOutB C.P=true)
 (qF:BL C.P 12 fn.params.toList=some sg.args) (aoc:fn.params.toList.all (fun t=>C.P.readableRec t&&decide (t<C.P.types.size))=true) (LZ:spec.vars=[])
 (aou:∀ds:List (DataW H),ds.length=fn.params.size→(spec.fn H ds).results=[.lit (.bool true)]∧(spec.fn H ds).args=ds∧(spec.fn H ds).vars=[])
 (jE:fn.resultTypes=#[tb]) (V0:C.P.underlying tb=some .bool) (mJ:sg.mode=.dat) (qD:sg.res=.bool)
 (Lb:∀ds,DTys sg.args ds→jU C f sg ds (.v (.bool true)))
 (W:World) (K0:CtxOK C (kV W)) (base:Nat) (args:Array Value) (ds gs:List (DataW H)) (before:List MemPlace)
 (cj:∀(j:Nat) t v,fn.params[j]?=some t→args[j]?=some v→Value.okWide C.P W .any base t v)
 (hW:DataW.Whole enc C.P fn.params.toList spec.vars apart W args.toList ds gs before):
 Calls C.P f args W fun e W'=>∃v,e=.returned v∧spec.post enc C.P fn apart fresh handsOn again W args v W':=by
 have DY:=hW;have ah:∀p∈before,p.block<W.heap.size:=fun p hp=>DY.lt p hp;obtain⟨p,q,hA,hV,rfl,zz,aZ⟩:=hW;rw[LZ] at hV;obtain⟨rfl,rfl⟩:=trodVars_none hV;obtain⟨es,k1,k2,k3⟩:=Su (cap:=C.cap) (base':=base) fn.params.toList args.toList ds p sg.args hA qF (fun j t v hj hv=>cj j t v (by simpa using hj) (by simpa using hv));have aW:DTys sg.args es:=.of_get k2 fun i t ht=>(k3 i t ht).dty
 have hlen:∀(ts:List TypeId) (vs:List Value) (ds:List (DataW H)) (ps:List MemPlace),DataW.TrodAll enc C.P W 0 (fun _=>true) true ts vs ds ps→ds.length=ts.length:=by
  intro ts
  induction ts with
  |nil=>intro vs ds ps h;cases vs<;>cases ds<;>first|rfl|exact h.elim
  |cons t ts ih=>
   intro vs ds ps h;cases vs with
   |nil=>cases ds<;>exact h.elim
   |cons v vs=>cases ds with
    |nil=>exact h.elim
    |cons d ds=>obtain⟨p,q,_,h2,_⟩:=h;simp[ih vs ds q h2]
 have KQ:ds.length=fn.params.size:=by simpa using hlen _ _ _ _ hA
 obtain⟨s1,s2,s3⟩:=aou (ds++[]) (by simpa using KQ);refine(Lb es aW (kV W) W args (ao4 W) K0 ⟨k1,k2,k3⟩).mono fun e W' hh=>?_;obtain⟨v,σ',rfl,_,_,hb,_,_,hr⟩:=hh;refine⟨v,rfl,?_⟩;simp only[nk,mJ,qD] at hr;obtain⟨b,rfl,sd⟩:=hr.bool_inv;cases sd
 have stays:∀(sp:Nat→Bool) (ts:List TypeId) (vs:List Value) (ds:List (DataW H)) (ps:List MemPlace),ts.all (fun t=>C.P.readableRec t&&decide (t<C.P.types.size))=true→(∀x∈ps,x.block<W.heap.size)→(∀x∈ps,sp x.block=true)→
  DataW.TrodAll enc C.P W 0 (fun _=>true) true ts vs ds ps→DataW.TrodAll enc C.P W' 0 sp true ts vs ds ps:=by
  intro sp ts
  induction ts with
  |nil=>intro vs ds ps _ _ _ h;cases vs<;>cases ds<;>first|exact h|exact h.elim
  |cons t ts ih=>
   intro vs ds ps ha pj qH h;cases vs with
   |nil=>cases ds<;>exact h.elim
   |cons v vs=>cases ds with
    |nil=>exact h.elim
    |cons d ds=>
     obtain⟨p,q,h1,h2,rfl⟩:=h;simp only[List.all_cons,Bool.and_eq_true,decide_eq_true_eq] at ha
     exact⟨p,q,WideElems.Trod_stays hl ha.1.1 ha.1.2 h1 (fun x hx=>hb.same (pj x (List.mem_append_left _ hx))) (fun x hx=>qH x (List.mem_append_left _ hx)),
      ih vs ds q (by simpa using ha.2) (fun x hx=>pj x (List.mem_append_right _ hx)) (fun x hx=>qH x (List.mem_append_right _ hx)) h2,rfl⟩
 have Vy:∀x∈p,x.block<W.heap.size:=fun x hx=>ah x (List.mem_append_left _ hx);have gO:=fun sp (h:∀x∈p,sp x.block=true)=>stays sp _ _ _ _ aoc Vy h hA;have qC:∀(b:Nat) (sp:Nat→Bool) (hd:Bool),DataW.TrodAll enc C.P W' b sp hd fn.resultTypes.toList ((Value.bool true).resultList fn.resultTypes.size) [.lit (.bool true)] []:=by
  intro b sp hd;rw[jE];exact trodAll_mk1 (shut_bool V0 true)
 refine⟨ds,[],p++[],[],p,[],DY,?_,?_,?_,World.keptBut_mono (fun x hx=>⟨hx,?_⟩) (hb.frame (·∈p++[])),fun _=>?_⟩
 ·rw[s1];exact qC _ _ _
 ·rw[s2];simpa using gO _ (fun x hx=>by simpa using Vy x hx)
 ·rw[s3,LZ];rfl
 ·simpa using hx
 ·refine⟨ok_one jE rfl (okWide_bool_mk V0 true),_,[],([]++p)++[],⟨[]++p,[],trodAll_append (gO _ (fun _ _=>rfl)) (qC _ _ _),by rw[LZ];exact rfl,rfl,?_,?_⟩,?_⟩
  ·intro b off hp;have bx:MemPlace.cell b off∈p++[]:=by simpa using hp
   rw[hb.frozen (ah _ bx)];exact zz b off bx
  ·intro ha;simpa using aZ ha
  ·intro x hx _;simpa using hx
end Cx
namespace Cx
open Go Go.RowKit
abbrev cd:=Nat→aL
def ao (T:cd)(f:Nat)(ds:List D)(d:D):Prop:=∃n0,∀n,n0≤n→T n f ds=some d
def tZ (T:cd)(l:List PI)(ρ:Env)(Q:Env→Prop):Prop:=∃ρ',Q ρ'∧∃n0,∀n,n0≤n→PI.runs (T n) l ρ=some ρ'
def aT (T:cd)(c:PC)(ρ:Env)(Q:Out→Prop):Prop:=∃x,Q x∧∃n0,∀n,n0≤n→c.ev (T n) n ρ=some x
theorem aT.mono {T:cd}{c:PC}{ρ:Env}{Q Q':Out→Prop}(h:aT T c ρ Q)(hq:∀x,Q x→Q' x):aT T c ρ Q':=by
 obtain⟨x,hx,n0,hn⟩:=h;exact⟨x,hq x hx,n0,hn⟩
theorem tZ.nil {T:cd}{ρ:Env}{Q:Env→Prop}(h:Q ρ):tZ T [] ρ Q:=⟨ρ,h,0,fun _ _=>rfl⟩
theorem tZ.cons {T:cd}{p:PI}{l:List PI}{ρ ρ1:Env}{Q:Env→Prop}{n0:Nat}(h:∀n,n0≤n→p.run (T n) ρ=some ρ1)(k:tZ T l ρ1 Q):tZ T (p::l) ρ Q:=by
 obtain⟨ρ',hQ,n1,h1⟩:=k;exact⟨ρ',hQ,max n0 n1,fun n hn=>by simp[PI.runs,h n (by omega),h1 n (by omega)]⟩
def fG (T:cd):List PI→Env→(Env→Prop)→Prop
 |[],ρ,Q=>Q ρ
 |.setR t e::l,ρ,Q=>fG T l (ρ.setR t (e.ev ρ)) Q
 |.setO t e::l,ρ,Q=>fG T l (ρ.setO t (e.ev ρ)) Q
 |.chk e::l,ρ,Q=>(e.ev ρ).b=true∧fG T l ρ Q
 |.call gs dst f args::l,ρ,Q=>if holds gs ρ=true then ∃d,ao T f (PE.evs ρ args) d∧fG T l (ρ.setR dst d) Q else fG T l ρ Q
 |.callc gs dst e args::l,ρ,Q=>if holds gs ρ=true then ∃f caps d,e.ev ρ=.clo f caps∧ao T f (PE.evs ρ args++caps) d∧fG T l (ρ.setR dst d) Q else fG T l ρ Q
 |.mcall j f args::l,ρ,Q=>∃d,ao T f (PE.evs ρ args) d∧fG T l (ρ.setO j d) Q
theorem pX {T:cd}:∀{l:List PI} {ρ:Env} {Q:Env→Prop},fG T l ρ Q→tZ T l ρ Q
 |[],ρ,Q,h=>.nil h
 |.setR t e::l,ρ,Q,h=>.cons (n0:=0) (fun _ _=>rfl) (pX h)
 |.setO t e::l,ρ,Q,h=>.cons (n0:=0) (fun _ _=>rfl) (pX h)
 |.chk e::l,ρ,Q,h=>.cons (n0:=0) (fun n _=>by simp[PI.run,h.1]) (pX h.2)
 |.call gs dst f args::l,ρ,Q,h=>by
  unfold fG at h;split at h
  ·rename_i hg;obtain⟨d,⟨n0,hn⟩,h⟩:=h;exact .cons (n0:=n0) (fun n hle=>by simp[PI.run,hg,hn n hle]) (pX h)
  ·rename_i hg;exact .cons (n0:=0) (fun n hle=>by simp[PI.run,hg]) (pX h)
 |.callc gs dst e args::l,ρ,Q,h=>by
  unfold fG at h;split at h
  ·rename_i hg;obtain⟨f,caps,d,he,⟨n0,hn⟩,h⟩:=h;exact .cons (n0:=n0) (fun n hle=>by simp[PI.run,hg,he,hn n hle]) (pX h)
  ·rename_i hg;exact .cons (n0:=0) (fun n hle=>by simp[PI.run,hg]) (pX h)
 |.mcall j f args::l,ρ,Q,h=>by
  obtain⟨d,⟨n0,hn⟩,h⟩:=h;exact .cons (n0:=n0) (fun n hle=>by simp[PI.run,hn n hle]) (pX h)
def jh (ρ:Env)(lr lo:List Nat)(Q:Out→Prop):Out→Prop
 |.next ρ'=>Q (.next (ρ.join lr lo ρ'))
 |x=>Q x
def jY (ρ:Env)(id:Nat)(lr lo:List Nat)(Q:Out→Prop):Out→Prop
 |.next ρ'=>Q (.next (ρ.join lr lo ρ'))
 |.exit bF ρ'=>if bF=id then Q (.next (ρ.join lr lo ρ')) else Q (.exit bF ρ')
 |.ret d=>Q (.ret d)
def fF (K:Env→Prop)(Q:Out→Prop):Out→Prop
 |.next ρ'=>K ρ'
 |.exit id ρ'=>Q (.exit id ρ')
 |.ret d=>Q (.ret d)
theorem aT.is {T:cd}{l:List PI}{ρ:Env}{Q:Out→Prop}(h:fG T l ρ fun ρ'=>Q (.next ρ')):aT T (.is l) ρ Q:=by
 obtain⟨ρ',hQ,n0,hn⟩:=pX h;exact⟨.next ρ',hQ,n0,fun n hle=>by simp[PC.ev,hn n hle]⟩
theorem aT.skip {T:cd}{ρ:Env}{Q:Out→Prop}(h:Q (.next ρ)):aT T .skip ρ Q:=⟨_,h,0,fun _ _=>rfl⟩
theorem aT.exit {T:cd}{ρ:Env}{id:Nat}{Q:Out→Prop}(h:Q (.exit id ρ)):aT T (.exit id) ρ Q:=⟨_,h,0,fun _ _=>rfl⟩
theorem aT.ret {T:cd}{ρ:Env}{e:PE}{Q:Out→Prop}(h:Q (.ret (e.ev ρ))):aT T (.ret e) ρ Q:=⟨_,h,0,fun _ _=>rfl⟩
theorem aT.seq {T:cd}{a b:PC}{ρ:Env}{Q:Out→Prop}(h:aT T a ρ (fF (fun ρ'=>aT T b ρ' Q) Q)):aT T (.seq a b) ρ Q:=by
 obtain⟨x,hx,n0,hn⟩:=h;cases x with
 |next ρ'=>
  obtain⟨y,hy,n1,h1⟩:=hx;exact⟨y,hy,max n0 n1,fun n hle=>by simp[PC.ev,hn n (by omega),h1 n (by omega)]⟩
 |exit id ρ'=>exact⟨_,hx,n0,fun n hle=>by simp[PC.ev,hn n hle]⟩
 |ret d=>exact⟨_,hx,n0,fun n hle=>by simp[PC.ev,hn n hle]⟩
theorem aT.ite {T:cd}{c:PE}{lr lo:List Nat}{a b:PC}{ρ:Env}{Q:Out→Prop}(h:if(c.ev ρ).b=true then aT T a ρ (jh ρ lr lo Q) else aT T b ρ (jh ρ lr lo Q)):aT T (.ite c lr lo a b) ρ Q:=by
 split at h
 all_goals
  rename_i hc;obtain⟨x,hx,n0,hn⟩:=h;cases x with
  |next ρ'=>exact⟨_,hx,n0,fun n hle=>by simp[PC.ev,hc,hn n hle]⟩
  |exit id ρ'=>exact⟨_,hx,n0,fun n hle=>by simp[PC.ev,hc,hn n hle]⟩
  |ret d=>exact⟨_,hx,n0,fun n hle=>by simp[PC.ev,hc,hn n hle]⟩
theorem aT.block {T:cd}{id:Nat}{lr lo:List Nat}{a:PC}{ρ:Env}{Q:Out→Prop}(h:aT T a ρ (jY ρ id lr lo Q)):aT T (.block id lr lo a) ρ Q:=by
 obtain⟨x,hx,n0,hn⟩:=h;cases x with
 |next ρ'=>exact⟨_,hx,n0,fun n hle=>by simp[PC.ev,hn n hle]⟩
 |exit bF ρ'=>
  simp only[jY] at hx;split at hx
  ·rename_i e;subst e;exact⟨_,hx,n0,fun n hle=>by simp[PC.ev,hn n hle]⟩
  ·rename_i e;exact⟨_,hx,n0,fun n hle=>by simp[PC.ev,hn n hle,dI e]⟩
 |ret d=>exact⟨_,hx,n0,fun n hle=>by simp[PC.ev,hn n hle]⟩
theorem aT.loop {T:cd}{lr lo:List Nat}{a:PC}{ρ:Env}{Q:Out→Prop}{α:Type}(inv:α→List D→List D→Prop)(qU:α→Nat)(s0:α)(h0:inv s0 (lr.map ρ.r) (lo.map ρ.o))
 (step:∀s vr vo,inv s vr vo→aT T a (ρ.put lr vr lo vo) (fF (fun ρ'=>∃s',qU s'<qU s∧inv s' (lr.map ρ'.r) (lo.map ρ'.o)) Q)):aT T (.loop lr lo a) ρ Q:=by
 have key:∀(m:Nat) (s:α) (vr vo:List D),qU s≤m→inv s vr vo→∃x,Q x∧∃n0,∀n k,n0≤n→n0≤k→eH (a.ev (T n) n) ρ lr lo k vr vo=some x:=by
  intro m
  induction m with
  |zero=>
   intro s vr vo hm hi;obtain⟨x,hx,n0,hn⟩:=step s vr vo hi;cases x with
   |next ρ'=>obtain⟨s',ah,_⟩:=hx;omega
   |exit id ρ'=>
    refine⟨_,hx,n0+1,fun n k hle hk=>?_⟩;obtain⟨k',rfl⟩:∃k',k=k'+1:=⟨k-1,by omega⟩
    simp[eH,hn n (by omega)]
   |ret d=>
    refine⟨_,hx,n0+1,fun n k hle hk=>?_⟩;obtain⟨k',rfl⟩:∃k',k=k'+1:=⟨k-1,by omega⟩
    simp[eH,hn n (by omega)]
  |succ m ih=>
   intro s vr vo hm hi;obtain⟨x,hx,n0,hn⟩:=step s vr vo hi;cases x with
   |next ρ'=>
    obtain⟨s',ah,cV⟩:=hx;obtain⟨y,hy,n1,h1⟩:=ih s' _ _ (by omega) cV;refine⟨y,hy,max n0 n1+1,fun n k hle hk=>?_⟩;obtain⟨k',rfl⟩:∃k',k=k'+1:=⟨k-1,by omega⟩
    simp[eH,hn n (by omega),h1 n k' (by omega) (by omega)]
   |exit id ρ'=>
    refine⟨_,hx,n0+1,fun n k hle hk=>?_⟩;obtain⟨k',rfl⟩:∃k',k=k'+1:=⟨k-1,by omega⟩
    simp[eH,hn n (by omega)]
   |ret d=>
    refine⟨_,hx,n0+1,fun n k hle hk=>?_⟩;obtain⟨k',rfl⟩:∃k',k=k'+1:=⟨k-1,by omega⟩
    simp[eH,hn n (by omega)]
 obtain⟨x,hx,n0,hn⟩:=key (qU s0) s0 _ _ (Nat.le_refl _) h0;exact⟨x,hx,n0,fun n hle=>by simp only[PC.ev];exact hn n n hle hle⟩
def qj (ρ:Env)(lo:List Nat)(rt:Option PE)(K:List D→Prop)(Q:Out→Prop):Out→Prop
 |.next ρ'=>K (lo.map ρ'.o)
 |.exit id ρ'=>if id=cl then ∃e,rt=some e∧Q (.ret (e.ev (ρ.put [] [] lo (lo.map ρ'.o)))) else Q (.exit id (ρ.put [] [] lo (lo.map ρ'.o)))
 |.ret _=>False
theorem aT.each {T:cd}{e:PE}{ps lo:List Nat}{rt:Option PE}{a:PC}{ρ:Env}{Q:Out→Prop}(xs:List D)(he:(e.ev ρ).l=xs)(inv:Nat→List D→Prop)(h0:inv 0 (lo.map ρ.o))
 (step:∀k x vo,xs[k]?=some x→inv k vo→aT T a (ρ.put ps (partsOf ps x) lo vo) (qj ρ lo rt (inv (k+1)) Q)) (done:∀vo,inv xs.length vo→Q (.next (ρ.put [] [] lo vo))):aT T (.each e ps lo rt a) ρ Q:=by
 have key:∀(r k:Nat) (vo:List D),k+r=xs.length→inv k vo→∃x,Q x∧∃n0,∀n,n0≤n→ff (a.ev (T n) n) ρ ps lo rt (xs.drop k) vo=some x:=by
  intro r
  induction r with
  |zero=>
   intro k vo hk hi;have:xs.drop k=[]:=by rw[List.drop_eq_nil_iff];omega
   obtain rfl:k=xs.length:=by omega
   exact⟨_,done vo hi,0,fun n _=>by rw[this];rfl⟩
  |succ r ih=>
   intro k vo hk hi;have ah:k<xs.length:=by omega
   rw[List.drop_eq_getElem_cons ah];obtain⟨y,hy,n0,hn⟩:=step k xs[k] vo (List.getElem?_eq_getElem ah) hi;cases y with
   |next ρ'=>
    obtain⟨z,hz,n1,h1⟩:=ih (k+1) _ (by omega) hy;exact⟨z,hz,max n0 n1,fun n hle=>by simp only[ff,hn n (by omega)];exact h1 n (by omega)⟩
   |exit id ρ'=>
    simp only[qj] at hy;split at hy
    ·rename_i cf;obtain⟨e,h1,h2⟩:=hy;exact⟨_,h2,n0,fun n hle=>by subst cf;simp[ff,hn n hle,h1]⟩
    ·rename_i cf;exact⟨_,hy,n0,fun n hle=>by simp[ff,hn n hle,dI cf]⟩
   |ret d=>exact hy.elim
 obtain⟨x,hx,n0,hn⟩:=key xs.length 0 _ (by omega) h0;exact⟨x,hx,n0,fun n hle=>by simp only[PC.ev,he];exact hn n hle⟩
theorem aaf {α:Type}:∀(l:List α),∃L:List (List α),∀ys,ys∈L↔ys.Perm l
 |[]=>⟨[[]],fun ys=>by simp⟩
 |x::l=>by
  obtain⟨L,hL⟩:=aaf l;refine⟨L.flatMap fun ys=>(List.range (ys.length+1)).map fun i=>ys.take i++x::ys.drop i,fun zs=>?_⟩;simp only[List.mem_flatMap,List.mem_map,List.mem_range];constructor
  ·rintro⟨ys,hy,i,_,rfl⟩;have h1:=(hL ys).1 hy;refine(List.perm_middle).trans (.cons x ?_);rw[List.take_append_drop];exact h1
  ·intro h;have hx:x∈zs:=h.symm.subset (List.mem_cons_self ..);obtain⟨s,t,rfl⟩:=List.append_of_mem hx;refine⟨s++t,(hL _).2 ?_,s.length,by simp;omega,by simp⟩;exact(List.perm_cons x).1 ((List.perm_middle).symm.trans h)
theorem aT.meach {T:cd}{J:Nat}{ps cm lo:List Nat}{a:PC}{ρ:Env}{Q:Out→Prop}(es:List (D×D))(he:ρ.o J=.tup [.list [],.map es])(inv:List D→List D→Prop)(h0:inv [] (lo.map ρ.o))
 (step:∀done x rest vo,(done++x::rest).Perm (fW (.map es))→inv done vo→aT T a ((ρ.put ps (cm.map x.tget) lo vo).setO J (.tup [.list (done++[x]),.map es])) (fun y=>∃ρ',y=.next ρ'∧inv (done++[x]) (lo.map ρ'.o)))
 (last:∃vo,(∀done,done.Perm (fW (.map es))→∀kB,inv done kB→kB=vo)∧Q (.next (ρ.put [] [] lo vo))):aT T (.meach J ps cm lo a) ρ Q:=by
 obtain⟨vo,hl,hQ⟩:=last;have key:∀(xs done:List D) (vs:List D),(done++xs).Perm (fW (.map es))→inv done vs→∃n0,∀n,n0≤n→jH (a.ev (T n) n) ρ J (.map es) ps cm lo xs done vs=some vo:=by
  intro xs
  induction xs with
  |nil=>intro done vs hp hi;exact⟨0,fun n _=>by rw[hl done (by simpa using hp) vs hi];rfl⟩
  |cons x xs ih=>
   intro done vs hp hi;obtain⟨y,⟨ρ',rfl,cV⟩,n0,hn⟩:=step done x xs vs hp hi;obtain⟨n1,h1⟩:=ih (done++[x]) _ (by simpa using hp) cV;exact⟨max n0 n1,fun n hle=>by simp only[jH,hn n (by omega)];exact h1 n (by omega)⟩
 have kN:∀(L:List (List D)),(∀ys,ys∈L→ys.Perm (fW (.map es)))→∃n0,∀n,n0≤n→∀ys,ys∈L→jH (a.ev (T n) n) ρ J (.map es) ps cm lo ys [] (lo.map ρ.o)=some vo:=by
  intro L
  induction L with
  |nil=>intro _;exact⟨0,fun n _ ys hy=>by cases hy⟩
  |cons y L ih=>
   intro hL;obtain⟨n0,eO⟩:=ih fun ys hy=>hL ys (List.mem_cons_of_mem _ hy);obtain⟨n1,h1⟩:=key y [] _ (by simpa using hL y (List.mem_cons_self ..)) h0;refine⟨max n0 n1,fun n hle ys hy=>?_⟩;rcases List.mem_cons.1 hy with e|hy
   ·subst e;exact h1 n (by omega)
   ·exact eO n (by omega) ys hy
 obtain⟨L,hL⟩:=aaf (fW (.map es));obtain⟨n0,hn⟩:=kN L fun ys hy=>(hL ys).1 hy;refine⟨_,hQ,n0,fun n hle=>?_⟩;simp only[PC.ev,tt];refine⟨vo,⟨by rw[he];rfl,fun ys hy=>?_⟩,rfl⟩;rw[he] at hy ⊢;exact hn n hle ys ((hL ys).2 hy)
theorem bounded {Q:Nat→Nat→Prop}:∀(L:Nat),(∀m,m≤L→∃n0,∀n,n0≤n→Q m n)→∃n0,∀n,n0≤n→∀m,m≤L→Q m n
 |0,h=>by
  obtain⟨n0,hn⟩:=h 0 (Nat.le_refl _)
  exact⟨n0,fun n hle m hm=>by obtain rfl:m=0:=by omega
                              exact hn n hle⟩
 |L+1,h=>by
  obtain⟨n0,hn⟩:=bounded L fun m hm=>h m (by omega);obtain⟨n1,h1⟩:=h (L+1) (Nat.le_refl _);refine⟨max n0 n1,fun n hle m hm=>?_⟩;by_cases e:m=L+1
  ·subst e;exact h1 n (by omega)
  ·exact hn n (by omega) m (by omega)
theorem ao.of_pc {tab:Nat→Option PC}{ext:Nat→Option (aL→List D→Option D)}{f:Nat}{pc:PC}{ds:List D}{d:D}(hx:ext f=none)(ht:tab f=some pc)(h:aT (cv tab ext) pc (iQ ds) (fun x=>x=.ret d)):ao (cv tab ext) f ds d:=by
 obtain⟨x,rfl,n0,hn⟩:=h;refine⟨n0+1,fun n hle=>?_⟩;obtain⟨k,rfl⟩:∃k,n=k+1:=⟨n-1,by omega⟩
 simp[cv,hx,ht,hn k (by omega)]
theorem ao.of_ext {tab:Nat→Option PC}{ext:Nat→Option (aL→List D→Option D)}{f:Nat}{g:aL→List D→Option D}{ds:List D}{d:D}(hx:ext f=some g)(h:∃n0,∀n,n0≤n→g (cv tab ext n) ds=some d):ao (cv tab ext) f ds d:=by
 obtain⟨n0,hn⟩:=h;refine⟨n0+1,fun n hle=>?_⟩;obtain⟨k,rfl⟩:∃k,n=k+1:=⟨n-1,by omega⟩
 simp[cv,hx,hn k (by omega)]
noncomputable def Cc (T:cd)(xs:List D)(m:Nat):cd:=fun n=>yldΦ (T n) xs m
theorem ao.yld {T:cd}{xs:List D}{m f:Nat}{ds:List D}{d:D}(h:ao T f ds d)(hf:f≠kD):ao (Cc T xs m) f ds d:=by
 obtain⟨n0,hn⟩:=h;exact⟨n0,fun n hle=>by simp[Cc,yldΦ,hf,hn n hle]⟩
theorem ao.answer {T:cd}{xs l:List D}{m i:Nat}(hl:l=xs.take (i+1))(hi:i<xs.length)(hm:i≤m):ao (Cc T xs m) kD [.list l] (.v (.bool (decide (i<m)))):=by
 subst hl;refine⟨0,fun n _=>?_⟩;have h1:(xs.take (i+1)).length=i+1:=by rw[List.length_take];omega
 simp only[Cc,yldΦ,if_true,h1];rw[if_pos ⟨by omega,by omega,trivial⟩];rfl
theorem ao.of_it {tab:Nat→Option PC}{ext:Nat→Option (aL→List D→Option D)}{f:Nat}{pc:PC}{J k:Nat}{spec:List D→List D}{ds:List D}(hx:ext f=some (qM pc J k spec))(hk:∀x,x∈spec ds→∃ds',x=.tup ds'∧ds'.length=k)
 (h:∀m,m≤(spec ds).length→aT (Cc (cv tab ext) (spec ds) m) pc (uB J ds) (fun x=>x=.ret (.list ((spec ds).take (m+1))))):ao (cv tab ext) f ds (.list (spec ds)):=by
 refine ao.of_ext hx ?_
 obtain⟨n0,hn⟩:=bounded (Q:=fun m n=>pc.ev (yldΦ (cv tab ext n) (spec ds) m) n (uB J ds)=some (.ret (.list ((spec ds).take (m+1))))) (spec ds).length (fun m hm=>by
  obtain⟨x,rfl,n0,hn⟩:=h m hm;exact⟨n0,hn⟩)
 refine⟨n0,fun n hle=>?_⟩;unfold qM;rw[if_pos];exact⟨fun m hm=>⟨n,hn n hle m hm⟩,hk⟩
theorem yldΦ_mono {Φ Ψ:aL}(h:∀f ds d,Φ f ds=some d→Ψ f ds=some d)(xs:List D)(m:Nat):∀f ds d,yldΦ Φ xs m f ds=some d→yldΦ Ψ xs m f ds=some d:=by
 intro f ds d e;unfold yldΦ at e ⊢;split at e
 ·rename_i hf;rw[if_pos hf];exact e
 ·rename_i hf;rw[if_neg hf];exact h f ds d e
theorem ao.det {T:cd}{f:Nat}{ds:List D}{d d':D}(h:ao T f ds d)(k:ao T f ds d'):d=d':=by
 obtain⟨n0,hn⟩:=h;obtain⟨n1,h1⟩:=k;have:=(hn (max n0 n1) (by omega)).symm.trans (h1 (max n0 n1) (by omega));exact Option.some.inj this
theorem ao.fnOK {C:Ctx}{tab:Nat→Option PC}{ext:Nat→Option (aL→List D→Option D)}(h:TabOK C tab ext){f:Nat}{s:Sig}{ds:List D}{d:D}(hs:C.sig f=some s)(hr:ao (cv tab ext) f ds d)(hm:nO s.mode=false:=by rfl):jU C f s ds d:=by
 obtain⟨n0,hn⟩:=hr;exact((Sk h n0).1 f ds d (hn n0 (Nat.le_refl _)) s hs).1 hm
def Le (Φ Ψ:aL):Prop:=∀f ds d,Φ f ds=some d→Ψ f ds=some d
theorem PI.run_mono {Φ Ψ:aL}(h:Le Φ Ψ){p:PI}{ρ ρ':Env}(hr:p.run Φ ρ=some ρ'):p.run Ψ ρ=some ρ':=by
 cases p with
 |setR t e=>exact hr
 |setO t e=>exact hr
 |chk e=>exact hr
 |call gs d f aa=>
  simp only[PI.run] at hr ⊢;cases hg:holds gs ρ<;>simp only[hg,cond_true,cond_false] at hr ⊢
  ·exact hr
  ·simp only[Option.map_eq_some_iff] at hr ⊢;obtain⟨x,hx,e⟩:=hr;exact⟨x,h _ _ _ hx,e⟩
 |callc gs d f aa=>
  simp only[PI.run] at hr ⊢;cases hg:holds gs ρ<;>simp only[hg,cond_true,cond_false] at hr ⊢
  ·exact hr
  ·split at hr
   ·simp only[Option.map_eq_some_iff] at hr ⊢;obtain⟨x,hx,e⟩:=hr;exact⟨x,h _ _ _ hx,e⟩
   ·cases hr
 |mcall j f aa=>
  simp only[PI.run,Option.map_eq_some_iff] at hr ⊢;obtain⟨x,hx,e⟩:=hr;exact⟨x,h _ _ _ hx,e⟩
theorem PI.runs_mono {Φ Ψ:aL}(h:Le Φ Ψ):∀{l:List PI} {ρ ρ':Env},PI.runs Φ l ρ=some ρ'→PI.runs Ψ l ρ=some ρ'
 |[],ρ,ρ',hr=>hr
 |p::l,ρ,ρ',hr=>by
  simp only[PI.runs,Option.bind_eq_some_iff] at hr ⊢;obtain⟨x,hx,e⟩:=hr;exact⟨x,PI.run_mono h hx,PI.runs_mono h e⟩
theorem WH {b c:Env→Option Out}(h:∀ρ x,b ρ=some x→c ρ=some x){ρ:Env}{lr lo:List Nat}:∀{n m:Nat} {vr vo:List D} {x:Out},n≤m→eH b ρ lr lo n vr vo=some x→eH c ρ lr lo m vr vo=some x
 |0,m,vr,vo,x,_,hr=>by simp[eH] at hr
 |n+1,m,vr,vo,x,hle,hr=>by
  obtain⟨m,rfl⟩:∃k,m=k+1:=⟨m-1,by omega⟩
  simp only[eH] at hr ⊢;cases hb:b (ρ.put lr vr lo vo) with
  |none=>rw[hb] at hr;cases hr
  |some y=>
   rw[h _ _ hb];rw[hb] at hr;cases y with
   |next ρ'=>exact WH h (by omega) hr
   |exit id ρ'=>exact hr
   |ret d=>exact hr
theorem T9 {b c:Env→Option Out}(h:∀ρ x,b ρ=some x→c ρ=some x){ρ:Env}{ps lo:List Nat}{rt:Option PE}:∀{xs vo:List D} {x:Out},ff b ρ ps lo rt xs vo=some x→ff c ρ ps lo rt xs vo=some x
 |[],vo,x,hr=>hr
 |y::xs,vo,x,hr=>by
  simp only[ff] at hr ⊢;cases hb:b (ρ.put ps (partsOf ps y) lo vo) with
  |none=>rw[hb] at hr;cases hr
  |some z=>
   rw[h _ _ hb];rw[hb] at hr;cases z with
   |next ρ'=>exact T9 h hr
   |exit id ρ'=>exact hr
   |ret d=>cases hr
theorem aae {b c:Env→Option Out}(h:∀ρ x,b ρ=some x→c ρ=some x){ρ:Env}{J:Nat}{es:D}{ps cm lo:List Nat}:∀{xs done vo kB:List D},jH b ρ J es ps cm lo xs done vo=some kB→jH c ρ J es ps cm lo xs done vo=some kB
 |[],_,_,_,hr=>hr
 |x::xs,done,vo,kB,hr=>by
  simp only[jH] at hr ⊢;split at hr
  ·rename_i ρ' hb;rw[h _ _ hb];exact aae h hr
  ·cases hr
theorem PC.ev_mono {Φ Ψ:aL}(h:Le Φ Ψ){n m:Nat}(hle:n≤m):∀{c:PC} {ρ:Env} {x:Out},c.ev Φ n ρ=some x→c.ev Ψ m ρ=some x:=by
 intro c
 induction c with
 |skip=>intro ρ x hr;exact hr
 |is l=>
  intro ρ x hr;simp only[PC.ev,Option.map_eq_some_iff] at hr ⊢;obtain⟨y,hy,e⟩:=hr;exact⟨y,PI.runs_mono h hy,e⟩
 |seq a b aY cR=>
  intro ρ x hr;simp only[PC.ev] at hr ⊢;cases ha:a.ev Φ n ρ with
  |none=>rw[ha] at hr;cases hr
  |some y=>rw[aY ha];rw[ha] at hr;cases y<;>first|exact cR hr|exact hr
 |ite c lr lo a b aY cR=>
  intro ρ x hr;simp only[PC.ev] at hr ⊢;cases hc:(c.ev ρ).b<;>simp only[hc,cond_true,cond_false] at hr ⊢
  ·cases ha:b.ev Φ n ρ with
   |none=>rw[ha] at hr;cases hr
   |some y=>rw[cR ha];rw[ha] at hr;exact hr
  ·cases ha:a.ev Φ n ρ with
   |none=>rw[ha] at hr;cases hr
   |some y=>rw[aY ha];rw[ha] at hr;exact hr
 |block id lr lo a aY=>
  intro ρ x hr;simp only[PC.ev] at hr ⊢;cases ha:a.ev Φ n ρ with
  |none=>rw[ha] at hr;cases hr
  |some y=>rw[aY ha];rw[ha] at hr;exact hr
 |loop lr lo a aY=>intro ρ x hr;exact WH (fun ρ x=>aY) hle hr
 |exit id=>intro ρ x hr;exact hr
 |ret e=>intro ρ x hr;exact hr
 |each e ps lo rt a aY=>intro ρ x hr;exact T9 (fun ρ x=>aY) hr
 |meach J ps cm lo a aY=>
  intro ρ x hr;simp only[PC.ev,tt] at hr ⊢;obtain⟨vo,⟨h1,h2⟩,rfl⟩:=hr;exact⟨vo,⟨h1,fun ys hy=>aae (fun ρ x=>aY) (h2 ys hy)⟩,rfl⟩
theorem Sj {tab:Nat→Option PC}{ext:Nat→Option (aL→List D→Option D)}(hx:∀f g,ext f=some g→∀Φ Ψ,Le Φ Ψ→∀ds d,g Φ ds=some d→g Ψ ds=some d):∀{n m:Nat},n≤m→Le (cv tab ext n) (cv tab ext m)
 |0,m,_=>fun f ds d h=>by simp[cv] at h
 |n+1,m,hle=>by
  obtain⟨m,rfl⟩:∃k,m=k+1:=⟨m-1,by omega⟩
  have ih:=Sj (tab:=tab) hx (n:=n) (m:=m) (by omega);intro f ds d h;simp only[cv] at h ⊢;split at h
  ·rename_i g hg;exact hx f g hg _ _ ih ds d h
  ·split at h
   ·rename_i pc _;cases he:pc.ev (cv tab ext n) n (iQ ds) with
    |none=>rw[he] at h;cases h
    |some x=>
     rw[PC.ev_mono ih (by omega) he];rw[he] at h;exact h
   ·cases h
theorem apa {pc:PC}{J k:Nat}{spec:List D→List D}{Φ Ψ:aL}(h:Le Φ Ψ){ds:List D}{d:D}(e:qM pc J k spec Φ ds=some d):qM pc J k spec Ψ ds=some d:=by
 unfold qM at e ⊢;split at e
 ·rename_i hs;rw[if_pos]
  ·exact e
  ·exact⟨fun m hm=>let⟨N,hN⟩:=hs.1 m hm;⟨N,PC.ev_mono (yldΦ_mono h _ m) (Nat.le_refl _) hN⟩,hs.2⟩
 ·cases e
theorem ao.of_at {tab:Nat→Option PC}{ext:Nat→Option (aL→List D→Option D)}(hx:∀f g,ext f=some g→∀Φ Ψ,Le Φ Ψ→∀ds d,g Φ ds=some d→g Ψ ds=some d)(n:Nat){f:Nat}{ds:List D}{d:D}(h:cv tab ext n f ds=some d):ao (cv tab ext) f ds d:=
 ⟨n,fun m hm=>Sj hx hm f ds d h⟩
theorem Env.setR_r (ρ:Env)(t u:Nat)(d:D):(ρ.setR t d).r u=if u=t then d else ρ.r u:=by simp only[Env.setR,fb]
theorem Env.setO_o (ρ:Env)(t u:Nat)(d:D):(ρ.setO t d).o u=if u=t then d else ρ.o u:=by simp only[Env.setO,fb]
theorem Env.join_r (ρ ρ':Env)(lr lo:List Nat)(u:Nat):(ρ.join lr lo ρ').r u=if u∈lr then ρ'.r u else ρ.r u:=by simp only[Env.join,Env.put,pG]
theorem Env.join_o (ρ ρ':Env)(lr lo:List Nat)(u:Nat):(ρ.join lr lo ρ').o u=if u∈lo then ρ'.o u else ρ.o u:=by simp only[Env.join,Env.put,pG]
theorem Ht (f:Nat→D)(i:Nat)(is:List Nat)(x:D)(xs:List D)(u:Nat):putL f (i::is) (x::xs) u=if u=i then x else putL f is xs u:=by simp only[putL,fb]
theorem Hu (f:Nat→D)(xs:List D)(u:Nat):putL f [] xs u=f u:=by cases xs<;>rfl
theorem anW (g:Nat×Bool)(gs:List (Nat×Bool))(ρ:Env):holds (g::gs) ρ=((ρ.r g.1).b==g.2&&holds gs ρ):=rfl
theorem D.tget_tup (x:List D)(i:Nat):(D.tup x).tget i=x.getD i .none:=rfl
theorem D.c_agg (x:List D)(i:Nat):(D.agg x).c i=x.getD i .none:=rfl
end Cx
