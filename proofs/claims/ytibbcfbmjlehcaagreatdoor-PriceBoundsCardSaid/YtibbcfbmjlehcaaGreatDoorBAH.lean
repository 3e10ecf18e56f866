/-
  Shared texts of this claim.
-/
import Derived.Test.YtibbcfbmjlehcaaGreatDoorBAG
import Derived.Below
import Derived.ChangeSame
import Derived.WalkKit
import Derived.ProofKit
import Derived.OpenShut
import Derived.Carry
import Derived.JoinedCond
set_option linter.defProp false
set_option linter.unusedSimpArgs false
set_option linter.unusedVariables false
noncomputable section
namespace Cx
open Go Go.RowKit
def abX (m:Nat)(s:Sig):Snap:=⟨s.args.map .dat++List.replicate (m-s.args.length) .none,[]⟩
def lX (ds:List D):Env:=⟨λt=>ds.getD t .none,λ_=>.none⟩
def vx (C:Ctx)(fn:Func)(s:Sig)(ids:List Nat)(S0:Snap):Option PC:=
 match fn.body with
 |some c=>
  (comp C fn s fn.ntmps ids (N4 C fn.ntmps ids) false c S0).bind λr=>
    match r.out with
    |none=>some r.pc
    |some S=>(zL C fn s (S.st ids)).map λe=>.seq r.pc (.ret e)
 |none=>none
def Q4 (m:Nat)(shs:List Sh)(obs:List (Nat×Ob))(ids:List Nat):Snap:=⟨shs++List.replicate (m-shs.length) .none,ids.map (eh obs)⟩
def KN (shs:List Sh)(obs:List (Nat×Ob))(ds:List D):Env:=lM obs ds (ds.drop shs.length)
def Gr (l:List Nat):Nat->List Sh->Bool
 |_,[]=>true
 |t,s::ss=>(pR s|| !fH l t)&&Gr l (t+1) ss
def Dj:List (Nat×Ob)->Nat->List PI
 |[],_=>[]
 |x::l,k=>Dj l (k+1)++[.setO x.1 (.r k)]
def ai9 {Z:aT}:∀(l:List (Nat×Ob)) (k:Nat) (O:Env) (ds:List D),(∀i,O.r (k+i)=ds.getD i .none)->(∀j,O.o j=.none)->PI.runs Z (Dj l k) O=some ⟨O.r,λj=>oK l ds j⟩
 |[],k,O,ds,h,ho=>by
  simp only[Dj,PI.runs]
  congr 1
  cases O with|mk r o=>congr 1;funext j;exact ho j
 |x::l,k,O,ds,h,ho=>by
  simp only[Dj,tF]
  rw[ai9 l (k+1) O ds.tail (λi=>by
   have:=h (i+1);rw[sw,DQ 1 i,this];cases ds<;>simp) ho]
  simp only[pj,PI.runs,PI.run,PE.ev,Env.setO]
  congr 1
  congr 1
  funext j;rw[fj];have h0:=h 0;simp only[iQ] at h0;cases ds with
  |nil=>
   have e:∀m j,oK m [] j=D.none:=λm j=>by cases m<;>rfl
   rw[h0];split<;>simp[e]
  |cons d ds=>
   simp only[oK,List.tail_cons];by_cases hj:j=x.1
   .subst hj;rw[if_pos rfl,j9,h0];rfl
   .rw[if_neg hj,fp (λe=>hj e.symm)];rfl
def aw4 {Z:aT}(shs:List Sh)(obs:List (Nat×Ob))(ds:List D):PI.runs Z (Dj obs shs.length) (lX ds)=some (KN shs obs ds):=by
 rw[ai9 obs shs.length (lX ds) (ds.drop shs.length) (λi=>by simp[lX,aE]) (λj=>rfl)];rfl
def Jc (fn:Func):List Nat:=match fn.body with|some c=>cD c|none=>[]
def wy:List (Nat×Ob)->Bool
 |[]=>true
 |x::l=>(match x.2 with|.tr=>false|_=>true)&&wy l
def mK (C:Ctx)(fn:Func)(s:Sig)(ids:List Nat):Option PC:=
 match C.yl with
 |none=>
  match s.mode with
  |.ob shs obs=>bif Nat.ble shs.length fn.ntmps&&Gr (Jc fn) 0 shs&&shs.all uV&&wy obs then(vx C fn s ids (Q4 fn.ntmps shs obs ids)).map λpc=>.seq (.is (Dj obs shs.length)) pc else none
  |_=>bif Nat.ble s.args.length fn.ntmps then vx C fn s ids (abX fn.ntmps s) else none
 |some _=>none
def aeX:∀(ids:List Nat) (j:Nat),dv ids [] j=.dead
 |[],_=>rfl
 |_::_,_=>rfl
def QH {C:Ctx}{Z:aT}(aY:dK C)(hΦ:dq C Z)(ed:gM C Z){fn:Func}{s:Sig}{ids:List Nat}{S0:Snap}{pc:PC}{c:Code}(hb:fn.body=some c)(hc:vx C fn s ids S0=some pc){w0:World}{σ0:Base}(kl:σ0.fin)(hC:CtxOK C σ0)(hY:tZ C Z w0 σ0)
 {N:Nat} {O:Env} {d:D} {a:Act} {w:World} (hn:a.tmps.size=fn.ntmps) (hg:Good C w0 σ0 (S0.st ids) O (λ_=>False) a w) (he:pc.ev Z N O=some (.ret d)):
 c.wpIn (FR none) 0 C.P (λe a' w'=>(e=.normal\/e=.ret)/\sy C w0 σ0 fn s d a'.tmps a'.defers w'/\SameBut (λt=>t∈cD c) a a') a w:=by
 unfold vx at hc;rw[hb] at hc;simp only[az] at hc;obtain⟨r,hr,hc⟩:=hc;have SN:=λx hx=>al3 (fn:=fn) (s:=s) (N:=N) ed (awC (n:=fn.ntmps) (ids:=ids) aY hΦ) c false S0 r hr none w0 σ0 (λt=>t∈cD c) O x a w (λ_=>⟨rfl,kl⟩) hC hY (λ_ h=>h) hn hg hx;split at hc
 .rename_i kP;cases hc;refine wpIn_mono (SN (.ret d) he) λe a' w' ho=>?_;cases e with
  |normal=>obtain⟨_,_,h,_⟩:=ho;cases h
  |exit id=>obtain⟨_,_,h,_⟩:=ho;cases h
  |ret=>obtain⟨d',h,h2⟩:=ho;cases h;exact⟨.inr rfl,h2⟩
  |_=>exact ho.elim
 .rename_i S kP;simp only[aB] at hc;obtain⟨pe,oB,rfl⟩:=hc;simp only[PC.ev] at he;split at he
  .rename_i ρ1 h1;cases he;refine wpIn_mono (SN (.next ρ1) h1) λe a' w' ho=>?_;cases e with
   |normal=>
    obtain⟨ρ2,S2,e1,e2,ru,iv⟩:=ho;cases e1;rw[kP] at e2;cases e2;obtain⟨σ2,own,hv,hi⟩:=iv;exact⟨.inl rfl,Inv.retD hC (λ_=>rfl) kl oB _ hi rfl,ru⟩
   |exit id=>obtain⟨_,_,h,_⟩:=ho;cases h
   |ret=>obtain⟨d',h,h2⟩:=ho;cases h
   |_=>exact ho.elim
  .rename_i au;refine wpIn_mono (SN (.ret d) he) λe a' w' ho=>?_;cases e with
   |normal=>obtain⟨_,_,h,_⟩:=ho;cases h
   |exit id=>obtain⟨_,_,h,_⟩:=ho;cases h
   |ret=>obtain⟨d',h,h2⟩:=ho;cases h;exact⟨.inr rfl,h2⟩
   |_=>exact ho.elim
def sy.leaves {C:Ctx}{w0:World}{σ0:Base}{fn:Func}{s:Sig}{d:D}{tmps:Array Value}{R:Ending->World->Prop}(hR:∀w',Pr C w0 σ0 fn s d {tmps:=tmps,defers:=[]} w'->∃v,(results fn tmps).run C.P w'=.ok v w'/\R (.returned v) w'):
 ∀(ds:List Deferred) (w:World),sy C w0 σ0 fn s d tmps ds w->LeavesInM (FR none) 0 C.P fn tmps R ds .returning w
 |[],w,h=>hR w h
 |x::ds,w,⟨D,h1,h2,h3⟩=>⟨by simp,.inl ⟨D,_,h1,run_takeDeferred h2,sy.leaves hR ds _ h3⟩⟩
def ans {C:Ctx}{V:Im}{w:World}{args:Array Value}{ds:List D}{s:Sig}{m:Nat}{ids:List Nat}(ar:V.ok w)(ha:qv C V s.args args.toList ds):
 Good C w (Base.mk0 V w.heap.size) ((abX m s).st ids) (lX ds) (λ_=>False) {tmps:=args++Array.replicate (m-args.size) undef,defers:=[]} w:=by
 obtain⟨h1,h2,h3⟩:=ha;have aJ:args.size=s.args.length:=by simpa using h1
 refine⟨V,λ_=>none,λ_=>undef,trivial,ar,.refl V,λ_ k e=>(ar.m k _ e).lt,λ_ _ _ h=>.inl h,λ_ _ h=>.inl h,.refl _ _,aX _,(λk j h=>by cases h),λt=>?_,λj=>?_,λt gs s' e=>absurd e (Snap.noOpt _ _ t gs s'),
  .none,λ_=>False,λ_=>False,⟨⟨λ_=>id,λ_=>id⟩,(λk j h=>by cases h),λ_ _ _ _=>id,λ_ _ _=>id,λ_ _ _=>id⟩,λj hj=>?_⟩
 .show aG C _ _ V _ (cJ ((s.args.map Sh.dat++List.replicate (m-s.args.length) Sh.none).getD t .none)) _ _;rw[aE];by_cases ht:t<s.args.length
  .rw[nD (by simpa using ht),cj,aW ht];simp only[kG,kF,cJ];have:=h3 t _ (aW ht);have e1:(args++Array.replicate (m-args.size) undef).getD t undef=args.toList.getD t undef:=by
        simp only[fM,aE];rw[Z6 (by omega)];simp
   show aG C _ _ V _ (.dat _) ((args++Array.replicate (m-args.size) undef).getD t undef) (ds.getD t .none);rw[e1];exact this
  .rw[nE (by simpa using ht),Pa];split<;>trivial
 .show bZ C _ _ V _ _ w _ j (dv ids [] j);rw[aeX];trivial
 .change dv ids [] j=.tr at hj;rw[aeX] at hj;cases hj
def QI {C:Ctx}{Z:aT}(aY:dK C)(hΦ:dq C Z)(ed:gM C Z){f:Nat}{fn:Func}{s:Sig}{ids:List Nat}{pc:PC}(hf:C.P.funcs[f]?=some fn)(hc:mK C fn s ids=some pc){N:Nat}{ds:List D}{d:D}(cS:rB s.mode=false)
 (he:pc.ev Z N (lX ds)=some (.ret d)):iN C f s ds d:=by
 intro V w args ar hC ha;unfold mK at hc;split at hc
 case h_2=>cases hc
 rename_i l9;split at hc
 case h_1=>rename_i e;rw[e] at cS;cases cS
 cases hle:Nat.ble s.args.length fn.ntmps<;>simp only[hle,zyy,zyx] at hc
 .cases hc
 have oz:=jH hle;have aJ:args.size=s.args.length:=by simpa using ha.1
 cases hb:fn.body with
 |none=>unfold vx at hc;rw[hb] at hc;cases hc
 |some c=>
 refine(callsIn_wide (n:=0)).1 (callsIn_of_wp_marks (F:=FR none) hf hb trivial ?_);have hg:=ans (C:=C) (m:=fn.ntmps) (ids:=ids) ar ha;have hn:(args++Array.replicate (fn.ntmps-args.size) undef).size=fn.ntmps:=by simp;omega
 refine wpIn_mono (QH aY hΦ ed hb hc (σ0:=Base.mk0 V w.heap.size) trivial hC (λJ ys e=>by rw[l9] at e;cases e) hn hg he) λe a' w' ho=>?_
 have main:=sy.leaves (R:=λe w'=>∃v V',e=.returned v/\V.le V'/\V'.ok w'/\Below w.heap.size w w'/\
  (∀k o x,V'.c k o=some x->V.c k o=some x\/w.heap.size<=k)/\(∀k x,V'.m k=some x->V.m k=some x\/w.heap.size<=k)/\lU C s V' w w' v d) (λw2 F5=>by
  obtain⟨v,V',_,h2,h3,h4,h5,h6,h7,h8⟩:=F5;exact⟨v,h2,v,V',rfl,h3,h4,h5,h6,h7,h8⟩) _ _ ho.2.1
 rcases ho.1 with rfl|rfl<;>exact main
def Base.mkO (V:Im)(own:Nat->Option Nat)(w:World)(cx:Nat->Prop):Base:=
 {V with
  B:=0
  fin:=True
  F:=λ_ fx kJ w'=>(∀k,fx k↔(k<w.heap.size/\own k=none))/\(∀k,kJ k↔(fx k/\cx k))/\w.heap.size<=w'.heap.size/\∀k,fx k->w'.heap[k]?=w.heap[k]?
  lt:=λt' fx cx w' h k hk=>ln ((h.1 k).1 hk).1 h.2.2.1
  sub:=λt' fx cx w' h k hk=>((h.2.1 k).1 hk).1
  keep:=λt' fx cx w' lg h hb hs=>⟨h.1,h.2.1,gl h.2.2.1 hb.size,λk hk=>(hs k hk).trans (h.2.2.2 k hk)⟩}
def aeB {l:List Nat}:∀{shs:List Sh} {k:Nat},Gr l k shs=true->∀(t:Nat) (s:Sh),shs[t]?=some s->pR s=false->(k+t)∉l
 |[],k,_,t,s,h,_=>by simp at h
 |x::shs,k,hk,t,s,h,hd=>by
  simp only[Gr,ao,kE,kD] at hk;cases t with
  |zero=>
   simp at h;subst h;rcases hk.1 with h1|h1
   .rw[hd] at h1;cases h1
   .intro hm;rw[iQ] at hm;rw[(rG _ _).2 hm] at h1;cases h1
  |succ t=>
   simp at h;have:=aeB hk.2 t s h hd
   rwa [sw,DQ 1 t] at this
def TB (obs:List (Nat×Ob))(j:Nat):∀ids:List Nat,dv ids (ids.map (eh obs)) j=.dead\/dv ids (ids.map (eh obs)) j=eh obs j
 |[]=>.inl rfl
 |i::is=>by
  simp only[iO,dv];cases hb:Nat.beq i j
  .exact TB obs j is
  .right;rw[ay hb];rfl
def afz:∀{l:List (Nat×Ob)},wy l=true->∀x,x∈l->x.2≠.tr
 |[],_,x,hx=>by cases hx
 |y::l,h,x,hx=>by
  simp only[wy,ao] at h;rcases cA.1 hx with rfl|hx
  .intro e;rw[e] at h;cases h.1
  .exact afz h.2 x hx
def afA:∀{l:List (Nat×Ob)},wy l=true->∀j,eh l j≠.tr
 |[],_,j,e=>by cases e
 |x::l,h,j,e=>by
  simp only[wy,ao] at h;simp only[eh] at e;cases hb:Nat.beq x.1 j<;>simp only[hb,zyy,zyx] at e
  .exact afA h.2 j e
  .have h1:=h.1;rw[e] at h1;cases h1
def anr {C:Ctx}{V:Im}{own:Nat->Option Nat}{hv:Nat->Value}{w w0:World}{args:Array Value}{cx:Nat->Prop}{shs:List Sh}{obs:List (Nat×Ob)}{ds:List D}{m:Nat}{ids:List Nat}(hN:w0.heap.size<=w.heap.size)(Fo:Below 0 w0 w)(ar:V.ok w)(bo:∀k,V.m k≠some cC)(aJ:args.size=shs.length)
 (bu:∀k j,own k=some j->w0.heap.size<=k/\k<w.heap.size/\(∀o,V.c k o=none)/\V.m k=none) (dP:∀k,cx k->k<w.heap.size/\own k=none/\(∀o,V.c k o=none)/\V.m k=none) (uM:wy obs=true) (fF:shs.all uV=true)
 (h1:∀t,aG C (fb shs obs) (KN shs obs ds) V hv (shs.getD t .none) (args.getD t undef) (ds.getD t .none)) (h2:∀j,bZ C (fb shs obs) (KN shs obs ds) V own hv w w0.heap.size j (eh obs j)):
 Good C w0 (Base.mkO V own w cx) ((Q4 m shs obs ids).st ids) (KN shs obs ds) (λ_=>False) {tmps:=args++Array.replicate (m-args.size) undef,defers:=[]} w:=by
 have sQ:Compat (fb shs obs) hv ((Q4 m shs obs ids).st ids) hv:=⟨λ_=>aX _,λ_ _=>rfl⟩
 refine⟨V,own,hv,trivial,ar,.refl V,λ_ k e=>absurd e (bo k),λ_ _ _ h=>.inl h,λ_ _ h=>.inl h,Fo,jI _,bu,λt=>?_,λj=>?_,λt gs s' e=>absurd e (Snap.noOpt _ _ t gs s'),
  .none,(λk=>k<w.heap.size/\own k=none),cx,⟨⟨λ_=>Iff.rfl,λk=>⟨λh=>⟨⟨(dP k h).1,(dP k h).2.1⟩,h⟩,λh=>h.2⟩,aX _,λ_ _=>rfl⟩,(λk j h hf=>by rw[hf.2] at h;cases h),(λk o x e hc=>by rw[(dP k hc).2.2.1 o] at e;cases e),(λk x e hc=>by rw[(dP k hc).2.2.2] at e;cases e),λk e=>absurd e (bo k)⟩,λj hj=>?_⟩
 .show aG C _ _ V _ (cJ ((shs++List.replicate (m-shs.length) Sh.none).getD t .none)) _ _;refine OR ?_;rw[aE];by_cases ht:t<shs.length
  .rw[nD ht];have:=h1 t;rw[aE (l:=shs)] at this;have e1:(args++Array.replicate (m-args.size) undef).getD t undef=args.getD t undef:=by
        simp only[fM];rw[Z6 (by omega)]
   show aG C _ _ V _ _ ((args++Array.replicate (m-args.size) undef).getD t undef) (ds.getD t .none);rw[e1];refine aG.mono' (.refl V) sQ (λgs s' e=>?_) this;have hp:=cN.1 fF _ (bS ht);rw[aW ht] at e;simp only[kF] at e;rw[e] at hp;cases hp
  .rw[nE (by omega),Pa];split<;>trivial
 .show bZ C _ _ V _ _ w _ j (dv ids (ids.map (eh obs)) j);rcases TB obs j ids with e|e
  .rw[e];trivial
  .rw[e];exact(h2 j).mono (.refl V) sQ rfl rfl (λk hk=>⟨hk,rfl⟩)
 .change dv ids (ids.map (eh obs)) j=.tr at hj;rcases TB obs j ids with e|e
  .rw[e] at hj;cases hj
  .rw[e] at hj;exact absurd hj (afA uM j)
def KJ (w:World)(N:Nat):World:={w with heap:=w.heap.extract 0 N}
def alV {C:Ctx}{Z:aT}(aY:dK C)(hΦ:dq C Z)(ed:gM C Z){f:Nat}{fn:Func}{s:Sig}{ids:List Nat}{pc:PC}(hf:C.P.funcs[f]?=some fn)(hc:mK C fn s ids=some pc){N:Nat}{ds:List D}{d:D}{shs:List Sh}{obs:List (Nat×Ob)}(cS:s.mode=.ob shs obs)
 (he:pc.ev Z N (lX ds)=some (.ret d)):ej C f shs obs s.res ds d:=by
 unfold mK at hc;split at hc
 case h_2=>cases hc
 rename_i l9;rw[cS] at hc;simp only at hc;cases hle:(Nat.ble shs.length fn.ntmps&&Gr (Jc fn) 0 shs&&shs.all uV&&wy obs)<;>simp only[hle,zyy,zyx] at hc
 .cases hc
 simp only[ao] at hle;obtain⟨⟨⟨l1,l2⟩,l3⟩,l4⟩:=hle;refine ej.of (afz l4) ?_;intro B V own hv w args cx _ ar hC bo hB aJ bu dP h1 h2;simp only[aB] at hc;obtain⟨pc,hc,rfl⟩:=hc;simp only[PC.ev,aw4,kG] at he;have oz:=jH l1;cases hb:fn.body with
 |none=>unfold vx at hc;rw[hb] at hc;cases hc
 |some c=>
 have bn:Jc fn=cD c:=by unfold Jc;rw[hb]
 rw[bn] at l2;refine(callsIn_wide (n:=0)).1 (callsIn_of_wp_marks (F:=FR none) hf hb trivial ?_);have jx:(KJ w B).heap.size=B:=by simp[KJ];omega
 have Fo:Below 0 (KJ w B) w:=⟨rfl,rfl,rfl,by rw[jx];exact hB,λk hk=>by omega⟩
 have hg:=anr (C:=C) (m:=fn.ntmps) (ids:=ids) (w0:=KJ w B) (cx:=cx) (by rw[jx];exact hB) Fo ar bo aJ (by rw[jx];exact bu) dP l4 l3 h1 (by rw[jx];exact h2);have hn:(args++Array.replicate (fn.ntmps-args.size) undef).size=fn.ntmps:=by simp;omega
 refine wpIn_mono (QH aY hΦ ed hb hc (σ0:=Base.mkO V own w cx) trivial hC (λJ ys e=>by rw[l9] at e;cases e) hn hg he) λe a' w' ho=>?_;obtain⟨rk,F5,ix⟩:=ho
 have main:=sy.leaves (R:=λe w'=>∃v V' own' hv' dr os,e=.returned v/\d=.tup (dr::os)/\os.length=obs.length/\V.le V'/\V'.ok w'/\Below 0 w w'/\
  (∀k,k<w.heap.size->own k=none->w'.heap[k]?=w.heap[k]?)/\
  (∀k o x,V'.c k o=some x->(V.c k o=some x\/B<=k)/\¬cx k)/\(∀k x,V'.m k=some x->(V.m k=some x\/B<=k)/\¬cx k)/\(∀k,V'.m k=some cC->B<=k->k<w.heap.size->own k≠none)/\
  (∀k j,own' k=some j->B<=k/\k<w'.heap.size/\(∀o,V'.c k o=none)/\V'.m k=none/\(k<w.heap.size->own k≠none))/\
  (∀(t:Nat) (sh:Sh),shs[t]?=some sh->pR sh=false->aG C (fb shs obs) (lM obs ds os) V' hv' sh (args.getD t undef) (ds.getD t .none))/\
  (∀j,bZ C (fb shs obs) (lM obs ds os) V' own' hv' w' B j (eh obs j))/\Rep C.cap V' s.res v dr) (λw2 hr=>by
  obtain⟨v,V',⟨own',t,fx,kJ,dR,_,LK⟩,ak,iw,Sv,uB,dg,cR,_⟩:=hr;obtain⟨hv',dr,os,e1,e2,e3,e4,e5,e6⟩:=LK shs obs cS;obtain⟨f1,f2,f3,f4⟩:=dR.F;have acZ:∀k,cx k->kJ k:=λk hk=>(f2 k).2 ⟨(f1 k).2 ⟨(dP k hk).1,(dP k hk).2.1⟩,hk⟩;rw[jx] at dg cR e3 e5
  refine⟨v,ak,v,V',own',hv',dr,os,rfl,e1,e2,iw,Sv,⟨uB.os,uB.tape,uB.output,f3,λk hk=>by omega⟩,λk hk hn=>f4 k ((f1 k).2 ⟨hk,hn⟩),λk o x e=>⟨dg k o x e,λhk=>dR.c k o x e (acZ k hk)⟩,λk x e=>⟨cR k x e,λhk=>dR.m k x e (acZ k hk)⟩,
   λk e Rv hk hn=>dR.d k e (by rw[jx];exact Rv) ((f1 k).2 ⟨hk,hn⟩),λk j hk=>?_,λt sh hs hd=>?_,λj=>?_,e6⟩
  .obtain⟨g1,g2,g3,g4⟩:=e3 k j hk;exact⟨g1,g2,g3,g4,λaf hn=>dR.own k j hk ((f1 k).2 ⟨af,hn⟩)⟩
  .have:=e4 t sh hs hd (ds.getD t .none);have af:t<shs.length:=(eG.1 hs).1;have oA:t∉cD c:=by have:=aeB l2 t sh hs hd;simpa using this
   have cv:a'.tmps.getD t undef=args.getD t undef:=by
        rw[ix.get t oA];simp only[fM];rw[Z6 (by omega)]
   simp only at this;rw[cv] at this;have hp:=cN.1 l3 _ (j6 hs);exact aG.mono' (.refl V') ⟨λ_=>aX _,λ_ _=>rfl⟩ (λgs s' e=>by rw[e] at hp;cases hp) this
  .exact bZ.mono (S:=fb shs obs) (S':=fb shs obs) (O:=lM obs [] os) (O':=lM obs ds os) (hv:=hv') (hv':=hv') (own:=own') (own':=own') (w:=w2) (w':=w2) (.refl V') ⟨λ_=>aX _,λ_ _=>rfl⟩ rfl rfl (λk hk=>⟨hk,rfl⟩) (e5 j)) _ _ F5
 rcases rk with rfl|rfl<;>exact main
def abW (m:Nat)(cts:List Ty)(J:Nat)(ids:List Nat):Snap:=⟨.yv::(cts.map .dat++List.replicate (m-(cts.length+1)) .none),ids.map λj=>bif Nat.beq j J then .tr else .dead⟩
def BC (J:Nat)(ds:List D):Env:=⟨λt=>(D.none::ds).getD t .none,λj=>bif Nat.beq j J then .list [] else .none⟩
def EB (C:Ctx)(fn:Func)(cts ys:List Ty)(J:Nat)(ids:List Nat):Option PC:=
 match C.yl,C.sig nA,C.cap nA with
 |none,none,none=>bif Nat.ble (cts.length+1) fn.ntmps then vx {C with yl:=some (J,ys)} fn ⟨[],.tup [],.it J⟩ ids (abW fn.ntmps cts J ids) else none
 |_,_,_=>none
open Classical in
def yldΦ (Z:aT)(xs:List D)(m:Nat):aT:=λf ds=>
 if f=nA then(match ds with|[.list l]=>if 0<l.length/\l.length<=m+1/\l=xs.take l.length then some (.v (.bool (decide (l.length<=m)))) else none|_=>none)
 else Z f ds
def yldΦ_at {Z:aT}{xs l ds:List D}{d:D}{m:Nat}(h:yldΦ Z xs m nA [.list (l++[.tup ds])]=some d):l.length<=m/\l=xs.take l.length/\xs[l.length]?=some (.tup ds)/\l++[.tup ds]=xs.take (l.length+1)/\d=.v (.bool (decide (l.length<m))):=by
 simp only[yldΦ,if_true] at h;split at h
 .rename_i hc;obtain⟨h1,h2,h3⟩:=hc;simp only[mE,qA,Ah,fQ] at h2 h3 h;have hx:xs[l.length]?=some (.tup ds):=by
   have:(xs.take (l.length+1))[l.length]?=some (.tup ds):=by rw[<-h3];simp
   rw[fN] at this;simpa using this
  have hl:l=xs.take l.length:=by
   have:=congrArg (List.take l.length) h3;simpa [Ph] using this
  refine⟨by omega,hl,hx,h3,?_⟩;cases h
  congr 2
 .cases h
def dq.yl {C:Ctx}{Z:aT}(h:dq C Z){y:Option (Nat×List Ty)}{v:Value}{xs:List D}{m:Nat}(hs:C.sig nA=none):dq {C with yl:=y,yv:=v} (yldΦ Z xs m):=by
 intro f ds d e s ef;have au:f≠nA:=λe'=>by subst e';change C.sig nA=some s at ef;rw[hs] at ef;cases ef
 simp only[yldΦ,if_neg au] at e;obtain⟨h1,h2⟩:=h f ds d e s ef;exact⟨λhm V w args ar hC ha=>h1 hm V w args ar ⟨hC.glob,hC.mg⟩ ha,λshs obs hm=>(h2 shs obs hm).ctx rfl rfl rfl⟩
def mC.yl {C:Ctx}{y:Option (Nat×List Ty)}{v:Value}{f:Nat}{cts ys:List Ty}{ds xs:List D}(h:mC C f cts ys ds xs):mC {C with yl:=y,yv:=v} f cts ys ds xs:=
 λV w yv vs F fx cx m ar hC=>h V w yv vs F fx cx m ar ⟨hC.glob,hC.mg⟩
def gM.yl {C:Ctx}{Z:aT}(h:gM C Z){y:Option (Nat×List Ty)}{v:Value}{xs:List D}{m:Nat}(hs:C.cap nA=none):gM {C with yl:=y,yv:=v} (yldΦ Z xs m):=by
 intro f cs ys hc hi;have au:f≠nA:=λe'=>by subst e';change C.cap nA=some cs at hc;rw[hs] at hc;cases hc
 obtain⟨h1,h2⟩:=h f cs ys hc hi;refine⟨h1,λds d e=>?_⟩;simp only[yldΦ,if_neg au] at e;obtain⟨xs,e1,e2,e3⟩:=h2 ds d e;exact⟨xs,e1,e2,e3.yl⟩
def aaj (Z:aT)(pc:PC)(J:Nat)(ds xs:List D):Prop:=∀m,m<=xs.length->∃N,pc.ev (yldΦ Z xs m) N (BC J ds)=some (.ret (.list (xs.take (m+1))))
def anq {C:Ctx}{V:Im}{σ0:Base}{w:World}{yv:Value}{vs:List Value}{ds:List D}{cts ys:List Ty}{J m:Nat}{ids:List Nat}(ar:V.ok w)(ha:qv C V cts vs ds)(hm:cts.length+1<=m)(l9:C.yl=some (J,ys))(Gg:C.yv=yv)
 (h0:σ0.toIm=V) (hB:σ0.B=0) {fx cx:Nat->Prop} (hF:σ0.F (.list []) fx cx w) (jr:∀k o x,V.c k o=some x->¬cx k) (oq:∀k x,V.m k=some x->¬cx k):
 Good C w σ0 ((abW m cts J ids).st ids) (BC J ds) (λ_=>False) {tmps:=#[yv]++vs.toArray++Array.replicate (m-(vs.length+1)) undef,defers:=[]} w:=by
 obtain⟨h1,h2,h3⟩:=ha
 refine⟨V,λ_=>none,λ_=>undef,trivial,ar,by rw[h0];exact .refl V,λ_ k e=>by rw[h0] at e;exact(ar.m k _ e).lt,λ_ _ _ h=>by rw[h0];exact .inl h,λ_ _ h=>by rw[h0];exact .inl h,.refl _ _,by omega,(λk j h=>by cases h),λt=>?_,λj=>?_,λt gs s' e=>absurd e (Snap.noOpt _ _ t gs s'),
  .list [],fx,cx,⟨hF,(λk j h=>by cases h),jr,oq,λk e hk=>by have:=(ar.m k _ e).lt;omega⟩,λj hj=>?_⟩
 .show aG C _ _ V _ (cJ ((Sh.yv::(cts.map Sh.dat++List.replicate (m-(cts.length+1)) Sh.none)).getD t .none)) ((#[yv]++vs.toArray++Array.replicate (m-(vs.length+1)) undef).getD t undef) ((D.none::ds).getD t .none);have ea:((#[yv]++vs.toArray++Array.replicate (m-(vs.length+1)) undef).getD t undef)=(yv::(vs++List.replicate (m-(vs.length+1)) undef)).getD t undef:=by
   rw[fM,<-oY,aE];simp
  rw[ea];cases t with
  |zero=>simp only[su,cJ];exact Gg.symm
  |succ t=>
   simp only[DL];rw[aE];by_cases ht:t<cts.length
   .rw[nD (by simpa using ht),cj,aW ht];simp only[kG,kF,cJ];have:=h3 t _ (aW ht);have e1:(vs++List.replicate (m-(vs.length+1)) undef).getD t undef=vs.getD t undef:=by
     simp only[aE];rw[nD (by omega)]
    show aG C _ _ V _ (.dat _) _ (ds.getD t .none);rw[e1];exact this
   .rw[nE (by simpa using ht),Pa];split<;>trivial
 .show bZ C _ _ V _ _ w _ j (dv ids (ids.map λj=>bif Nat.beq j J then .tr else .dead) j);refine y9 _ (λob=>bZ C _ _ V _ _ w _ j ob) trivial j ?_ ids;cases Nat.beq j J<;>trivial
 .change dv ids (ids.map λj=>bif Nat.beq j J then .tr else .dead) j=.tr at hj
  have hb:=y9 (λj=>bif Nat.beq j J then Ob.tr else .dead) (λob=>ob=.tr->Nat.beq j J=true) (λe=>by cases e) j (λe=>by
   cases hb:Nat.beq j J
   .rw[hb] at e;cases e
   .rfl) ids hj
  have:=ay hb;subst this;refine⟨⟨ys,l9⟩,?_⟩;show(bif Nat.beq j j then D.list [] else .none)=_;rw[j9];rfl
def alW {C:Ctx}{Z:aT}(aY:dK C)(hΦ:dq C Z)(ed:gM C Z){f:Nat}{fn:Func}{cts ys:List Ty}{J:Nat}{ids:List Nat}{pc:PC}(hf:C.P.funcs[f]?=some fn)(hc:∀yv,EB {C with yv:=yv} fn cts ys J ids=some pc){ds xs:List D}
 (hr:aaj Z pc J ds xs):mC C f cts ys ds xs:=by
 intro V w yv vs F fx cx m ar hC ha hm af cg rp hF jr oq Td;have hc:=hc yv;unfold EB at hc;split at hc
 case h_2=>cases hc
 rename_i l9 hsy hcy;cases hle:Nat.ble (cts.length+1) fn.ntmps<;>simp only[hle,zyy,zyx] at hc
 .cases hc
 have oz:=jH hle;obtain⟨N,he⟩:=hr m hm;cases hb:fn.body with
 |none=>unfold vx at hc;rw[hb] at hc;cases hc
 |some c=>
 refine(callsIn_wide (n:=0)).1 (callsIn_of_wp_marks (F:=FR none) hf hb trivial ?_);obtain⟨σ0,hσ0⟩:∃σ0:Base,σ0={V with B:=0,fin:=True,F:=λt fx cx w=>(∃l,t=.list l)/\F t fx cx w,lt:=λt fx cx w h=>af t fx cx w h.2,sub:=λt fx cx w h=>cg t fx cx w h.2,keep:=λt fx cx w w' h hb hs=>⟨h.1,rp t fx cx w w' h.2 hb hs⟩}:=⟨_,rfl⟩
 have e1:σ0.toIm=V:=by rw[hσ0]
 have e2:σ0.B=0:=by rw[hσ0]
 have e3:σ0.fin:=by rw[hσ0];trivial
 have e4:∀t fx cx w,σ0.F t fx cx w↔(∃l,t=.list l)/\F t fx cx w:=λt fx cx w=>by rw[hσ0]
 have hg:=anq (C:={C with yl:=some (J,ys),yv:=yv}) (σ0:=σ0) (w:=w) (yv:=yv) (vs:=vs) (ds:=ds) (cts:=cts) (ys:=ys) (J:=J) (m:=fn.ntmps) (ids:=ids) ar ha oz rfl rfl e1 e2 ((e4 _ _ _ _).2 ⟨⟨_,rfl⟩,hF⟩) jr oq;have aJ:(#[yv]++vs.toArray).size=vs.length+1:=by simp<;>omega
 have vU:vs.length=cts.length:=ha.1;have hY:tZ {C with yl:=some (J,ys),yv:=yv} (yldΦ Z xs m) w σ0:=by
  intro J' ys' e;cases e;refine⟨e2,λt fx cx w h=>((e4 _ _ _ _).1 h).1,λfl ds' d hd fx cx w1 σ1 args BN aq3 yo hc1 FI dg cR=>?_⟩;obtain⟨g1,g2,g3,g4,rfl⟩:=yldΦ_at hd;rw[e1] at dg cR;have:=Td fl.length fx cx w1 σ1 args ds' g1 g3 (by rw[<-g2];exact((e4 _ _ _ _).1 BN).2) aq3 yo hc1 FI dg cR;intro rd o a x aa ts K Q eA hv has hK;refine this rd o a x aa ts K Q eA hv has λu w2 hu=>hK u w2 ?_;obtain⟨u1,u2,u3,oe,kJ,u4,u5,u6⟩:=hu;refine⟨_,rfl,u1,u2,u3,oe,kJ,(e4 _ _ _ _).2 ⟨⟨_,rfl⟩,?_⟩,u5,u6⟩;rw[g4];exact u4
 have hn:(#[yv]++vs.toArray++Array.replicate (fn.ntmps-(vs.length+1)) undef).size=fn.ntmps:=by simp;omega
 rw[aJ];refine wpIn_mono (QH (C:={C with yl:=some (J,ys),yv:=yv}) aY (hΦ.yl hsy) (ed.yl hcy) hb hc (σ0:=σ0) e3 (by rw[e1];exact⟨hC.glob,hC.mg⟩) hY hn hg he) λe a' w' ho=>?_
 have main:=sy.leaves (R:=λe w'=>(∃v,e=.returned v)/\∃fx cx,F (.list (xs.take (m+1))) fx cx w') (λw2 F5=>by
  obtain⟨v,V',⟨own,t,fx,cx,h1,ht,_⟩,h2,_⟩:=F5;refine⟨v,h2,⟨v,rfl⟩,fx,cx,?_⟩;rw[ht J rfl];exact((e4 _ _ _ _).1 h1.F).2) _ _ ho.2.1
 rcases ho.1 with rfl|rfl<;>exact main
def eJ (tab:Nat->Option PC)(ext:Nat->Option (aT->List D->Option D)):Nat->aT
 |0=>λ_ _=>none
 |n+1=>λf ds=>
  match ext f with
  |some g=>g (eJ tab ext n) ds
  |none=>
   match tab f with
   |some pc=>(match pc.ev (eJ tab ext n) n (lX ds) with|some (.ret d)=>some d|_=>none)
   |none=>none
def iN.hint {C:Ctx}{fr nh:List Nat}{f:Nat}{s:Sig}{ds:List D}{d:D}(h:iN C f s ds d):iN {C with fr:=fr,nh:=nh} f s ds d:=
 λV w args ar hC ha=>h V w args ar ⟨hC.glob,hC.mg⟩ ha
def iN.unhint {C:Ctx}{fr nh:List Nat}{f:Nat}{s:Sig}{ds:List D}{d:D}(h:iN {C with fr:=fr,nh:=nh} f s ds d):iN C f s ds d:=
 λV w args ar hC ha=>h V w args ar ⟨hC.glob,hC.mg⟩ ha
def mC.hint {C:Ctx}{fr nh:List Nat}{f:Nat}{cts ys:List Ty}{ds xs:List D}(h:mC C f cts ys ds xs):mC {C with fr:=fr,nh:=nh} f cts ys ds xs:=
 λV w yv vs F fx cx m ar hC=>h V w yv vs F fx cx m ar ⟨hC.glob,hC.mg⟩
def mC.unhint {C:Ctx}{fr nh:List Nat}{f:Nat}{cts ys:List Ty}{ds xs:List D}(h:mC {C with fr:=fr,nh:=nh} f cts ys ds xs):mC C f cts ys ds xs:=
 λV w yv vs F fx cx m ar hC=>h V w yv vs F fx cx m ar ⟨hC.glob,hC.mg⟩
def ej.hint {C:Ctx}{fr nh:List Nat}{f:Nat}{shs:List Sh}{obs:List (Nat×Ob)}{res:Ty}{ds:List D}{d:D}(h:ej C f shs obs res ds d):ej {C with fr:=fr,nh:=nh} f shs obs res ds d:=h.ctx rfl rfl rfl
def ej.unhint {C:Ctx}{fr nh:List Nat}{f:Nat}{shs:List Sh}{obs:List (Nat×Ob)}{res:Ty}{ds:List D}{d:D}(h:ej {C with fr:=fr,nh:=nh} f shs obs res ds d):ej C f shs obs res ds d:=ej.ctx (C':=C) h rfl rfl rfl
def dq.hint {C:Ctx}{fr nh:List Nat}{Z:aT}(h:dq C Z):dq {C with fr:=fr,nh:=nh} Z:=
 λf ds d e s hs=>⟨λhm=>((h f ds d e s hs).1 hm).hint,λshs obs hm=>((h f ds d e s hs).2 shs obs hm).hint⟩
def gM.hint {C:Ctx}{fr nh:List Nat}{Z:aT}(h:gM C Z):gM {C with fr:=fr,nh:=nh} Z:=
 λf cs ys hc hi=>let⟨h1,h2⟩:=h f cs ys hc hi;⟨h1,λds d e=>let⟨xs,e1,e2,e3⟩:=h2 ds d e;⟨xs,e1,e2,e3.hint⟩⟩
def dK.hint {C:Ctx}{fr nh:List Nat}(h:dK C):dK {C with fr:=fr,nh:=nh}:=h
def O0 (C:Ctx)(f:Nat)(s:Sig)(ds:List D)(d:D):Prop:=(rB s.mode=false->iN C f s ds d)/\∀shs obs,s.mode=.ob shs obs->ej C f shs obs s.res ds d
structure TabOK (C:Ctx) (tab:Nat->Option PC) (ext:Nat->Option (aT->List D->Option D)):Prop where
 clos:dK C
 its:∀f cs ys,C.cap f=some cs->oH cs.args cs.res=some ys->tab f=none/\∃fn,C.P.funcs[f]?=some fn/\fn.body.isSome=true/\(fn.name== "runtime.NumGoroutine")=false
 tab:∀f pc,ext f=none->tab f=some pc->∃fn s ids fr nh,C.P.funcs[f]?=some fn/\C.sig f=some s/\mK {C with fr:=fr,nh:=nh} fn s ids=some pc
 ext:∀f g,ext f=some g->∀Z,dq C Z->gM C Z->∀ds d,g Z ds=some d->(∀s,C.sig f=some s->O0 C f s ds d)/\
  ∀cs ys,C.cap f=some cs->oH cs.args cs.res=some ys->∃xs,d=.list xs/\(∀x,x∈xs->∃ds',x=.tup ds'/\ds'.length=ys.length)/\mC C f cs.caps ys ds xs
def aaG {C:Ctx}{tab:Nat->Option PC}{ext:Nat->Option (aT->List D->Option D)}(h:TabOK C tab ext):∀n,dq C (eJ tab ext n)/\gM C (eJ tab ext n)
 |0=>⟨λf ds d e=>by simp[eJ] at e,λf cs ys hc hi=>⟨(h.its f cs ys hc hi).2,λds d e=>by simp[eJ] at e⟩⟩
 |n+1=>by
  obtain⟨ih,v7⟩:=aaG h n;refine⟨λf ds d e=>?_,λf cs ys hc hi=>⟨(h.its f cs ys hc hi).2,λds d e=>?_⟩⟩
  .simp only[eJ] at e;split at e
   .rename_i g hg;exact(h.ext f g hg _ ih v7 ds d e).1
   .rename_i hx;split at e
    .rename_i pc ab;split at e
     .rename_i d' he;cases e;obtain⟨fn,s,ids,fr,nh,h1,h2,h3⟩:=h.tab f pc hx ab;intro s' ef;rw[h2] at ef;cases ef
      exact⟨λhm=>(QI (C:={C with fr:=fr,nh:=nh}) (dK.hint h.clos) (dq.hint ih) (gM.hint v7) h1 h3 hm he).unhint,
       λshs obs hm=>(alV (C:={C with fr:=fr,nh:=nh}) (dK.hint h.clos) (dq.hint ih) (gM.hint v7) h1 h3 hm he).unhint⟩
     .cases e
    .cases e
  .simp only[eJ] at e;split at e
   .rename_i g hg;exact(h.ext f g hg _ ih v7 ds d e).2 cs ys hc hi
   .rw[(h.its f cs ys hc hi).1] at e;cases e
def akg (Z:aT)(pc:PC)(J k:Nat)(ds xs:List D):Prop:=aaj Z pc J ds xs/\∀x,x∈xs->∃ds',x=.tup ds'/\ds'.length=k
open Classical in
def Gn (pc:PC)(J k:Nat)(spec:List D->List D):aT->List D->Option D:=λZ ds=>if akg Z pc J k ds (spec ds) then some (.list (spec ds)) else none
def asn {C:Ctx}{Z:aT}(aY:dK C)(hΦ:dq C Z)(ed:gM C Z){f:Nat}{fn:Func}{cts ys:List Ty}{J k:Nat}{ids fr nh:List Nat}{pc:PC}(hf:C.P.funcs[f]?=some fn)(hc:∀yv,EB {C with fr:=fr,nh:=nh,yv:=yv} fn cts ys J ids=some pc){spec:List D->List D}
 {ds:List D} {d:D} (h:Gn pc J k spec Z ds=some d) (hk:k=ys.length):∃xs,d=.list xs/\(∀x,x∈xs->∃ds',x=.tup ds'/\ds'.length=ys.length)/\mC C f cts ys ds xs:=by
 unfold Gn at h;split at h
 .rename_i hs;cases h;subst hk;exact⟨_,rfl,hs.2,(alW (C:={C with fr:=fr,nh:=nh}) (dK.hint aY) (dq.hint hΦ) (gM.hint ed) hf hc hs.1).unhint⟩
 .cases h
def bH {α:Type}:List (Nat×α)->Nat->Option α
 |[],_=>none
 |x::l,f=>bif Nat.beq x.1 f then some x.2 else bH l f
def IG {α:Type}(R:Nat->α->Prop):List (Nat×α)->Prop
 |[]=>True
 |x::l=>R x.1 x.2/\IG R l
def TC {α:Type}{R:Nat->α->Prop}:∀{l:List (Nat×α)},IG R l->∀f x,bH l f=some x->R f x
 |[],_,f,x,h=>by cases h
 |y::l,⟨h1,h2⟩,f,x,h=>by
  simp only[bH] at h;cases hb:Nat.beq y.1 f<;>simp only[hb,zyy,zyx] at h
  .exact TC h2 f x h
  .cases h;rw[<-dC hb];exact h1
def W6 (P:Program):List (Nat×Sig)->Bool
 |[]=>true
 |x::l=>(match P.funcs[x.1]? with|some fn=>fn.body.isSome&& !(fn.name== "runtime.NumGoroutine")|none=>false)&&W6 P l
def ajt {P:Program}:∀{l:List (Nat×Sig)},W6 P l=true->∀f s,bH l f=some s->∃fn,P.funcs[f]?=some fn/\fn.body.isSome=true/\(fn.name== "runtime.NumGoroutine")=false
 |[],_,f,s,h=>by cases h
 |y::l,hl,f,s,h=>by
  simp only[W6,ao] at hl;simp only[bH] at h;cases hb:Nat.beq y.1 f<;>simp only[hb,zyy,zyx] at h
  .exact ajt hl.2 f s h
  .rw[<-dC hb];have h1:=hl.1;split at h1
   .rename_i fn e;simp only[ao,kD] at h1;exact⟨fn,e,h1.1,h1.2⟩
   .cases h1
def WQ (a b:Sig):Bool:=Ty.beqs a.args b.args&&Ty.beq a.res b.res&&(match a.mode,b.mode with|.dat,.dat=>true|_,_=>false)
def axa {a b:Sig}(h:WQ a b=true):a=b:=by
 obtain⟨a1,a2,a3⟩:=a;obtain⟨b1,b2,b3⟩:=b;simp only[WQ,ao] at h;rw[Ty.beqs_eq _ _ h.1.1,Ty.beq_eq _ _ h.1.2];cases a3<;>cases b3<;>first|rfl|(have:=h.2;cases this)
def Is (P:Program)(f:Nat):Bool:=match P.funcs[f]? with|some fn=>fn.body.isSome&& !(fn.name== "runtime.NumGoroutine")|none=>false
def axJ {P:Program}{f:Nat}(h:Is P f=true):∃fn,P.funcs[f]?=some fn/\fn.body.isSome=true/\(fn.name== "runtime.NumGoroutine")=false:=by
 unfold Is at h;split at h
 .rename_i fn e;simp only[ao,kD] at h;exact⟨fn,e,h.1,h.2⟩
 .cases h
def Qv (P:Program)(sig:List (Nat×Sig))(pcs:List Nat):List (Nat×CSig)->Bool
 |[]=>true
 |x::l=>(match oH x.2.args x.2.res with
   |none=>(match bH sig x.1 with|some s=>WQ s ⟨x.2.args++x.2.caps,x.2.res,.dat⟩|none=>false)
   |some _=> !fH pcs x.1&&Is P x.1)&&Qv P sig pcs l
def abd {P:Program}{sig:List (Nat×Sig)}{pcs:List Nat}:∀{l:List (Nat×CSig)},Qv P sig pcs l=true->∀f cs,bH l f=some cs->
 (oH cs.args cs.res=none->bH sig f=some ⟨cs.args++cs.caps,cs.res,.dat⟩)/\∀ys,oH cs.args cs.res=some ys->fH pcs f=false/\Is P f=true
 |[],_,f,cs,h=>by cases h
 |x::l,hl,f,cs,h=>by
  simp only[Qv,ao] at hl;simp only[bH] at h;cases hb:Nat.beq x.1 f<;>simp only[hb,zyy,zyx] at h
  .exact abd hl.2 f cs h
  .cases h;rw[<-dC hb];have h1:=hl.1;refine⟨λe=>?_,λys e=>?_⟩
   .rw[e] at h1;simp only at h1;split at h1
    .rename_i s hs;rw[hs,axa h1]
    .cases h1
   .rw[e] at h1;simpa using h1
def aeU {α:Type}:∀{l:List (Nat×α)} {f:Nat},fH (l.map (·.1)) f=false->bH l f=none
 |[],f,_=>rfl
 |x::l,f,h=>by
  simp only[iO,fH,List.any_cons,aac] at h;simp only[bH];have hb:Nat.beq x.1 f=false:=by
   cases e:Nat.beq x.1 f
   .rfl
   .rw[ay e,j9] at h;cases h.1
  rw[hb];exact aeU (l:=l) h.2
def ako (Z:aT)(pa pb:PC)(ds:List D)(d:D):Prop:=(∃N xs,pa.ev Z N (lX ds)=some (.ret (.list xs))/\xs≠[]/\d=.list xs)\/∃N,pb.ev Z N (lX ds)=some (.ret (.list []))/\d=.list []
open Classical in
def Cz (pa pb:PC)(spec:List D->D):aT->List D->Option D:=λZ ds=>if ako Z pa pb ds (spec ds) then some (spec ds) else none
def aus {C:Ctx}{Z:aT}(aY:dK C)(hΦ:dq C Z)(ed:gM C Z){f:Nat}{fn:Func}{args:List Ty}{e:Ty}{ids asa fr nh frb nhb:List Nat}{pa pb:PC}(hf:C.P.funcs[f]?=some fn)(ha:mK {C with fr:=fr,nh:=nh} fn ⟨args,.slice e,.dat⟩ ids=some pa)
 (hb:mK {C with fr:=frb,nh:=nhb} fn ⟨args,.nils .bool,.dat⟩ asa=some pb) {spec:List D->D} {ds:List D} {d:D} (h:Cz pa pb spec Z ds=some d):iN C f ⟨args,.nsl e,.dat⟩ ds d:=by
 unfold Cz at h;split at h
 case isFalse=>cases h
 rename_i hs;cases h;rcases hs with⟨N,xs,h1,h2,h3⟩|⟨N,h1,h2⟩
 .rw[h3];have:=(QI (C:={C with fr:=fr,nh:=nh}) (dK.hint aY) (dq.hint hΦ) (gM.hint ed) hf ha (N:=N) rfl h1).unhint;intro V w aa ar hC jq;refine(this V w aa ar hC jq).mono λen w' hh=>?_;obtain⟨v,V',g1,g2,g3,g4,g5,g6,g7⟩:=hh;refine⟨v,V',g1,g2,g3,g4,g5,g6,?_⟩;change Rep C.cap V' (.slice e) v (.list xs) at g7;show Rep C.cap V' (.nsl e) v (.list xs);generalize hd:D.list xs=dd at g7;cases g7 with
  |nil=>injection hd with hd;exact absurd hd h2
  |emp=>injection hd with hd;exact absurd hd h2
  |slice _ k o n c fl vs a1 a2 a3 a4 a5 a6=>exact .nsl e k o n c fl (.slice e k o n c fl vs a1 a2 a3 a4 a5 a6) (by injection hd with hd;rw[<-hd];exact h2)
 .rw[h2];have:=(QI (C:={C with fr:=frb,nh:=nhb}) (dK.hint aY) (dq.hint hΦ) (gM.hint ed) hf hb (N:=N) rfl h1).unhint;intro V w aa ar hC jq;refine(this V w aa ar hC jq).mono λen w' hh=>?_;obtain⟨v,V',g1,g2,g3,g4,g5,g6,g7⟩:=hh;refine⟨v,V',g1,g2,g3,g4,g5,g6,?_⟩;change Rep C.cap V' (.nils .bool) v (.list []) at g7;show Rep C.cap V' (.nsl e) v (.list []);generalize D.list []=dd at g7;cases g7;exact .nsl0 e
end Cx
namespace Cx
open Go Go.RowKit Go.ChangeShapes Go.WideShapes
def lF (w:World):Im:=
 ⟨λk o=>bif Nat.ble k 2|| !w.frozen? ⟨k,o,none⟩ then w.cell? ⟨k,o,none⟩ else none,λk=>match w.heap[k]? with|some (.cells _ _ _)=>some my|_=>none⟩
def asc (w:World):(lF w).ok w:=by
 refine⟨λk o v h=>?_,λk es h=>?_,λk o v h=>?_⟩
 case refine_2=>
  change (match w.heap[k]? with|some (.cells _ _ _)=>some my|_=>none)=_ at h;split at h
  .rename_i cs T fz e;cases h;exact .inr (.inr ⟨rfl,cs,T,fz,e⟩)
  .cases h
 all_goals change (bif Nat.ble k 2|| !w.frozen? ⟨k,o,none⟩ then w.cell? ⟨k,o,none⟩ else none)=_ at h
 all_goals cases hb:(Nat.ble k 2|| !w.frozen? ⟨k,o,none⟩)<;>rw[hb] at h
 .cases h
 .exact h
 .cases h
 .rw[kE] at hb;exact hb.imp jH (by simp)
def aee {w:World}{k o:Nat}{v:Value}(h:w.cell? ⟨k,o,none⟩=some v):(lF w).m k=some my:=by
 change (match w.heap[k]? with|some (.cells _ _ _)=>some my|_=>none)=_;unfold World.cell? at h;cases hk:w.heap[k]? with
 |none=>simp[hk] at h
 |some ob=>cases ob<;>simp_all
def aed {w:World}{k o:Nat}{v:Value}(h:w.cell? ⟨k,o,none⟩=some v)(hz:k<=2\/w.frozen? ⟨k,o,none⟩=false):(lF w).c k o=some v:=by
 change (bif Nat.ble k 2|| !w.frozen? ⟨k,o,none⟩ then w.cell? ⟨k,o,none⟩ else none)=_;rcases hz with hz|hz
 .have e:Nat.ble k 2=true:=Nat.ble_eq_true_of_le hz;rw[e];exact h
 .rw[hz];simpa using h
def De (P:Program)(r:TypeId->Option Ty):List Field->Nat->Option (List Ty)
 |[],_=>some []
 |f::fs,off=>(r f.type).bind λft=>
  bif Nat.beq f.offset off&&Nat.beq (P.cellsOf f.type) ft.flat.length then(De P r fs (off+ft.flat.length)).map (ft.flat++·) else none
def gE (P:Program):Nat->TypeId->Option Ty
 |0,_=>none
 |n+1,t=>
  match P.underlying t with
  |some .bool=>some .bool
  |some (.int k)=>some (.int k)
  |some .string=>some .str
  |some (.slice e)=>bif uP P e then some (.slice .trm) else(gE P n e).bind λte=>bif Nat.beq (P.cellsOf e) te.flat.length&&Nat.ble 1 te.flat.length then some (.slice te) else none
  |some (.struct fs)=>(De P (gE P n) fs.toList 0).bind λts=>bif Nat.beq (P.cellsOf t) ts.length then some (.agg ts) else none
  |_=>none
def asl {P:Program}{e:TypeId}(h:uP P e=true)(n:Nat):gE P (n+2) e=some .trmA/\P.cellsOf e=3:=by
 unfold uP at h;split at h
 case h_2=>cases h
 rename_i fs hu;split at h
 case h_2=>cases h
 rename_i f0 f1 f2 uF;simp only[ao] at h;obtain⟨⟨⟨⟨⟨⟨⟨⟨⟨h0,h1⟩,h2⟩,o0⟩,o1⟩,o2⟩,c0⟩,c1⟩,c2⟩,c3⟩:=h;split at h0
 case h_2=>cases h0
 rename_i u0;split at h1
 case h_2=>cases h1
 rename_i u1;split at h2
 case h_2=>cases h2
 rename_i e' u2;obtain rfl:=ay h2;have r0:gE P (n+1) f0.type=some (.int .i64):=by simp[gE,u0]
 have r1:gE P (n+1) f1.type=some (.int .i64):=by simp[gE,u1]
 have ht:uP P e'=true:=by
  unfold uP;rw[hu];simp only[uF];simp[u0,u1,u2,ay o0,ay o1,ay o2,ay c0,ay c1,ay c2,ay c3]
 have r2:gE P (n+1) f2.type=some (.slice .trm):=by simp[gE,u2,ht]
 refine⟨?_,ay c3⟩;show gE P (n+1+1) e'=_;rw[gE,hu];simp only[uF,De,r0,r1,r2,pj,Ty.flat,qA,Ah,o0,c0,Bool.and_self,zyy];simp[ay o1,ay o2,ay c1,ay c2,ay c3,Ty.trmA]
def Wv {P:Program}{n:Nat}{t:TypeId}{ty:Ty}(h:gE P n t=some ty):ty.rowT=true\/ty.one=true:=by
 cases n with
 |zero=>simp[gE] at h
 |succ n=>
  simp only[gE] at h;split at h
  .cases h;exact .inr rfl
  .cases h;exact .inr rfl
  .cases h;exact .inr rfl
  .rename_i e _;cases ht:uP P e<;>simp only[ht,zyy,zyx] at h
   .simp only[az] at h;obtain⟨te,_,h⟩:=h;cases hb:(Nat.beq (P.cellsOf e) te.flat.length&&Nat.ble 1 te.flat.length)<;>simp only[hb,zyy,zyx] at h
    .cases h
    .cases h;exact .inr rfl
   .cases h;exact .inr rfl
  .rename_i fs _;simp only[az] at h;obtain⟨ts,_,h⟩:=h;cases hb:Nat.beq (P.cellsOf t) ts.length<;>simp only[hb,zyy,zyx] at h
   .cases h
   .cases h;exact .inl rfl
  .cases h
def nH (cap:Nat->Option CSig)(V:Im)(ts:List Ty)(cs:List Value)(ds:List D):Prop:=
 cs.length=ts.length/\ds.length=ts.length/\∀(i:Nat) (u:Ty),ts[i]?=some u->Rep cap V u (cs.getD i undef) (ds.getD i .none)/\u.one=true
def nH.one {cap:Nat->Option CSig}{V:Im}{t:Ty}{v:Value}{d:D}(h:Rep cap V t v d)(ht:t.one=true):nH cap V [t] [v] [d]:=
 ⟨rfl,rfl,λi u hu=>by
   cases i with
   |zero=>simp at hu;subst hu;exact⟨h,ht⟩
   |succ i=>simp at hu⟩
def nH.append {cap:Nat->Option CSig}{V:Im}{ts us:List Ty}{cs vs:List Value}{ds es:List D}(h:nH cap V ts cs ds)(k:nH cap V us vs es):nH cap V (ts++us) (cs++vs) (ds++es):=by
 obtain⟨h1,h2,h3⟩:=h;obtain⟨k1,k2,k3⟩:=k;refine⟨by simp[h1,k1],by simp[h2,k2],λi u hu=>?_⟩;by_cases hi:i<ts.length
 .rw[nD hi] at hu;have:=h3 i u hu;rw[aE,aE,nD (by omega),nD (by omega)];rw[aE,aE] at this;exact this
 .rw[nE (by omega)] at hu;have:=k3 _ u hu;rw[aE,aE,nE (by omega),nE (by omega),h1,h2];rw[aE,aE] at this;exact this
def abw (ag:Bool)(ds:List D):D:=if ag then .agg ds else ds.getD 0 .none
def anR (t:Ty):t.flat.length=t.size:=by cases t<;>rfl
def Rep.ofRow {cap:Nat->Option CSig}{V:Im}{t:Ty}{cs:List Value}{ds:List D}(iZ:t.rowT=true\/t.one=true)(h:nH cap V t.flat cs ds):Rep cap V t (Cx.rowOf t.rowT cs) (abw t.rowT ds):=by
 obtain⟨h1,h2,h3⟩:=h;cases t with
 |agg ts=>exact .agg ts cs ds h1 h2 (λi u hu=>(h3 i u hu).1) (λi u hu=>(h3 i u hu).2)
 |trm=>simp[Ty.rowT,Ty.one] at iZ
 |_=>exact(h3 0 _ rfl).1
def awP {cap:Nat->Option CSig}{V:Im}{t:Ty}{cs:List Value}{ds:List D}(iZ:t.rowT=true\/t.one=true)(h:nH cap V t.flat cs ds){j:Nat}{u:Value}(hj:(rowOf t.rowT cs).cells[j]?=some u):cs[j]?=some u:=by
 obtain⟨h1,h2,h3⟩:=h;cases t with
 |agg ts=>simpa [rowOf,Ty.rowT,Value.cells] using hj
 |trm=>simp[Ty.rowT,Ty.one] at iZ
 |_=>
  have h4:=h3 0 _ rfl;have h5:=(h4.1.oneCell h4.2).1;simp only[rowOf,Ty.rowT,xn,if_false] at hj;rw[h5] at hj;cases j with
  |zero=>
   simp only[xx,O9,ba] at hj
   match cs,h1 with
   |[c],_=>simpa using hj
  |succ j=>simp at hj
section
variable {zzt:Type} {enc:TypeId×Value->zzt} {P:Program} {w:World} {base:Nat} {held:Bool} {cap:Nat->Option CSig}
def ajI {k:IntKind}{n:Int}(h:(Lit.int k n).wf=true):k.min<=n/\n<=k.max:=by
 simpa [Lit.wf] using h
def aiL {n m:Nat}(ih:∀(t:TypeId) (cs:List Value) (x:DataW zzt×List MemPlace) (ty:Ty),DataW.trod enc P w base (λ_=>true) held n t cs=some x->w.noneFrozen x.2->gE P m t=some ty->∃ds,nH cap (lF w) ty.flat cs ds):
 ∀(fs:List Field) (off:Nat) (cs:List Value) (ts:List Ty),De P (gE P m) fs off=some ts->cs.length=off+ts.length->
  (∀f,f∈fs->∃x,DataW.trod enc P w base (λ_=>true) held n f.type ((cs.drop f.offset).take (P.cellsOf f.type))=some x/\w.noneFrozen x.2)->∃ds,nH cap (lF w) ts (cs.drop off) ds
 |[],off,cs,ts,h,hl,_=>by
  simp only[De,ba] at h;subst h;have:cs.drop off=[]:=by simp at hl ⊢;omega
  rw[this];exact⟨[],rfl,rfl,λi u hu=>by simp at hu⟩
 |f::fs,off,cs,ts,h,hl,hx=>by
  simp only[De,az] at h;obtain⟨ft,hft,h⟩:=h;cases hb:(Nat.beq f.offset off&&Nat.beq (P.cellsOf f.type) ft.flat.length)<;>simp only[hb,zyy,zyx] at h
  .cases h
  simp only[aB] at h;obtain⟨us,hus,rfl⟩:=h;simp only[ao] at hb;have e1:=dC hb.1;have e2:=dC hb.2;obtain⟨x,kR,pP⟩:=hx f (fO ..);rw[e1,e2] at kR;obtain⟨EF,l6⟩:=ih _ _ _ _ kR pP hft;simp only[mE] at hl;obtain⟨ds2,mU⟩:=aiL ih fs (off+ft.flat.length) cs us hus (by omega) λg hg=>hx g (fo _ hg);refine⟨EF++ds2,?_⟩;have:=l6.append mU;rw[<-List.drop_drop,IT] at this;exact this
def aAd:∀(n m:Nat) (t:TypeId) (cs:List Value) (x:DataW zzt×List MemPlace) (ty:Ty),DataW.trod enc P w base (λ_=>true) held n t cs=some x->w.noneFrozen x.2->gE P m t=some ty->∃ds,nH cap (lF w) ty.flat cs ds:=by
 intro n
 induction n with
 |zero=>intro m t cs x ty h;simp[DataW.trod] at h
 |succ n ih=>
  intro m t cs x ty h hz bq;cases m with
  |zero=>simp[gE] at bq
  |succ m=>
   simp only[gE] at bq;split at bq
   .rename_i hu;cases bq;obtain⟨b,rfl,_⟩:=DataW.trod_bool hu h;exact⟨_,.one (.bool b) rfl⟩
   .rename_i k hu;cases bq;obtain⟨z,rfl,_,hw⟩:=DataW.trod_int hu h;exact⟨_,.one (.int k z (ajI hw).1 (ajI hw).2) rfl⟩
   .rename_i hu;cases bq;obtain⟨s,rfl,_,hs⟩:=DataW.trod_string hu h;exact⟨_,.one (.str s hs) rfl⟩
   .rename_i e hu;have yS:∃(m':Nat) (te zQ:Ty),gE P m' e=some te/\P.cellsOf e=te.flat.length/\1<=te.flat.length/\ty=.slice zQ/\zQ.unf=te:=by
     cases ht:uP P e<;>simp only[ht,zyy,zyx] at bq
     .simp only[az] at bq;obtain⟨te,yS,bq⟩:=bq;cases hb:(Nat.beq (P.cellsOf e) te.flat.length&&Nat.ble 1 te.flat.length)<;>simp only[hb,zyy,zyx] at bq
      .cases bq
      cases bq;simp only[ao] at hb;exact⟨m,te,te,yS,dC hb.1,jH hb.2,rfl,Ty.unf_ro (Wv yS)⟩
     .cases bq;obtain⟨k1,k2⟩:=asl ht 0;exact⟨2,.trmA,.trm,k1,k2,by decide,rfl,rfl⟩
    obtain⟨m',te,zQ,yS,e1,e2,rfl,l7⟩:=yS;have iZ:=Wv yS;rcases DataW.trod_slice hu h with⟨rfl,_⟩|⟨a,len,cp,elems,rest,n',lD,rfl,LX,hba,hl,hm,hlen,dt,vR,_⟩
    .exact⟨_,.one (.nil zQ) rfl⟩
    .cases lD;obtain⟨hrl,s9⟩:=vR rfl
     have mO:∀i,i<cp->∃ci y,w.cells? base (a.add (i*P.cellsOf e)) (P.cellsOf e)=some ci/\DataW.trod enc P w base (λ_=>true) held n e ci=some y/\y∈elems++rest:=by
      intro i hi
      have fy:∃y,(w.cells? base (a.add (i*P.cellsOf e)) (P.cellsOf e)).bind (DataW.trod enc P w base (λ_=>true) held n e)=some y/\y∈elems++rest:=by
           by_cases yz:i<len
           .rw[dt i yz];exact⟨_,aW (by omega),jm _ (bS _)⟩
           .have:=s9 (i-len) (by omega);rw[show len+(i-len)=i by omega] at this;rw[this];exact⟨_,aW (by omega),jG _ (bS _)⟩
      obtain⟨y,hy,Te⟩:=fy;rw[az] at hy;obtain⟨ci,h1,h2⟩:=hy;exact⟨ci,y,h1,h2,Te⟩
     by_cases Fp:cp=0
     .subst Fp;have:len=0:=by omega
      subst this;exact⟨_,.one (.emp zQ a) rfl⟩
     .have adV:a.spot=none:=by
           obtain⟨ci,y,h1,_⟩:=mO 0 (by omega);obtain⟨_,_,h3⟩:=World.cells?_some h1;have:=h3 0 (by omega);simp only[Po,Addr.add,if_true] at this;unfold World.cell? at this;cases hs:a.spot with
           |none=>rfl
           |some s=>
            exfalso;have hl:ci.length=P.cellsOf e:=(World.cells?_some h1).2.1;split at this
            .rw[hs] at this;simp at this;subst this;simp at hl;omega
            .rw[eq_comm,List.getElem?_eq_none_iff] at this;omega
      obtain⟨k,o,s⟩:=a;simp only at adV;subst adV;have aK:∀i,∃p:List Value×List D,i<len->w.cells? base ((⟨k,o,none⟩:Addr).add (i*P.cellsOf e)) (P.cellsOf e)=some p.1/\nH cap (lF w) te.flat p.1 p.2:=by
           intro i;by_cases hi:i<len
           .obtain⟨ci,y,h1,h2,Te⟩:=mO i (by omega);obtain⟨ds,hr⟩:=ih m' _ _ _ _ h2 (λb off hp=>hz b off (by rw[LX];exact jG _ (xz.2 ⟨y,Te,hp⟩))) yS;exact⟨(ci,ds),λ_=>⟨h1,hr⟩⟩
           .exact⟨([],[]),λh=>absurd h hi⟩
      obtain⟨f,hf⟩:=Classical.axiomOfChoice aK;have vN:(lF w).m k=some my:=by
           obtain⟨ci,y,h1,_⟩:=mO 0 (by omega);obtain⟨_,h4,h5⟩:=World.cells?_some h1;have h6:=h5 0 (by omega);rw[aW (by omega)] at h6;simp only[Po,Addr.add,if_true] at h6;exact aee h6
      refine⟨_,.one (.slice zQ k o len cp ((List.range len).map λi=>abw te.rowT (f i).2) (λi=>rowOf te.rowT (f i).1) (by simp) hl hm (λi x hx=>?_) (λi j u hi hj=>?_) (λ_=>vN)) rfl⟩
      .rw[cj,aB] at hx;obtain⟨i',dc,rfl⟩:=hx;have af:i<len:=by have:=(eG.1 dc).1;simpa using this
       rw[sv af] at dc;cases dc;rw[l7];exact Rep.ofRow iZ (hf i af).2
      .obtain⟨h1,h2⟩:=hf i hi;have cH:=awP iZ h2 hj;obtain⟨_,h4,h5⟩:=World.cells?_some h1;have gS:j<P.cellsOf e:=by rw[<-h4];exact(eG.1 cH).1
       have:=h5 j gS;rw[cH] at this;have bP:i*P.cellsOf e+j<(elems.length+rest.length)*P.cellsOf e:=by
           have h6:(i+1)*P.cellsOf e<=(elems.length+rest.length)*P.cellsOf e:=ka _ (by omega);rw[Nat.succ_mul] at h6;omega
       have Ck:=hz k (o+(i*P.cellsOf e+j)) (by rw[LX];exact jm _ (MemPlace.mem_row.2 ⟨_,bP,rfl⟩));rw[<-zQ.unf_size,l7,<-anR,<-e1,sw];refine aed ?_ (.inr Ck);rw[<-this]
       congr 1
       simp only[Addr.add];split<;>split<;>simp_all<;>omega
   .rename_i fs hu;simp only[az] at bq;obtain⟨ts,Cf,bq⟩:=bq;cases hb:Nat.beq (P.cellsOf t) ts.length<;>simp only[hb,zyy,zyx] at bq
    .cases bq
    cases bq;obtain⟨xs,n',lD,LX,hl,yY,hf⟩:=DataW.trod_struct hu h;cases lD
    have:=aiL (ih m) fs.toList 0 cs ts Cf (by rw[hl,dC hb];omega) (λf hm=>by
     obtain⟨i,hi⟩:=Ag hm;have dc:fs[i]?=some f:=by simpa using hi
     have h1:=hf i f dc;have af:i<fs.size:=(ei.1 dc).1;exact⟨_,h1.trans (aW (by omega)),λb off hp=>hz b off (by rw[LX];exact xz.2 ⟨_,bS (by omega),hp⟩)⟩)
    show ∃ds,nH cap (lF w) ts cs ds;simpa using this
   .cases bq
def Es {base:Nat}{t:TypeId}{v:Value}(h:Cell.okWide P w .any base t v):v.cells=#[v]:=by
 cases v<;>first|rfl|(exfalso;simp only[Cell.okWide,Cell.ok] at h;revert h;cases P.underlying t with|none=>simp|some T=>cases T<;>simp)
def akK {base base':Nat}{m:Nat}{t:TypeId}{v:Value}{d:DataW zzt}{ps:List MemPlace}{ty:Ty}(ar:Value.okWide P w .any base' t v)(h:DataW.Trod enc P w base (λ_=>true) held t v d ps)(hz:w.noneFrozen ps)(bq:gE P m t=some ty):∃d,Rep cap (lF w) ty v d:=by
 obtain⟨fuel,h⟩:=h;obtain⟨ds,hr⟩:=aAd (cap:=cap) fuel m t _ _ _ h hz bq;have bJ:=Rep.ofRow (Wv bq) hr;cases m with
 |zero=>simp[gE] at bq
 |succ m=>
  suffices hs:rowOf ty.rowT v.cells.toList=v by rw[hs] at bJ;exact⟨_,bJ⟩
  simp only[gE] at bq;unfold Value.okWide at ar;split at bq
  .rename_i hu;cases bq;rw[hu] at ar;simp only at ar;rw[Es ar];rfl
  .rename_i hu;cases bq;rw[hu] at ar;simp only at ar;rw[Es ar];rfl
  .rename_i hu;cases bq;rw[hu] at ar;simp only at ar;rw[Es ar];rfl
  .rename_i e hu;cases ht:uP P e<;>simp only[ht,zyy,zyx] at bq
   .simp only[az] at bq;obtain⟨te,_,bq⟩:=bq;cases hb:(Nat.beq (P.cellsOf e) te.flat.length&&Nat.ble 1 te.flat.length)<;>simp only[hb,zyy,zyx] at bq
    .cases bq
    cases bq;rw[hu] at ar;simp only at ar;rw[Es ar];rfl
   .cases bq;rw[hu] at ar;simp only at ar;rw[Es ar];rfl
  .rename_i fs hu;simp only[az] at bq;obtain⟨ts,_,bq⟩:=bq;cases hb:Nat.beq (P.cellsOf t) ts.length<;>simp only[hb,zyy,zyx] at bq
   .cases bq
   cases bq;rw[hu] at ar;obtain⟨cs,rfl,_⟩:=ar;simp[rowOf,Ty.rowT,Value.cells]
  .cases bq
def H6 (P:Program)(m:Nat):List TypeId->Option (List Ty)
 |[]=>some []
 |t::ts=>(gE P m t).bind λx=>(H6 P m ts).map (x::·)
def aaQ {base base' m:Nat}:∀(ts:List TypeId) (vs:List Value) (ds:List (DataW zzt)) (ps:List MemPlace) (fL:List Ty),DataW.TrodAll enc P w base (λ_=>true) held ts vs ds ps->w.noneFrozen ps->H6 P m ts=some fL->
 (∀(j:Nat) t v,ts[j]?=some t->vs[j]?=some v->Value.okWide P w .any base' t v)->
 ∃es:List D,vs.length=fL.length/\es.length=fL.length/\∀(i:Nat) (t:Ty),fL[i]?=some t->Rep cap (lF w) t (vs.getD i undef) (es.getD i .none)
 |[],vs,ds,ps,fL,h,hz,bq,_=>by
  simp only[H6,ba] at bq;subst bq;cases vs with
  |nil=>exact⟨[],rfl,rfl,λi t h=>by simp at h⟩
  |cons=>cases ds<;>exact h.elim
 |t::ts,vs,ds,ps,fL,h,hz,bq,ar=>by
  simp only[H6,az,aB] at bq;obtain⟨ty,arR,aAh,arS,rfl⟩:=bq;cases vs with
  |nil=>cases ds<;>exact h.elim
  |cons v vs=>
   cases ds with
   |nil=>exact h.elim
   |cons d ds=>
    obtain⟨p,q,h1,h2,hpq⟩:=h;obtain⟨e,he⟩:=akK (cap:=cap) (ar 0 t v rfl rfl) h1 (λb off hp=>hz b off (by rw[hpq];exact jm _ hp)) arR;obtain⟨es,k1,k2,k3⟩:=aaQ ts vs ds q aAh h2 (λb off hp=>hz b off (by rw[hpq];exact jG _ hp)) arS (λj t' v' hj hv=>ar (j+1) t' v' hj hv);refine⟨e::es,by simp[k1],by simp[k2],λi u hu=>?_⟩;cases i with
    |zero=>simp at hu;subst hu;exact he
    |succ i=>simpa using k3 i u (by simpa using hu)
end
mutual
inductive DTy:Ty->D->Prop where
 |int (k:IntKind) (n:Int) (h1:k.min<=n) (h2:n<=k.max):DTy (.int k) (.v (.int k n))
 |bool (b:Bool):DTy .bool (.v (.bool b))
 |str (s:ByteArray) (h:s.size<=maxLen):DTy .str (.v (.string s))
 |slice (e:Ty) (xs:List D) (hm:xs.length<=maxLen) (h:∀x,x∈xs->DTy e.unf x):DTy (.slice e) (.list xs)
 |agg (ts:List Ty) (ds:List D) (h:DTys ts ds):DTy (.agg ts) (.agg ds)
 |other (t:Ty) (d:D) (h:match t with|.int _|.bool|.str|.slice _|.agg _=>False|_=>True):DTy t d
inductive DTys:List Ty->List D->Prop where
 |nil:DTys [] []
 |cons {t:Ty} {d:D} {ts:List Ty} {ds:List D} (h:DTy t d) (hs:DTys ts ds):DTys (t::ts) (d::ds)
end
def DTys.of_get:∀{ts:List Ty} {ds:List D},ds.length=ts.length->(∀(i:Nat) (t:Ty),ts[i]?=some t->DTy t (ds.getD i .none))->DTys ts ds
 |[],[],_,_=>.nil
 |t::ts,d::ds,hl,h=>.cons (h 0 t rfl) (DTys.of_get (by simpa using hl) λi u hu=>by simpa using h (i+1) u (by simpa using hu))
 |[],_::_,hl,_=>by simp at hl
 |_::_,[],hl,_=>by simp at hl
def Rep.dty {cap:Nat->Option CSig}{V:Im}{t:Ty}{v:Value}{d:D}(h:Rep cap V t v d):DTy t d:=by
 induction h with
 |int k n h1 h2=>exact .int k n h1 h2
 |bool b=>exact .bool b
 |str s h=>exact .str s h
 |agg ts vs ds h1 h2 _ ho ih=>exact .agg ts ds (.of_get h2 ih)
 |nil e=>exact .slice e [] (by decide) (λx hx=>by cases hx)
 |emp e a=>exact .slice e [] (by decide) (λx hx=>by cases hx)
 |slice e k o n c xs vs hn hc hm _ hv _ ih=>
  refine .slice e xs (by omega) λx hx=>?_;obtain⟨i,hi⟩:=Ag hx;exact ih i x hi
 |_=>exact .other _ _ trivial
def asz {zzt:Type}{enc:TypeId×Value->zzt}{C:Ctx}{f:Nat}{fn:Func}{sg:Sig}{spec:ChangeSpec}{tb:TypeId}{apart fresh handsOn again:Bool}(hl:laidOutB C.P=true)
 (tc:H6 C.P 12 fn.params.toList=some sg.args) (arj:fn.params.toList.all (λt=>C.P.readableRec t&&decide (t<C.P.types.size))=true) (SZ:spec.vars=[])
 (arC:∀ds:List (DataW zzt),ds.length=fn.params.size->(spec.fn zzt ds).results=[.lit (.bool true)]/\(spec.fn zzt ds).args=ds/\(spec.fn zzt ds).vars=[])
 (fX:fn.resultTypes=#[tb]) (LS:C.P.underlying tb=some .bool) (lC:sg.mode=.dat) (vP:sg.res=.bool)
 (Sb:∀ds,DTys sg.args ds->iN C f sg ds (.v (.bool true)))
 (W:World) (sR:CtxOK C (lF W)) (base:Nat) (args:Array Value) (ds gs:List (DataW zzt)) (before:List MemPlace)
 (cv:∀(j:Nat) t v,fn.params[j]?=some t->args[j]?=some v->Value.okWide C.P W .any base t v)
 (hW:DataW.Whole enc C.P fn.params.toList spec.vars apart W args.toList ds gs before):
 Calls C.P f args W λe W'=>∃v,e=.returned v/\spec.post enc C.P fn apart fresh handsOn again W args v W':=by
 have Ld:=hW;have af:∀p∈before,p.block<W.heap.size:=λp hp=>Ld.lt p hp;obtain⟨p,q,hA,hV,rfl,BY,bo⟩:=hW;rw[SZ] at hV;obtain⟨rfl,rfl⟩:=trodVars_none hV;obtain⟨es,k1,k2,k3⟩:=aaQ (cap:=C.cap) (base':=base) fn.params.toList args.toList ds p sg.args hA (λb off hp=>BY b off (by simpa using hp)) tc (λj t v hj hv=>cv j t v (by simpa using hj) (by simpa using hv));have bq:DTys sg.args es:=.of_get k2 λi t ht=>(k3 i t ht).dty
 have hlen:∀(ts:List TypeId) (vs:List Value) (ds:List (DataW zzt)) (ps:List MemPlace),DataW.TrodAll enc C.P W 0 (λ_=>true) true ts vs ds ps->ds.length=ts.length:=by
  intro ts
  induction ts with
  |nil=>intro vs ds ps h;cases vs<;>cases ds<;>first|rfl|exact h.elim
  |cons t ts ih=>
   intro vs ds ps h;cases vs with
   |nil=>cases ds<;>exact h.elim
   |cons v vs=>cases ds with
    |nil=>exact h.elim
    |cons d ds=>obtain⟨p,q,_,h2,_⟩:=h;simp[ih vs ds q h2]
 have Ft:ds.length=fn.params.size:=by simpa using hlen _ _ _ _ hA
 obtain⟨s1,s2,s3⟩:=arC (ds++[]) (by simpa using Ft);refine(Sb es bq (lF W) W args (asc W) sR ⟨k1,k2,k3⟩).mono λe W' hh=>?_;obtain⟨v,V',rfl,_,_,hb,_,_,hr⟩:=hh;refine⟨v,rfl,?_⟩;simp only[lU,lC,vP] at hr;obtain⟨b,rfl,yq⟩:=hr.bool_inv;cases yq
 have stays:∀(sp:Nat->Bool) (ts:List TypeId) (vs:List Value) (ds:List (DataW zzt)) (ps:List MemPlace),ts.all (λt=>C.P.readableRec t&&decide (t<C.P.types.size))=true->(∀x∈ps,x.block<W.heap.size)->(∀x∈ps,sp x.block=true)->
  DataW.TrodAll enc C.P W 0 (λ_=>true) true ts vs ds ps->DataW.TrodAll enc C.P W' 0 sp true ts vs ds ps:=by
  intro sp ts
  induction ts with
  |nil=>intro vs ds ps _ _ _ h;cases vs<;>cases ds<;>first|exact h|exact h.elim
  |cons t ts ih=>
   intro vs ds ps ha sX vR h;cases vs with
   |nil=>cases ds<;>exact h.elim
   |cons v vs=>cases ds with
    |nil=>exact h.elim
    |cons d ds=>
     obtain⟨p,q,h1,h2,rfl⟩:=h;simp only[sq,ao,decide_eq_true_eq] at ha
     exact⟨p,q,WideElems.Trod_stays hl ha.1.1 ha.1.2 h1 (λx hx=>hb.same (sX x (jm _ hx))) (λx hx=>vR x (jm _ hx)),
      ih vs ds q (by simpa using ha.2) (λx hx=>sX x (jG _ hx)) (λx hx=>vR x (jG _ hx)) h2,rfl⟩
 have adt:∀x∈p,x.block<W.heap.size:=λx hx=>af x (jm _ hx);have jq:=λsp (h:∀x∈p,sp x.block=true)=>stays sp _ _ _ _ arj adt h hA;have s9:∀(b:Nat) (sp:Nat->Bool) (hd:Bool),DataW.TrodAll enc C.P W' b sp hd fn.resultTypes.toList ((Value.bool true).resultList fn.resultTypes.size) [.lit (.bool true)] []:=by
  intro b sp hd;rw[fX];exact trodAll_mk1 (shut_bool LS true)
 refine⟨ds,[],p++[],[],p,[],Ld,?_,?_,?_,World.keptBut_mono (λx hx=>⟨hx,?_⟩) (hb.frame (·∈p++[])),λ_=>?_⟩
 .rw[s1];exact s9 _ _ _
 .rw[s2];simpa using jq _ (λx hx=>by simpa using adt x hx)
 .rw[s3,SZ];rfl
 .simpa using hx
 .refine⟨ok_one fX rfl (okWide_bool_mk LS true),_,[],([]++p)++[],⟨[]++p,[],trodAll_append (jq _ (λ_ _=>rfl)) (s9 _ _ _),by rw[SZ];exact rfl,rfl,?_,?_⟩,?_⟩
  .intro b off hp;have bP:MemPlace.cell b off∈p++[]:=by simpa using hp
   rw[hb.frozen (af _ bP)];exact BY b off bP
  .intro ha;simpa using bo ha
  .intro x hx _;simpa using hx
end Cx
namespace Cx
open Go Go.RowKit
abbrev cK:=Nat->aT
def ah (T:cK)(f:Nat)(ds:List D)(d:D):Prop:=∃n0,∀n,n0<=n->T n f ds=some d
def Ac (T:cK)(l:List PI)(O:Env)(Q:Env->Prop):Prop:=∃O',Q O'/\∃n0,∀n,n0<=n->PI.runs (T n) l O=some O'
def aL (T:cK)(c:PC)(O:Env)(Q:Out->Prop):Prop:=∃x,Q x/\∃n0,∀n,n0<=n->c.ev (T n) n O=some x
def aL.mono {T:cK}{c:PC}{O:Env}{Q Q':Out->Prop}(h:aL T c O Q)(hq:∀x,Q x->Q' x):aL T c O Q':=by
 obtain⟨x,hx,n0,hn⟩:=h;exact⟨x,hq x hx,n0,hn⟩
def Ac.nil {T:cK}{O:Env}{Q:Env->Prop}(h:Q O):Ac T [] O Q:=⟨O,h,0,λ_ _=>rfl⟩
def Ac.cons {T:cK}{p:PI}{l:List PI}{O ρ1:Env}{Q:Env->Prop}{n0:Nat}(h:∀n,n0<=n->p.run (T n) O=some ρ1)(k:Ac T l ρ1 Q):Ac T (p::l) O Q:=by
 obtain⟨O',hQ,n1,h1⟩:=k;exact⟨O',hQ,max n0 n1,λn hn=>by simp[PI.runs,h n (by omega),h1 n (by omega)]⟩
def iK (T:cK):List PI->Env->(Env->Prop)->Prop
 |[],O,Q=>Q O
 |.setR t e::l,O,Q=>iK T l (O.setR t (e.ev O)) Q
 |.setO t e::l,O,Q=>iK T l (O.setO t (e.ev O)) Q
 |.chk e::l,O,Q=>(e.ev O).b=true/\iK T l O Q
 |.call gs dst f args::l,O,Q=>if holds gs O=true then ∃d,ah T f (PE.evs O args) d/\iK T l (O.setR dst d) Q else iK T l O Q
 |.callc gs dst e args::l,O,Q=>if holds gs O=true then ∃f caps d,e.ev O=.clo f caps/\ah T f (PE.evs O args++caps) d/\iK T l (O.setR dst d) Q else iK T l O Q
 |.mcall j f args::l,O,Q=>∃d,ah T f (PE.evs O args) d/\iK T l (O.setO j d) Q
def vd {T:cK}:∀{l:List PI} {O:Env} {Q:Env->Prop},iK T l O Q->Ac T l O Q
 |[],O,Q,h=>.nil h
 |.setR t e::l,O,Q,h=>.cons (n0:=0) (λ_ _=>rfl) (vd h)
 |.setO t e::l,O,Q,h=>.cons (n0:=0) (λ_ _=>rfl) (vd h)
 |.chk e::l,O,Q,h=>.cons (n0:=0) (λn _=>by simp[PI.run,h.1]) (vd h.2)
 |.call gs dst f args::l,O,Q,h=>by
  unfold iK at h;split at h
  .rename_i hg;obtain⟨d,⟨n0,hn⟩,h⟩:=h;exact .cons (n0:=n0) (λn hle=>by simp[PI.run,hg,hn n hle]) (vd h)
  .rename_i hg;exact .cons (n0:=0) (λn hle=>by simp[PI.run,hg]) (vd h)
 |.callc gs dst e args::l,O,Q,h=>by
  unfold iK at h;split at h
  .rename_i hg;obtain⟨f,caps,d,he,⟨n0,hn⟩,h⟩:=h;exact .cons (n0:=n0) (λn hle=>by simp[PI.run,hg,he,hn n hle]) (vd h)
  .rename_i hg;exact .cons (n0:=0) (λn hle=>by simp[PI.run,hg]) (vd h)
 |.mcall j f args::l,O,Q,h=>by
  obtain⟨d,⟨n0,hn⟩,h⟩:=h;exact .cons (n0:=n0) (λn hle=>by simp[PI.run,hn n hle]) (vd h)
def lJ (O:Env)(lr lo:List Nat)(Q:Out->Prop):Out->Prop
 |.next O'=>Q (.next (O.join lr lo O'))
 |x=>Q x
def mJ (O:Env)(id:Nat)(lr lo:List Nat)(Q:Out->Prop):Out->Prop
 |.next O'=>Q (.next (O.join lr lo O'))
 |.exit bQ O'=>if bQ=id then Q (.next (O.join lr lo O')) else Q (.exit bQ O')
 |.ret d=>Q (.ret d)
def gH (K:Env->Prop)(Q:Out->Prop):Out->Prop
 |.next O'=>K O'
 |.exit id O'=>Q (.exit id O')
 |.ret d=>Q (.ret d)
def aL.is {T:cK}{l:List PI}{O:Env}{Q:Out->Prop}(h:iK T l O λO'=>Q (.next O')):aL T (.is l) O Q:=by
 obtain⟨O',hQ,n0,hn⟩:=vd h;exact⟨.next O',hQ,n0,λn hle=>by simp[PC.ev,hn n hle]⟩
def aL.skip {T:cK}{O:Env}{Q:Out->Prop}(h:Q (.next O)):aL T .skip O Q:=⟨_,h,0,λ_ _=>rfl⟩
def aL.exit {T:cK}{O:Env}{id:Nat}{Q:Out->Prop}(h:Q (.exit id O)):aL T (.exit id) O Q:=⟨_,h,0,λ_ _=>rfl⟩
def aL.ret {T:cK}{O:Env}{e:PE}{Q:Out->Prop}(h:Q (.ret (e.ev O))):aL T (.ret e) O Q:=⟨_,h,0,λ_ _=>rfl⟩
def aL.seq {T:cK}{a b:PC}{O:Env}{Q:Out->Prop}(h:aL T a O (gH (λO'=>aL T b O' Q) Q)):aL T (.seq a b) O Q:=by
 obtain⟨x,hx,n0,hn⟩:=h;cases x with
 |next O'=>
  obtain⟨y,hy,n1,h1⟩:=hx;exact⟨y,hy,max n0 n1,λn hle=>by simp[PC.ev,hn n (by omega),h1 n (by omega)]⟩
 |exit id O'=>exact⟨_,hx,n0,λn hle=>by simp[PC.ev,hn n hle]⟩
 |ret d=>exact⟨_,hx,n0,λn hle=>by simp[PC.ev,hn n hle]⟩
def aL.ite {T:cK}{c:PE}{lr lo:List Nat}{a b:PC}{O:Env}{Q:Out->Prop}(h:if(c.ev O).b=true then aL T a O (lJ O lr lo Q) else aL T b O (lJ O lr lo Q)):aL T (.ite c lr lo a b) O Q:=by
 split at h
 all_goals
  rename_i hc;obtain⟨x,hx,n0,hn⟩:=h;cases x with
  |next O'=>exact⟨_,hx,n0,λn hle=>by simp[PC.ev,hc,hn n hle]⟩
  |exit id O'=>exact⟨_,hx,n0,λn hle=>by simp[PC.ev,hc,hn n hle]⟩
  |ret d=>exact⟨_,hx,n0,λn hle=>by simp[PC.ev,hc,hn n hle]⟩
def aL.block {T:cK}{id:Nat}{lr lo:List Nat}{a:PC}{O:Env}{Q:Out->Prop}(h:aL T a O (mJ O id lr lo Q)):aL T (.block id lr lo a) O Q:=by
 obtain⟨x,hx,n0,hn⟩:=h;cases x with
 |next O'=>exact⟨_,hx,n0,λn hle=>by simp[PC.ev,hn n hle]⟩
 |exit bQ O'=>
  simp only[mJ] at hx;split at hx
  .rename_i e;subst e;exact⟨_,hx,n0,λn hle=>by simp[PC.ev,hn n hle]⟩
  .rename_i e;exact⟨_,hx,n0,λn hle=>by simp[PC.ev,hn n hle,fp e]⟩
 |ret d=>exact⟨_,hx,n0,λn hle=>by simp[PC.ev,hn n hle]⟩
def aL.loop {T:cK}{lr lo:List Nat}{a:PC}{O:Env}{Q:Out->Prop}{α:Type}(inv:α->List D->List D->Prop)(wx:α->Nat)(s0:α)(h0:inv s0 (lr.map O.r) (lo.map O.o))
 (step:∀s vr vo,inv s vr vo->aL T a (O.put lr vr lo vo) (gH (λO'=>∃s',wx s'<wx s/\inv s' (lr.map O'.r) (lo.map O'.o)) Q)):aL T (.loop lr lo a) O Q:=by
 have key:∀(m:Nat) (s:α) (vr vo:List D),wx s<=m->inv s vr vo->∃x,Q x/\∃n0,∀n k,n0<=n->n0<=k->jd (a.ev (T n) n) O lr lo k vr vo=some x:=by
  intro m
  induction m with
  |zero=>
   intro s vr vo hm hi;obtain⟨x,hx,n0,hn⟩:=step s vr vo hi;cases x with
   |next O'=>obtain⟨s',af,_⟩:=hx;omega
   |exit id O'=>
    refine⟨_,hx,n0+1,λn k hle hk=>?_⟩;obtain⟨k',rfl⟩:∃k',k=k'+1:=⟨k-1,by omega⟩
    simp[jd,hn n (by omega)]
   |ret d=>
    refine⟨_,hx,n0+1,λn k hle hk=>?_⟩;obtain⟨k',rfl⟩:∃k',k=k'+1:=⟨k-1,by omega⟩
    simp[jd,hn n (by omega)]
  |succ m ih=>
   intro s vr vo hm hi;obtain⟨x,hx,n0,hn⟩:=step s vr vo hi;cases x with
   |next O'=>
    obtain⟨s',af,dc⟩:=hx;obtain⟨y,hy,n1,h1⟩:=ih s' _ _ (by omega) dc;refine⟨y,hy,max n0 n1+1,λn k hle hk=>?_⟩;obtain⟨k',rfl⟩:∃k',k=k'+1:=⟨k-1,by omega⟩
    simp[jd,hn n (by omega),h1 n k' (by omega) (by omega)]
   |exit id O'=>
    refine⟨_,hx,n0+1,λn k hle hk=>?_⟩;obtain⟨k',rfl⟩:∃k',k=k'+1:=⟨k-1,by omega⟩
    simp[jd,hn n (by omega)]
   |ret d=>
    refine⟨_,hx,n0+1,λn k hle hk=>?_⟩;obtain⟨k',rfl⟩:∃k',k=k'+1:=⟨k-1,by omega⟩
    simp[jd,hn n (by omega)]
 obtain⟨x,hx,n0,hn⟩:=key (wx s0) s0 _ _ (aX _) h0;exact⟨x,hx,n0,λn hle=>by simp only[PC.ev];exact hn n n hle hle⟩
def vB (O:Env)(lo:List Nat)(rt:Option PE)(K:List D->Prop)(Q:Out->Prop):Out->Prop
 |.next O'=>K (lo.map O'.o)
 |.exit id O'=>if id=cP then ∃e,rt=some e/\Q (.ret (e.ev (O.put [] [] lo (lo.map O'.o)))) else Q (.exit id (O.put [] [] lo (lo.map O'.o)))
 |.ret _=>False
def aL.each {T:cK}{e:PE}{ps lo:List Nat}{rt:Option PE}{a:PC}{O:Env}{Q:Out->Prop}(xs:List D)(he:(e.ev O).l=xs)(inv:Nat->List D->Prop)(h0:inv 0 (lo.map O.o))
 (step:∀k x vo,xs[k]?=some x->inv k vo->aL T a (O.put ps (partsOf ps x) lo vo) (vB O lo rt (inv (k+1)) Q)) (done:∀vo,inv xs.length vo->Q (.next (O.put [] [] lo vo))):aL T (.each e ps lo rt a) O Q:=by
 have key:∀(r k:Nat) (vo:List D),k+r=xs.length->inv k vo->∃x,Q x/\∃n0,∀n,n0<=n->jn (a.ev (T n) n) O ps lo rt (xs.drop k) vo=some x:=by
  intro r
  induction r with
  |zero=>
   intro k vo hk hi;have:xs.drop k=[]:=by rw[aal];omega
   obtain rfl:k=xs.length:=by omega
   exact⟨_,done vo hi,0,λn _=>by rw[this];rfl⟩
  |succ r ih=>
   intro k vo hk hi;have af:k<xs.length:=by omega
   rw[akj af];obtain⟨y,hy,n0,hn⟩:=step k xs[k] vo (aW af) hi;cases y with
   |next O'=>
    obtain⟨z,hz,n1,h1⟩:=ih (k+1) _ (by omega) hy;exact⟨z,hz,max n0 n1,λn hle=>by simp only[jn,hn n (by omega)];exact h1 n (by omega)⟩
   |exit id O'=>
    simp only[vB] at hy;split at hy
    .rename_i cL;obtain⟨e,h1,h2⟩:=hy;exact⟨_,h2,n0,λn hle=>by subst cL;simp[jn,hn n hle,h1]⟩
    .rename_i cL;exact⟨_,hy,n0,λn hle=>by simp[jn,hn n hle,fp cL]⟩
   |ret d=>exact hy.elim
 obtain⟨x,hx,n0,hn⟩:=key xs.length 0 _ (by omega) h0;exact⟨x,hx,n0,λn hle=>by simp only[PC.ev,he];exact hn n hle⟩
def ahy {α:Type}:∀(l:List α),∃L:List (List α),∀ys,ys∈L↔ys.Perm l
 |[]=>⟨[[]],λys=>by simp⟩
 |x::l=>by
  obtain⟨L,hL⟩:=ahy l;refine⟨L.flatMap λys=>(List.range (ys.length+1)).map λi=>ys.take i++x::ys.drop i,λzs=>?_⟩;simp only[xz,cr,fP];constructor
  .rintro⟨ys,hy,i,_,rfl⟩;have h1:=(hL ys).1 hy;refine(List.perm_middle).trans (.cons x ?_);rw[IT];exact h1
  .intro h;have hx:x∈zs:=h.symm.subset (fO ..);obtain⟨s,t,rfl⟩:=List.append_of_mem hx;refine⟨s++t,(hL _).2 ?_,s.length,by simp;omega,by simp⟩;exact(List.perm_cons x).1 ((List.perm_middle).symm.trans h)
def aL.meach {T:cK}{J:Nat}{ps da lo:List Nat}{a:PC}{O:Env}{Q:Out->Prop}(es:List (D×D))(he:O.o J=.tup [.list [],.map es])(inv:List D->List D->Prop)(h0:inv [] (lo.map O.o))
 (step:∀done x rest vo,(done++x::rest).Perm (je (.map es))->inv done vo->aL T a ((O.put ps (da.map x.tget) lo vo).setO J (.tup [.list (done++[x]),.map es])) (λy=>∃O',y=.next O'/\inv (done++[x]) (lo.map O'.o)))
 (last:∃vo,(∀done,done.Perm (je (.map es))->∀tN,inv done tN->tN=vo)/\Q (.next (O.put [] [] lo vo))):aL T (.meach J ps da lo a) O Q:=by
 obtain⟨vo,hl,hQ⟩:=last;have key:∀(xs done:List D) (vs:List D),(done++xs).Perm (je (.map es))->inv done vs->∃n0,∀n,n0<=n->p8 (a.ev (T n) n) O J (.map es) ps da lo xs done vs=some vo:=by
  intro xs
  induction xs with
  |nil=>intro done vs hp hi;exact⟨0,λn _=>by rw[hl done (by simpa using hp) vs hi];rfl⟩
  |cons x xs ih=>
   intro done vs hp hi;obtain⟨y,⟨O',rfl,dc⟩,n0,hn⟩:=step done x xs vs hp hi;obtain⟨n1,h1⟩:=ih (done++[x]) _ (by simpa using hp) dc;exact⟨max n0 n1,λn hle=>by simp only[p8,hn n (by omega)];exact h1 n (by omega)⟩
 have kl:∀(L:List (List D)),(∀ys,ys∈L->ys.Perm (je (.map es)))->∃n0,∀n,n0<=n->∀ys,ys∈L->p8 (a.ev (T n) n) O J (.map es) ps da lo ys [] (lo.map O.o)=some vo:=by
  intro L
  induction L with
  |nil=>intro _;exact⟨0,λn _ ys hy=>by cases hy⟩
  |cons y L ih=>
   intro hL;obtain⟨n0,gp⟩:=ih λys hy=>hL ys (fo _ hy);obtain⟨n1,h1⟩:=key y [] _ (by simpa using hL y (fO ..)) h0;refine⟨max n0 n1,λn hle ys hy=>?_⟩;rcases cA.1 hy with e|hy
   .subst e;exact h1 n (by omega)
   .exact gp n (by omega) ys hy
 obtain⟨L,hL⟩:=ahy (je (.map es));obtain⟨n0,hn⟩:=kl L λys hy=>(hL ys).1 hy;refine⟨_,hQ,n0,λn hle=>?_⟩;simp only[PC.ev,CJ];refine⟨vo,⟨by rw[he];rfl,λys hy=>?_⟩,rfl⟩;rw[he] at hy ⊢;exact hn n hle ys ((hL ys).2 hy)
def bounded {Q:Nat->Nat->Prop}:∀(L:Nat),(∀m,m<=L->∃n0,∀n,n0<=n->Q m n)->∃n0,∀n,n0<=n->∀m,m<=L->Q m n
 |0,h=>by
  obtain⟨n0,hn⟩:=h 0 (aX _)
  exact⟨n0,λn hle m hm=>by (obtain rfl:m=0:=by omega);exact hn n hle⟩
 |L+1,h=>by
  obtain⟨n0,hn⟩:=bounded L λm hm=>h m (by omega);obtain⟨n1,h1⟩:=h (L+1) (aX _);refine⟨max n0 n1,λn hle m hm=>?_⟩;by_cases e:m=L+1
  .subst e;exact h1 n (by omega)
  .exact hn n (by omega) m (by omega)
def ah.of_pc {tab:Nat->Option PC}{ext:Nat->Option (aT->List D->Option D)}{f:Nat}{pc:PC}{ds:List D}{d:D}(hx:ext f=none)(ht:tab f=some pc)(h:aL (eJ tab ext) pc (lX ds) (λx=>x=.ret d)):ah (eJ tab ext) f ds d:=by
 obtain⟨x,rfl,n0,hn⟩:=h;refine⟨n0+1,λn hle=>?_⟩;obtain⟨k,rfl⟩:∃k,n=k+1:=⟨n-1,by omega⟩
 simp[eJ,hx,ht,hn k (by omega)]
def ah.of_ext {tab:Nat->Option PC}{ext:Nat->Option (aT->List D->Option D)}{f:Nat}{g:aT->List D->Option D}{ds:List D}{d:D}(hx:ext f=some g)(h:∃n0,∀n,n0<=n->g (eJ tab ext n) ds=some d):ah (eJ tab ext) f ds d:=by
 obtain⟨n0,hn⟩:=h;refine⟨n0+1,λn hle=>?_⟩;obtain⟨k,rfl⟩:∃k,n=k+1:=⟨n-1,by omega⟩
 simp[eJ,hx,hn k (by omega)]
def ID (T:cK)(xs:List D)(m:Nat):cK:=λn=>yldΦ (T n) xs m
def ah.yld {T:cK}{xs:List D}{m f:Nat}{ds:List D}{d:D}(h:ah T f ds d)(hf:f≠nA):ah (ID T xs m) f ds d:=by
 obtain⟨n0,hn⟩:=h;exact⟨n0,λn hle=>by simp[ID,yldΦ,hf,hn n hle]⟩
def ah.answer {T:cK}{xs l:List D}{m i:Nat}(hl:l=xs.take (i+1))(hi:i<xs.length)(hm:i<=m):ah (ID T xs m) nA [.list l] (.v (.bool (decide (i<m)))):=by
 subst hl;refine⟨0,λn _=>?_⟩;have h1:(xs.take (i+1)).length=i+1:=by rw[dL];omega
 simp only[ID,yldΦ,if_true,h1];rw[if_pos ⟨by omega,by omega,trivial⟩];rfl
def ah.of_it {tab:Nat->Option PC}{ext:Nat->Option (aT->List D->Option D)}{f:Nat}{pc:PC}{J k:Nat}{spec:List D->List D}{ds:List D}(hx:ext f=some (Gn pc J k spec))(hk:∀x,x∈spec ds->∃ds',x=.tup ds'/\ds'.length=k)
 (h:∀m,m<=(spec ds).length->aL (ID (eJ tab ext) (spec ds) m) pc (BC J ds) (λx=>x=.ret (.list ((spec ds).take (m+1))))):ah (eJ tab ext) f ds (.list (spec ds)):=by
 refine ah.of_ext hx ?_
 obtain⟨n0,hn⟩:=bounded (Q:=λm n=>pc.ev (yldΦ (eJ tab ext n) (spec ds) m) n (BC J ds)=some (.ret (.list ((spec ds).take (m+1))))) (spec ds).length (λm hm=>by
  obtain⟨x,rfl,n0,hn⟩:=h m hm;exact⟨n0,hn⟩)
 refine⟨n0,λn hle=>?_⟩;unfold Gn;rw[if_pos];exact⟨λm hm=>⟨n,hn n hle m hm⟩,hk⟩
def ah.det {T:cK}{f:Nat}{ds:List D}{d d':D}(h:ah T f ds d)(k:ah T f ds d'):d=d':=by
 obtain⟨n0,hn⟩:=h;obtain⟨n1,h1⟩:=k;have:=(hn (max n0 n1) (by omega)).symm.trans (h1 (max n0 n1) (by omega));exact tX this
def ah.fnOK {C:Ctx}{tab:Nat->Option PC}{ext:Nat->Option (aT->List D->Option D)}(h:TabOK C tab ext){f:Nat}{s:Sig}{ds:List D}{d:D}(hs:C.sig f=some s)(hr:ah (eJ tab ext) f ds d)(hm:rB s.mode=false:=by rfl):iN C f s ds d:=by
 obtain⟨n0,hn⟩:=hr;exact((aaG h n0).1 f ds d (hn n0 (aX _)) s hs).1 hm
def Le (Z Ψ:aT):Prop:=∀f ds d,Z f ds=some d->Ψ f ds=some d
def Env.setR_r (O:Env)(t u:Nat)(d:D):(O.setR t d).r u=if u=t then d else O.r u:=by simp only[Env.setR,fj]
def Env.setO_o (O:Env)(t u:Nat)(d:D):(O.setO t d).o u=if u=t then d else O.o u:=by simp only[Env.setO,fj]
def Env.join_r (O O':Env)(lr lo:List Nat)(u:Nat):(O.join lr lo O').r u=if u∈lr then O'.r u else O.r u:=by simp only[Env.join,Env.put,uX]
def Env.join_o (O O':Env)(lr lo:List Nat)(u:Nat):(O.join lr lo O').o u=if u∈lo then O'.o u else O.o u:=by simp only[Env.join,Env.put,uX]
def MY (f:Nat->D)(i:Nat)(is:List Nat)(x:D)(xs:List D)(u:Nat):putL f (i::is) (x::xs) u=if u=i then x else putL f is xs u:=by simp only[putL,fj]
def MZ (f:Nat->D)(xs:List D)(u:Nat):putL f [] xs u=f u:=by cases xs<;>rfl
def aq4 (g:Nat×Bool)(gs:List (Nat×Bool))(O:Env):holds (g::gs) O=((O.r g.1).b==g.2&&holds gs O):=rfl
def D.tget_tup (x:List D)(i:Nat):(D.tup x).tget i=x.getD i .none:=rfl
def D.c_agg (x:List D)(i:Nat):(D.agg x).c i=x.getD i .none:=rfl
end Cx
