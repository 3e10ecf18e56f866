/-
  Shared texts of this claim.
-/
import Derived.Test.YtipjidjopglknaaGreatDoorMAH
import Derived.Below
import Derived.ChangeSame
import Derived.WalkKit
import Derived.ProofKit
import Derived.OpenShut
import Derived.Carry
import Derived.JoinedCond
set_option linter.defProp false
set_option linter.unusedSimpArgs false
set_option linter.unusedVariables false
noncomputable section
namespace Cx
open Go Go.RowKit
def abt (m:Nat)(s:Sig):Snap:=⟨s.args.map .dat++List.replicate (m-s.args.length) .none,[]⟩
def lL (ds:List D):Env:=⟨λt=>ds.getD t .none,λ_=>.none⟩
def vT (C:Ctx)(fn:Func)(s:Sig)(ids:List Nat)(S0:Snap):Option PC:=
 match fn.body with
 |some c=>
  (comp C fn s fn.ntmps ids (Ol C fn.ntmps ids) false c S0).bind λr=>
    match r.out with
    |none=>some r.pc
    |some S=>(Ao C fn s (S.st ids)).map λe=>.seq r.pc (.ret e)
 |none=>none
def Q5 (m:Nat)(shs:List Sh)(obs:List (Nat×Ob))(ids:List Nat):Snap:=⟨shs++List.replicate (m-shs.length) .none,ids.map (eZ obs)⟩
def Li (shs:List Sh)(obs:List (Nat×Ob))(ds:List D):Env:=nv obs ds (ds.drop shs.length)
def GK (l:List Nat):Nat->List Sh->Bool
 |_,[]=>true
 |t,s::ss=>(ox s|| !fR l t)&&GK l (t+1) ss
def DN:List (Nat×Ob)->Nat->List PI
 |[],_=>[]
 |x::l,k=>DN l (k+1)++[.setO x.1 (.r k)]
def ai3 {Z:aQ}:∀(l:List (Nat×Ob)) (k:Nat) (O:Env) (ds:List D),(∀i,O.r (k+i)=ds.getD i .none)->(∀j,O.o j=.none)->PI.runs Z (DN l k) O=some ⟨O.r,λj=>oA l ds j⟩
 |[],k,O,ds,h,ho=>by
  simp only[DN,PI.runs]
  congr 1
  cases O with|mk r o=>congr 1;funext j;exact ho j
 |x::l,k,O,ds,h,ho=>by
  simp only[DN,qg]
  rw[ai3 l (k+1) O ds.tail (λi=>by
   have:=h (i+1);rw[vK,Ee 1 i,this];cases ds<;>simp) ho]
  simp only[kM,PI.runs,PI.run,PE.ev,Env.setO]
  congr 1
  congr 1
  funext j;rw[fY];have h0:=h 0;simp only[jA] at h0;cases ds with
  |nil=>
   have e:∀m j,oA m [] j=D.none:=λm j=>by cases m<;>rfl
   rw[h0];split<;>simp[e]
  |cons d ds=>
   simp only[oA,List.tail_cons];by_cases hj:j=x.1
   .subst hj;rw[if_pos rfl,iL,h0];rfl
   .rw[if_neg hj,ff (λe=>hj e.symm)];rfl
def ayT {Z:aQ}(shs:List Sh)(obs:List (Nat×Ob))(ds:List D):PI.runs Z (DN obs shs.length) (lL ds)=some (Li shs obs ds):=by
 rw[ai3 obs shs.length (lL ds) (ds.drop shs.length) (λi=>by simp[lL,aK]) (λj=>rfl)];rfl
def Jt (fn:Func):List Nat:=match fn.body with|some c=>cP c|none=>[]
def xe:List (Nat×Ob)->Bool
 |[]=>true
 |x::l=>(match x.2 with|.tr=>false|_=>true)&&xe l
def gf (C:Ctx)(fn:Func)(s:Sig)(ids:List Nat):Option PC:=
 match C.yl with
 |none=>
  match s.mode with
  |.ob shs obs=>bif Nat.ble shs.length fn.ntmps&&GK (Jt fn) 0 shs&&shs.all uR&&xe obs then(vT C fn s ids (Q5 fn.ntmps shs obs ids)).map λpc=>.seq (.is (DN obs shs.length)) pc else none
  |_=>bif Nat.ble s.args.length fn.ntmps then vT C fn s ids (abt fn.ntmps s) else none
 |some _=>none
def aej:∀(ids:List Nat) (j:Nat),dT ids [] j=.dead
 |[],_=>rfl
 |_::_,_=>rfl
def QN {C:Ctx}{Z:aQ}(bh:dQ C)(hΦ:dt C Z)(eF:gO C Z){fn:Func}{s:Sig}{ids:List Nat}{S0:Snap}{pc:PC}{c:Code}(hb:fn.body=some c)(hc:vT C fn s ids S0=some pc){w0:World}{σ0:Base}(nX:σ0.fin)(hC:CtxOK C σ0)(hY:qz C Z w0 σ0)
 {N:Nat} {O:Env} {d:D} {a:Act} {w:World} (hn:a.tmps.size=fn.ntmps) (hg:Good C w0 σ0 (S0.st ids) O (λ_=>False) a w) (he:pc.ev Z N O=some (.ret d)):
 c.wpIn (FR none) 0 C.P (λe a' w'=>(e=.normal\/e=.ret)/\rY C w0 σ0 fn s d a'.tmps a'.defers w'/\SameBut (λt=>t∈cP c) a a') a w:=by
 unfold vT at hc;rw[hb] at hc;simp only[ay] at hc;obtain⟨r,hr,hc⟩:=hc;have SG:=λx hx=>anq (fn:=fn) (s:=s) (N:=N) eF (aym (n:=fn.ntmps) (ids:=ids) bh hΦ) c false S0 r hr none w0 σ0 (λt=>t∈cP c) O x a w (λ_=>⟨rfl,nX⟩) hC hY (λ_ h=>h) hn hg hx;split at hc
 .rename_i kX;cases hc;refine wpIn_mono (SG (.ret d) he) λe a' w' ho=>?_;cases e with
  |normal=>obtain⟨_,_,h,_⟩:=ho;cases h
  |exit id=>obtain⟨_,_,h,_⟩:=ho;cases h
  |ret=>obtain⟨d',h,h2⟩:=ho;cases h;exact⟨.inr rfl,h2⟩
  |_=>exact ho.elim
 .rename_i S kX;simp only[aD] at hc;obtain⟨pe,wF,rfl⟩:=hc;simp only[PC.ev] at he;split at he
  .rename_i ρ1 h1;cases he;refine wpIn_mono (SG (.next ρ1) h1) λe a' w' ho=>?_;cases e with
   |normal=>
    obtain⟨ρ2,S2,e1,e2,wD,iQ⟩:=ho;cases e1;rw[kX] at e2;cases e2;obtain⟨σ2,own,hv,hi⟩:=iQ;exact⟨.inl rfl,Inv.retD hC (λ_=>rfl) nX wF _ hi rfl,wD⟩
   |exit id=>obtain⟨_,_,h,_⟩:=ho;cases h
   |ret=>obtain⟨d',h,h2⟩:=ho;cases h
   |_=>exact ho.elim
  .rename_i aB;refine wpIn_mono (SG (.ret d) he) λe a' w' ho=>?_;cases e with
   |normal=>obtain⟨_,_,h,_⟩:=ho;cases h
   |exit id=>obtain⟨_,_,h,_⟩:=ho;cases h
   |ret=>obtain⟨d',h,h2⟩:=ho;cases h;exact⟨.inr rfl,h2⟩
   |_=>exact ho.elim
def rY.leaves {C:Ctx}{w0:World}{σ0:Base}{fn:Func}{s:Sig}{d:D}{tmps:Array Value}{R:Ending->World->Prop}(hR:∀w',Pu C w0 σ0 fn s d {tmps:=tmps,defers:=[]} w'->∃v,(results fn tmps).run C.P w'=.ok v w'/\R (.returned v) w'):
 ∀(ds:List Deferred) (w:World),rY C w0 σ0 fn s d tmps ds w->LeavesInM (FR none) 0 C.P fn tmps R ds .returning w
 |[],w,h=>hR w h
 |x::ds,w,⟨D,h1,h2,h3⟩=>⟨by simp,.inl ⟨D,_,h1,run_takeDeferred h2,rY.leaves hR ds _ h3⟩⟩
def aoF {C:Ctx}{V:Im}{w:World}{args:Array Value}{ds:List D}{s:Sig}{m:Nat}{ids:List Nat}(av:V.ok w)(ha:qo C V s.args args.toList ds):
 Good C w (Base.mk0 V w.heap.size) ((abt m s).st ids) (lL ds) (λ_=>False) {tmps:=args++Array.replicate (m-args.size) undef,defers:=[]} w:=by
 obtain⟨h1,h2,h3⟩:=ha;have aF:args.size=s.args.length:=by simpa using h1
 refine⟨V,λ_=>none,λ_=>undef,trivial,av,.refl V,λ_ k e=>(av.m k _ e).lt,λ_ _ _ h=>.inl h,λ_ _ h=>.inl h,.refl _ _,bj _,(λk j h=>by cases h),λt=>?_,λj=>?_,λt gs s' e=>absurd e (Snap.noOpt _ _ t gs s'),
  .none,λ_=>False,λ_=>False,⟨⟨λ_=>id,λ_=>id⟩,(λk j h=>by cases h),λ_ _ _ _=>id,λ_ _ _=>id,λ_ _ _=>id⟩,λj hj=>?_⟩
 .show aI C _ _ V _ (cS ((s.args.map Sh.dat++List.replicate (m-s.args.length) Sh.none).getD t .none)) _ _;rw[aK];by_cases ht:t<s.args.length
  .rw[kL (by simpa using ht),cL,bI ht];simp only[kO,kN,cS];have:=h3 t _ (bI ht);have e1:(args++Array.replicate (m-args.size) undef).getD t undef=args.toList.getD t undef:=by
        simp only[eM,aK];rw[ZS (by omega)];simp
   show aI C _ _ V _ (.dat _) ((args++Array.replicate (m-args.size) undef).getD t undef) (ds.getD t .none);rw[e1];exact this
  .rw[mf (by simpa using ht),aac];split<;>trivial
 .show cG C _ _ V _ _ w _ j (dT ids [] j);rw[aej];trivial
 .change dT ids [] j=.tr at hj;rw[aej] at hj;cases hj
def QO {C:Ctx}{Z:aQ}(bh:dQ C)(hΦ:dt C Z)(eF:gO C Z){f:Nat}{fn:Func}{s:Sig}{ids:List Nat}{pc:PC}(hf:C.P.funcs[f]?=some fn)(hc:gf C fn s ids=some pc){N:Nat}{ds:List D}{d:D}(cZ:pM s.mode=false)
 (he:pc.ev Z N (lL ds)=some (.ret d)):gN C f s ds d:=by
 intro V w args av hC ha;unfold gf at hc;split at hc
 case h_2=>cases hc
 rename_i la;split at hc
 case h_1=>rename_i e;rw[e] at cZ;cases cZ
 cases hle:Nat.ble s.args.length fn.ntmps<;>simp only[hle,zyy,zyx] at hc
 .cases hc
 have F7:=kp hle;have aF:args.size=s.args.length:=by simpa using ha.1
 cases hb:fn.body with
 |none=>unfold vT at hc;rw[hb] at hc;cases hc
 |some c=>
 refine(callsIn_wide (n:=0)).1 (callsIn_of_wp_marks (F:=FR none) hf hb trivial ?_);have hg:=aoF (C:=C) (m:=fn.ntmps) (ids:=ids) av ha;have hn:(args++Array.replicate (fn.ntmps-args.size) undef).size=fn.ntmps:=by simp;omega
 refine wpIn_mono (QN bh hΦ eF hb hc (σ0:=Base.mk0 V w.heap.size) trivial hC (λJ ys e=>by rw[la] at e;cases e) hn hg he) λe a' w' ho=>?_
 have main:=rY.leaves (R:=λe w'=>∃v V',e=.returned v/\V.le V'/\V'.ok w'/\Below w.heap.size w w'/\
  (∀k o x,V'.c k o=some x->V.c k o=some x\/w.heap.size<=k)/\(∀k x,V'.m k=some x->V.m k=some x\/w.heap.size<=k)/\mZ C s V' w w' v d) (λw2 Gq=>by
  obtain⟨v,V',_,h2,h3,h4,h5,h6,h7,h8⟩:=Gq;exact⟨v,h2,v,V',rfl,h3,h4,h5,h6,h7,h8⟩) _ _ ho.2.1
 rcases ho.1 with rfl|rfl<;>exact main
def Base.mkO (V:Im)(own:Nat->Option Nat)(w:World)(cx:Nat->Prop):Base:=
 {V with
  B:=0
  fin:=True
  F:=λ_ fx kT w'=>(∀k,fx k↔(k<w.heap.size/\own k=none))/\(∀k,kT k↔(fx k/\cx k))/\w.heap.size<=w'.heap.size/\∀k,fx k->w'.heap[k]?=w.heap[k]?
  lt:=λt' fx cx w' h k hk=>tP ((h.1 k).1 hk).1 h.2.2.1
  sub:=λt' fx cx w' h k hk=>((h.2.1 k).1 hk).1
  keep:=λt' fx cx w' lx h hb hs=>⟨h.1,h.2.1,ij h.2.2.1 hb.size,λk hk=>(hs k hk).trans (h.2.2.2 k hk)⟩}
def ad6 {l:List Nat}:∀{shs:List Sh} {k:Nat},GK l k shs=true->∀(t:Nat) (s:Sh),shs[t]?=some s->ox s=false->(k+t)∉l
 |[],k,_,t,s,h,_=>by simp at h
 |x::shs,k,hk,t,s,h,hd=>by
  simp only[GK,au,fZ,iZ] at hk;cases t with
  |zero=>
   simp at h;subst h;rcases hk.1 with h1|h1
   .rw[hd] at h1;cases h1
   .intro hm;rw[jA] at hm;rw[(rp _ _).2 hm] at h1;cases h1
  |succ t=>
   simp at h;have:=ad6 hk.2 t s h hd
   rwa [vK,Ee 1 t] at this
def Tr (obs:List (Nat×Ob))(j:Nat):∀ids:List Nat,dT ids (ids.map (eZ obs)) j=.dead\/dT ids (ids.map (eZ obs)) j=eZ obs j
 |[]=>.inl rfl
 |i::is=>by
  simp only[fO,dT];cases hb:Nat.beq i j
  .exact Tr obs j is
  .right;rw[aC hb];rfl
def aeT:∀{l:List (Nat×Ob)},xe l=true->∀x,x∈l->x.2≠.tr
 |[],_,x,hx=>by cases hx
 |y::l,h,x,hx=>by
  simp only[xe,au] at h;rcases cU.1 hx with rfl|hx
  .intro e;rw[e] at h;cases h.1
  .exact aeT h.2 x hx
def aeU:∀{l:List (Nat×Ob)},xe l=true->∀j,eZ l j≠.tr
 |[],_,j,e=>by cases e
 |x::l,h,j,e=>by
  simp only[xe,au] at h;simp only[eZ] at e;cases hb:Nat.beq x.1 j<;>simp only[hb,zyy,zyx] at e
  .exact aeU h.2 j e
  .have h1:=h.1;rw[e] at h1;cases h1
def aoE {C:Ctx}{V:Im}{own:Nat->Option Nat}{hv:Nat->Value}{w w0:World}{args:Array Value}{cx:Nat->Prop}{shs:List Sh}{obs:List (Nat×Ob)}{ds:List D}{m:Nat}{ids:List Nat}(hN:w0.heap.size<=w.heap.size)(FP:Below 0 w0 w)(av:V.ok w)(bC:∀k,V.m k≠some cW)(aF:args.size=shs.length)
 (cE:∀k j,own k=some j->w0.heap.size<=k/\k<w.heap.size/\(∀o,V.c k o=none)/\V.m k=none) (lP:∀k,cx k->k<w.heap.size/\own k=none/\(∀o,V.c k o=none)/\V.m k=none) (uA:xe obs=true) (dM:shs.all uR=true)
 (h1:∀t,aI C (gI shs obs) (Li shs obs ds) V hv (shs.getD t .none) (args.getD t undef) (ds.getD t .none)) (h2:∀j,cG C (gI shs obs) (Li shs obs ds) V own hv w w0.heap.size j (eZ obs j)):
 Good C w0 (Base.mkO V own w cx) ((Q5 m shs obs ids).st ids) (Li shs obs ds) (λ_=>False) {tmps:=args++Array.replicate (m-args.size) undef,defers:=[]} w:=by
 have sD:Compat (gI shs obs) hv ((Q5 m shs obs ids).st ids) hv:=⟨λ_=>bj _,λ_ _=>rfl⟩
 refine⟨V,own,hv,trivial,av,.refl V,λ_ k e=>absurd e (bC k),λ_ _ _ h=>.inl h,λ_ _ h=>.inl h,FP,qx _,cE,λt=>?_,λj=>?_,λt gs s' e=>absurd e (Snap.noOpt _ _ t gs s'),
  .none,(λk=>k<w.heap.size/\own k=none),cx,⟨⟨λ_=>Iff.rfl,λk=>⟨λh=>⟨⟨(lP k h).1,(lP k h).2.1⟩,h⟩,λh=>h.2⟩,bj _,λ_ _=>rfl⟩,(λk j h hf=>by rw[hf.2] at h;cases h),(λk o x e hc=>by rw[(lP k hc).2.2.1 o] at e;cases e),(λk x e hc=>by rw[(lP k hc).2.2.2] at e;cases e),λk e=>absurd e (bC k)⟩,λj hj=>?_⟩
 .show aI C _ _ V _ (cS ((shs++List.replicate (m-shs.length) Sh.none).getD t .none)) _ _;refine O2 ?_;rw[aK];by_cases ht:t<shs.length
  .rw[kL ht];have:=h1 t;rw[aK (l:=shs)] at this;have e1:(args++Array.replicate (m-args.size) undef).getD t undef=args.getD t undef:=by
        simp only[eM];rw[ZS (by omega)]
   show aI C _ _ V _ _ ((args++Array.replicate (m-args.size) undef).getD t undef) (ds.getD t .none);rw[e1];refine aI.mono' (.refl V) sD (λgs s' e=>?_) this;have hp:=bR.1 dM _ (bW ht);rw[bI ht] at e;simp only[kN] at e;rw[e] at hp;cases hp
  .rw[mf (by omega),aac];split<;>trivial
 .show cG C _ _ V _ _ w _ j (dT ids (ids.map (eZ obs)) j);rcases Tr obs j ids with e|e
  .rw[e];trivial
  .rw[e];exact(h2 j).mono (.refl V) sD rfl rfl (λk hk=>⟨hk,rfl⟩)
 .change dT ids (ids.map (eZ obs)) j=.tr at hj;rcases Tr obs j ids with e|e
  .rw[e] at hj;cases hj
  .rw[e] at hj;exact absurd hj (aeU uA j)
def Lc (w:World)(N:Nat):World:={w with heap:=w.heap.extract 0 N}
def ank {C:Ctx}{Z:aQ}(bh:dQ C)(hΦ:dt C Z)(eF:gO C Z){f:Nat}{fn:Func}{s:Sig}{ids:List Nat}{pc:PC}(hf:C.P.funcs[f]?=some fn)(hc:gf C fn s ids=some pc){N:Nat}{ds:List D}{d:D}{shs:List Sh}{obs:List (Nat×Ob)}(cZ:s.mode=.ob shs obs)
 (he:pc.ev Z N (lL ds)=some (.ret d)):iK C f shs obs s.res ds d:=by
 unfold gf at hc;split at hc
 case h_2=>cases hc
 rename_i la;rw[cZ] at hc;simp only at hc;cases hle:(Nat.ble shs.length fn.ntmps&&GK (Jt fn) 0 shs&&shs.all uR&&xe obs)<;>simp only[hle,zyy,zyx] at hc
 .cases hc
 simp only[au] at hle;obtain⟨⟨⟨l1,l2⟩,l3⟩,l4⟩:=hle;refine iK.of (aeT l4) ?_;intro B V own hv w args cx _ av hC bC hB aF cE lP h1 h2;simp only[aD] at hc;obtain⟨pc,hc,rfl⟩:=hc;simp only[PC.ev,ayT,kO] at he;have F7:=kp l1;cases hb:fn.body with
 |none=>unfold vT at hc;rw[hb] at hc;cases hc
 |some c=>
 have bn:Jt fn=cP c:=by unfold Jt;rw[hb]
 rw[bn] at l2;refine(callsIn_wide (n:=0)).1 (callsIn_of_wp_marks (F:=FR none) hf hb trivial ?_);have oq:(Lc w B).heap.size=B:=by simp[Lc];omega
 have FP:Below 0 (Lc w B) w:=⟨rfl,rfl,rfl,by rw[oq];exact hB,λk hk=>by omega⟩
 have hg:=aoE (C:=C) (m:=fn.ntmps) (ids:=ids) (w0:=Lc w B) (cx:=cx) (by rw[oq];exact hB) FP av bC aF (by rw[oq];exact cE) lP l4 l3 h1 (by rw[oq];exact h2);have hn:(args++Array.replicate (fn.ntmps-args.size) undef).size=fn.ntmps:=by simp;omega
 refine wpIn_mono (QN bh hΦ eF hb hc (σ0:=Base.mkO V own w cx) trivial hC (λJ ys e=>by rw[la] at e;cases e) hn hg he) λe a' w' ho=>?_;obtain⟨kr,Gq,jN⟩:=ho
 have main:=rY.leaves (R:=λe w'=>∃v V' own' hv' dr os,e=.returned v/\d=.tup (dr::os)/\os.length=obs.length/\V.le V'/\V'.ok w'/\Below 0 w w'/\
  (∀k,k<w.heap.size->own k=none->w'.heap[k]?=w.heap[k]?)/\
  (∀k o x,V'.c k o=some x->(V.c k o=some x\/B<=k)/\¬cx k)/\(∀k x,V'.m k=some x->(V.m k=some x\/B<=k)/\¬cx k)/\(∀k,V'.m k=some cW->B<=k->k<w.heap.size->own k≠none)/\
  (∀k j,own' k=some j->B<=k/\k<w'.heap.size/\(∀o,V'.c k o=none)/\V'.m k=none/\(k<w.heap.size->own k≠none))/\
  (∀(t:Nat) (sh:Sh),shs[t]?=some sh->ox sh=false->aI C (gI shs obs) (nv obs ds os) V' hv' sh (args.getD t undef) (ds.getD t .none))/\
  (∀j,cG C (gI shs obs) (nv obs ds os) V' own' hv' w' B j (eZ obs j))/\Rep C.cap V' s.res v dr) (λw2 hr=>by
  obtain⟨v,V',⟨own',t,fx,kT,dy,_,Me⟩,ar,ky,Sl,FO,dw,cY,_⟩:=hr;obtain⟨hv',dr,os,e1,e2,e3,e4,e5,e6⟩:=Me shs obs cZ;obtain⟨f1,f2,f3,f4⟩:=dy.F;have acv:∀k,cx k->kT k:=λk hk=>(f2 k).2 ⟨(f1 k).2 ⟨(lP k hk).1,(lP k hk).2.1⟩,hk⟩;rw[oq] at dw cY e3 e5
  refine⟨v,ar,v,V',own',hv',dr,os,rfl,e1,e2,ky,Sl,⟨FO.os,FO.tape,FO.output,f3,λk hk=>by omega⟩,λk hk hn=>f4 k ((f1 k).2 ⟨hk,hn⟩),λk o x e=>⟨dw k o x e,λhk=>dy.c k o x e (acv k hk)⟩,λk x e=>⟨cY k x e,λhk=>dy.m k x e (acv k hk)⟩,
   λk e Ro hk hn=>dy.d k e (by rw[oq];exact Ro) ((f1 k).2 ⟨hk,hn⟩),λk j hk=>?_,λt sh hs hd=>?_,λj=>?_,e6⟩
  .obtain⟨g1,g2,g3,g4⟩:=e3 k j hk;exact⟨g1,g2,g3,g4,λak hn=>dy.own k j hk ((f1 k).2 ⟨ak,hn⟩)⟩
  .have:=e4 t sh hs hd (ds.getD t .none);have ak:t<shs.length:=(ga.1 hs).1;have og:t∉cP c:=by have:=ad6 l2 t sh hs hd;simpa using this
   have cC:a'.tmps.getD t undef=args.getD t undef:=by
        rw[jN.get t og];simp only[eM];rw[ZS (by omega)]
   simp only at this;rw[cC] at this;have hp:=bR.1 l3 _ (ko hs);exact aI.mono' (.refl V') ⟨λ_=>bj _,λ_ _=>rfl⟩ (λgs s' e=>by rw[e] at hp;cases hp) this
  .exact cG.mono (S:=gI shs obs) (S':=gI shs obs) (O:=nv obs [] os) (O':=nv obs ds os) (hv:=hv') (hv':=hv') (own:=own') (own':=own') (w:=w2) (w':=w2) (.refl V') ⟨λ_=>bj _,λ_ _=>rfl⟩ rfl rfl (λk hk=>⟨hk,rfl⟩) (e5 j)) _ _ Gq
 rcases kr with rfl|rfl<;>exact main
def abr (m:Nat)(cts:List Ty)(J:Nat)(ids:List Nat):Snap:=⟨.yv::(cts.map .dat++List.replicate (m-(cts.length+1)) .none),ids.map λj=>bif Nat.beq j J then .tr else .dead⟩
def BY (J:Nat)(ds:List D):Env:=⟨λt=>(D.none::ds).getD t .none,λj=>bif Nat.beq j J then .list [] else .none⟩
def E3 (C:Ctx)(fn:Func)(cts ys:List Ty)(J:Nat)(ids:List Nat):Option PC:=
 match C.yl,C.sig nL,C.cap nL with
 |none,none,none=>bif Nat.ble (cts.length+1) fn.ntmps then vT {C with yl:=some (J,ys)} fn ⟨[],.tup [],.it J⟩ ids (abr fn.ntmps cts J ids) else none
 |_,_,_=>none
open Classical in
def yldΦ (Z:aQ)(xs:List D)(m:Nat):aQ:=λf ds=>
 if f=nL then(match ds with|[.list l]=>if 0<l.length/\l.length<=m+1/\l=xs.take l.length then some (.v (.bool (decide (l.length<=m)))) else none|_=>none)
 else Z f ds
def yldΦ_at {Z:aQ}{xs l ds:List D}{d:D}{m:Nat}(h:yldΦ Z xs m nL [.list (l++[.tup ds])]=some d):l.length<=m/\l=xs.take l.length/\xs[l.length]?=some (.tup ds)/\l++[.tup ds]=xs.take (l.length+1)/\d=.v (.bool (decide (l.length<m))):=by
 simp only[yldΦ,if_true] at h;split at h
 .rename_i hc;obtain⟨h1,h2,h3⟩:=hc;simp only[mh,mY,tN,iM] at h2 h3 h;have hx:xs[l.length]?=some (.tup ds):=by
   have:(xs.take (l.length+1))[l.length]?=some (.tup ds):=by rw[<-h3];simp
   rw[gx] at this;simpa using this
  have hl:l=xs.take l.length:=by
   have:=congrArg (List.take l.length) h3;simpa [List.take_take] using this
  refine⟨by omega,hl,hx,h3,?_⟩;cases h
  congr 2
 .cases h
def dt.yl {C:Ctx}{Z:aQ}(h:dt C Z){y:Option (Nat×List Ty)}{v:Value}{xs:List D}{m:Nat}(hs:C.sig nL=none):dt {C with yl:=y,yv:=v} (yldΦ Z xs m):=by
 intro f ds d e s fG;have aB:f≠nL:=λe'=>by subst e';change C.sig nL=some s at fG;rw[hs] at fG;cases fG
 simp only[yldΦ,if_neg aB] at e;obtain⟨h1,h2⟩:=h f ds d e s fG;exact⟨λhm V w args av hC ha=>h1 hm V w args av ⟨hC.glob,hC.mg⟩ ha,λshs obs hm=>(h2 shs obs hm).ctx rfl rfl rfl⟩
def me.yl {C:Ctx}{y:Option (Nat×List Ty)}{v:Value}{f:Nat}{cts ys:List Ty}{ds xs:List D}(h:me C f cts ys ds xs):me {C with yl:=y,yv:=v} f cts ys ds xs:=
 λV w yv vs F fx cx m av hC=>h V w yv vs F fx cx m av ⟨hC.glob,hC.mg⟩
def gO.yl {C:Ctx}{Z:aQ}(h:gO C Z){y:Option (Nat×List Ty)}{v:Value}{xs:List D}{m:Nat}(hs:C.cap nL=none):gO {C with yl:=y,yv:=v} (yldΦ Z xs m):=by
 intro f cs ys hc hi;have aB:f≠nL:=λe'=>by subst e';change C.cap nL=some cs at hc;rw[hs] at hc;cases hc
 obtain⟨h1,h2⟩:=h f cs ys hc hi;refine⟨h1,λds d e=>?_⟩;simp only[yldΦ,if_neg aB] at e;obtain⟨xs,e1,e2,e3⟩:=h2 ds d e;exact⟨xs,e1,e2,e3.yl⟩
def Z2 (Z:aQ)(pc:PC)(J:Nat)(ds xs:List D):Prop:=∀m,m<=xs.length->∃N,pc.ev (yldΦ Z xs m) N (BY J ds)=some (.ret (.list (xs.take (m+1))))
def aoD {C:Ctx}{V:Im}{σ0:Base}{w:World}{yv:Value}{vs:List Value}{ds:List D}{cts ys:List Ty}{J m:Nat}{ids:List Nat}(av:V.ok w)(ha:qo C V cts vs ds)(hm:cts.length+1<=m)(la:C.yl=some (J,ys))(GC:C.yv=yv)
 (h0:σ0.toIm=V) (hB:σ0.B=0) {fx cx:Nat->Prop} (hF:σ0.F (.list []) fx cx w) (jG:∀k o x,V.c k o=some x->¬cx k) (mu:∀k x,V.m k=some x->¬cx k):
 Good C w σ0 ((abr m cts J ids).st ids) (BY J ds) (λ_=>False) {tmps:=#[yv]++vs.toArray++Array.replicate (m-(vs.length+1)) undef,defers:=[]} w:=by
 obtain⟨h1,h2,h3⟩:=ha
 refine⟨V,λ_=>none,λ_=>undef,trivial,av,by rw[h0];exact .refl V,λ_ k e=>by rw[h0] at e;exact(av.m k _ e).lt,λ_ _ _ h=>by rw[h0];exact .inl h,λ_ _ h=>by rw[h0];exact .inl h,.refl _ _,by omega,(λk j h=>by cases h),λt=>?_,λj=>?_,λt gs s' e=>absurd e (Snap.noOpt _ _ t gs s'),
  .list [],fx,cx,⟨hF,(λk j h=>by cases h),jG,mu,λk e hk=>by have:=(av.m k _ e).lt;omega⟩,λj hj=>?_⟩
 .show aI C _ _ V _ (cS ((Sh.yv::(cts.map Sh.dat++List.replicate (m-(cts.length+1)) Sh.none)).getD t .none)) ((#[yv]++vs.toArray++Array.replicate (m-(vs.length+1)) undef).getD t undef) ((D.none::ds).getD t .none);have ea:((#[yv]++vs.toArray++Array.replicate (m-(vs.length+1)) undef).getD t undef)=(yv::(vs++List.replicate (m-(vs.length+1)) undef)).getD t undef:=by
   rw[eM,<-D5,aK];simp
  rw[ea];cases t with
  |zero=>simp only[qs,cS];exact GC.symm
  |succ t=>
   simp only[vF];rw[aK];by_cases ht:t<cts.length
   .rw[kL (by simpa using ht),cL,bI ht];simp only[kO,kN,cS];have:=h3 t _ (bI ht);have e1:(vs++List.replicate (m-(vs.length+1)) undef).getD t undef=vs.getD t undef:=by
     simp only[aK];rw[kL (by omega)]
    show aI C _ _ V _ (.dat _) _ (ds.getD t .none);rw[e1];exact this
   .rw[mf (by simpa using ht),aac];split<;>trivial
 .show cG C _ _ V _ _ w _ j (dT ids (ids.map λj=>bif Nat.beq j J then .tr else .dead) j);refine zw _ (λob=>cG C _ _ V _ _ w _ j ob) trivial j ?_ ids;cases Nat.beq j J<;>trivial
 .change dT ids (ids.map λj=>bif Nat.beq j J then .tr else .dead) j=.tr at hj
  have hb:=zw (λj=>bif Nat.beq j J then Ob.tr else .dead) (λob=>ob=.tr->Nat.beq j J=true) (λe=>by cases e) j (λe=>by
   cases hb:Nat.beq j J
   .rw[hb] at e;cases e
   .rfl) ids hj
  have:=aC hb;subst this;refine⟨⟨ys,la⟩,?_⟩;show(bif Nat.beq j j then D.list [] else .none)=_;rw[iL];rfl
def anl {C:Ctx}{Z:aQ}(bh:dQ C)(hΦ:dt C Z)(eF:gO C Z){f:Nat}{fn:Func}{cts ys:List Ty}{J:Nat}{ids:List Nat}{pc:PC}(hf:C.P.funcs[f]?=some fn)(hc:∀yv,E3 {C with yv:=yv} fn cts ys J ids=some pc){ds xs:List D}
 (hr:Z2 Z pc J ds xs):me C f cts ys ds xs:=by
 intro V w yv vs F fx cx m av hC ha hm ak cn yV hF jG mu S8;have hc:=hc yv;unfold E3 at hc;split at hc
 case h_2=>cases hc
 rename_i la hsy hcy;cases hle:Nat.ble (cts.length+1) fn.ntmps<;>simp only[hle,zyy,zyx] at hc
 .cases hc
 have F7:=kp hle;obtain⟨N,he⟩:=hr m hm;cases hb:fn.body with
 |none=>unfold vT at hc;rw[hb] at hc;cases hc
 |some c=>
 refine(callsIn_wide (n:=0)).1 (callsIn_of_wp_marks (F:=FR none) hf hb trivial ?_);obtain⟨σ0,hσ0⟩:∃σ0:Base,σ0={V with B:=0,fin:=True,F:=λt fx cx w=>(∃l,t=.list l)/\F t fx cx w,lt:=λt fx cx w h=>ak t fx cx w h.2,sub:=λt fx cx w h=>cn t fx cx w h.2,keep:=λt fx cx w w' h hb hs=>⟨h.1,yV t fx cx w w' h.2 hb hs⟩}:=⟨_,rfl⟩
 have e1:σ0.toIm=V:=by rw[hσ0]
 have e2:σ0.B=0:=by rw[hσ0]
 have e3:σ0.fin:=by rw[hσ0];trivial
 have e4:∀t fx cx w,σ0.F t fx cx w↔(∃l,t=.list l)/\F t fx cx w:=λt fx cx w=>by rw[hσ0]
 have hg:=aoD (C:={C with yl:=some (J,ys),yv:=yv}) (σ0:=σ0) (w:=w) (yv:=yv) (vs:=vs) (ds:=ds) (cts:=cts) (ys:=ys) (J:=J) (m:=fn.ntmps) (ids:=ids) av ha F7 rfl rfl e1 e2 ((e4 _ _ _ _).2 ⟨⟨_,rfl⟩,hF⟩) jG mu;have aF:(#[yv]++vs.toArray).size=vs.length+1:=by simp<;>omega
 have Ml:vs.length=cts.length:=ha.1;have hY:qz {C with yl:=some (J,ys),yv:=yv} (yldΦ Z xs m) w σ0:=by
  intro J' ys' e;cases e;refine⟨e2,λt fx cx w h=>((e4 _ _ _ _).1 h).1,λkJ ds' d hd fx cx w1 σ1 args Ca asl yL hc1 y3 dw cY=>?_⟩;obtain⟨g1,g2,g3,g4,rfl⟩:=yldΦ_at hd;rw[e1] at dw cY;have:=S8 kJ.length fx cx w1 σ1 args ds' g1 g3 (by rw[<-g2];exact((e4 _ _ _ _).1 Ca).2) asl yL hc1 y3 dw cY;intro rd o a x aa ts K Q bQ hv has hK;refine this rd o a x aa ts K Q bQ hv has λu w2 hu=>hK u w2 ?_;obtain⟨u1,u2,u3,nV,kT,u4,u5,u6⟩:=hu;refine⟨_,rfl,u1,u2,u3,nV,kT,(e4 _ _ _ _).2 ⟨⟨_,rfl⟩,?_⟩,u5,u6⟩;rw[g4];exact u4
 have hn:(#[yv]++vs.toArray++Array.replicate (fn.ntmps-(vs.length+1)) undef).size=fn.ntmps:=by simp;omega
 rw[aF];refine wpIn_mono (QN (C:={C with yl:=some (J,ys),yv:=yv}) bh (hΦ.yl hsy) (eF.yl hcy) hb hc (σ0:=σ0) e3 (by rw[e1];exact⟨hC.glob,hC.mg⟩) hY hn hg he) λe a' w' ho=>?_
 have main:=rY.leaves (R:=λe w'=>(∃v,e=.returned v)/\∃fx cx,F (.list (xs.take (m+1))) fx cx w') (λw2 Gq=>by
  obtain⟨v,V',⟨own,t,fx,cx,h1,ht,_⟩,h2,_⟩:=Gq;refine⟨v,h2,⟨v,rfl⟩,fx,cx,?_⟩;rw[ht J rfl];exact((e4 _ _ _ _).1 h1.F).2) _ _ ho.2.1
 rcases ho.1 with rfl|rfl<;>exact main
def fP (tab:Nat->Option PC)(ext:Nat->Option (aQ->List D->Option D)):Nat->aQ
 |0=>λ_ _=>none
 |n+1=>λf ds=>
  match ext f with
  |some g=>g (fP tab ext n) ds
  |none=>
   match tab f with
   |some pc=>(match pc.ev (fP tab ext n) n (lL ds) with|some (.ret d)=>some d|_=>none)
   |none=>none
def gN.hint {C:Ctx}{fr nh:List Nat}{f:Nat}{s:Sig}{ds:List D}{d:D}(h:gN C f s ds d):gN {C with fr:=fr,nh:=nh} f s ds d:=
 λV w args av hC ha=>h V w args av ⟨hC.glob,hC.mg⟩ ha
def gN.unhint {C:Ctx}{fr nh:List Nat}{f:Nat}{s:Sig}{ds:List D}{d:D}(h:gN {C with fr:=fr,nh:=nh} f s ds d):gN C f s ds d:=
 λV w args av hC ha=>h V w args av ⟨hC.glob,hC.mg⟩ ha
def me.hint {C:Ctx}{fr nh:List Nat}{f:Nat}{cts ys:List Ty}{ds xs:List D}(h:me C f cts ys ds xs):me {C with fr:=fr,nh:=nh} f cts ys ds xs:=
 λV w yv vs F fx cx m av hC=>h V w yv vs F fx cx m av ⟨hC.glob,hC.mg⟩
def me.unhint {C:Ctx}{fr nh:List Nat}{f:Nat}{cts ys:List Ty}{ds xs:List D}(h:me {C with fr:=fr,nh:=nh} f cts ys ds xs):me C f cts ys ds xs:=
 λV w yv vs F fx cx m av hC=>h V w yv vs F fx cx m av ⟨hC.glob,hC.mg⟩
def iK.hint {C:Ctx}{fr nh:List Nat}{f:Nat}{shs:List Sh}{obs:List (Nat×Ob)}{res:Ty}{ds:List D}{d:D}(h:iK C f shs obs res ds d):iK {C with fr:=fr,nh:=nh} f shs obs res ds d:=h.ctx rfl rfl rfl
def iK.unhint {C:Ctx}{fr nh:List Nat}{f:Nat}{shs:List Sh}{obs:List (Nat×Ob)}{res:Ty}{ds:List D}{d:D}(h:iK {C with fr:=fr,nh:=nh} f shs obs res ds d):iK C f shs obs res ds d:=iK.ctx (C':=C) h rfl rfl rfl
def dt.hint {C:Ctx}{fr nh:List Nat}{Z:aQ}(h:dt C Z):dt {C with fr:=fr,nh:=nh} Z:=
 λf ds d e s hs=>⟨λhm=>((h f ds d e s hs).1 hm).hint,λshs obs hm=>((h f ds d e s hs).2 shs obs hm).hint⟩
def gO.hint {C:Ctx}{fr nh:List Nat}{Z:aQ}(h:gO C Z):gO {C with fr:=fr,nh:=nh} Z:=
 λf cs ys hc hi=>let⟨h1,h2⟩:=h f cs ys hc hi;⟨h1,λds d e=>let⟨xs,e1,e2,e3⟩:=h2 ds d e;⟨xs,e1,e2,e3.hint⟩⟩
def dQ.hint {C:Ctx}{fr nh:List Nat}(h:dQ C):dQ {C with fr:=fr,nh:=nh}:=h
def AJ (C:Ctx)(f:Nat)(s:Sig)(ds:List D)(d:D):Prop:=(pM s.mode=false->gN C f s ds d)/\∀shs obs,s.mode=.ob shs obs->iK C f shs obs s.res ds d
structure TabOK (C:Ctx) (tab:Nat->Option PC) (ext:Nat->Option (aQ->List D->Option D)):Prop where
 clos:dQ C
 its:∀f cs ys,C.cap f=some cs->kF cs.args cs.res=some ys->tab f=none/\∃fn,C.P.funcs[f]?=some fn/\fn.body.isSome=true/\(fn.name== "runtime.NumGoroutine")=false
 tab:∀f pc,ext f=none->tab f=some pc->∃fn s ids fr nh,C.P.funcs[f]?=some fn/\C.sig f=some s/\gf {C with fr:=fr,nh:=nh} fn s ids=some pc
 ext:∀f g,ext f=some g->∀Z,dt C Z->gO C Z->∀ds d,g Z ds=some d->(∀s,C.sig f=some s->AJ C f s ds d)/\
  ∀cs ys,C.cap f=some cs->kF cs.args cs.res=some ys->∃xs,d=.list xs/\(∀x,x∈xs->∃ds',x=.tup ds'/\ds'.length=ys.length)/\me C f cs.caps ys ds xs
def aam {C:Ctx}{tab:Nat->Option PC}{ext:Nat->Option (aQ->List D->Option D)}(h:TabOK C tab ext):∀n,dt C (fP tab ext n)/\gO C (fP tab ext n)
 |0=>⟨λf ds d e=>by simp[fP] at e,λf cs ys hc hi=>⟨(h.its f cs ys hc hi).2,λds d e=>by simp[fP] at e⟩⟩
 |n+1=>by
  obtain⟨ih,kC⟩:=aam h n;refine⟨λf ds d e=>?_,λf cs ys hc hi=>⟨(h.its f cs ys hc hi).2,λds d e=>?_⟩⟩
  .simp only[fP] at e;split at e
   .rename_i g hg;exact(h.ext f g hg _ ih kC ds d e).1
   .rename_i hx;split at e
    .rename_i pc ab;split at e
     .rename_i d' he;cases e;obtain⟨fn,s,ids,fr,nh,h1,h2,h3⟩:=h.tab f pc hx ab;intro s' fG;rw[h2] at fG;cases fG
      exact⟨λhm=>(QO (C:={C with fr:=fr,nh:=nh}) (dQ.hint h.clos) (dt.hint ih) (gO.hint kC) h1 h3 hm he).unhint,
       λshs obs hm=>(ank (C:={C with fr:=fr,nh:=nh}) (dQ.hint h.clos) (dt.hint ih) (gO.hint kC) h1 h3 hm he).unhint⟩
     .cases e
    .cases e
  .simp only[fP] at e;split at e
   .rename_i g hg;exact(h.ext f g hg _ ih kC ds d e).2 cs ys hc hi
   .rw[(h.its f cs ys hc hi).1] at e;cases e
def alo (Z:aQ)(pc:PC)(J k:Nat)(ds xs:List D):Prop:=Z2 Z pc J ds xs/\∀x,x∈xs->∃ds',x=.tup ds'/\ds'.length=k
open Classical in
def GI (pc:PC)(J k:Nat)(spec:List D->List D):aQ->List D->Option D:=λZ ds=>if alo Z pc J k ds (spec ds) then some (.list (spec ds)) else none
def atH {C:Ctx}{Z:aQ}(bh:dQ C)(hΦ:dt C Z)(eF:gO C Z){f:Nat}{fn:Func}{cts ys:List Ty}{J k:Nat}{ids fr nh:List Nat}{pc:PC}(hf:C.P.funcs[f]?=some fn)(hc:∀yv,E3 {C with fr:=fr,nh:=nh,yv:=yv} fn cts ys J ids=some pc){spec:List D->List D}
 {ds:List D} {d:D} (h:GI pc J k spec Z ds=some d) (hk:k=ys.length):∃xs,d=.list xs/\(∀x,x∈xs->∃ds',x=.tup ds'/\ds'.length=ys.length)/\me C f cts ys ds xs:=by
 unfold GI at h;split at h
 .rename_i hs;cases h;subst hk;exact⟨_,rfl,hs.2,(anl (C:={C with fr:=fr,nh:=nh}) (dQ.hint bh) (dt.hint hΦ) (gO.hint eF) hf hc hs.1).unhint⟩
 .cases h
def bk {α:Type}:List (Nat×α)->Nat->Option α
 |[],_=>none
 |x::l,f=>bif Nat.beq x.1 f then some x.2 else bk l f
def I7 {α:Type}(R:Nat->α->Prop):List (Nat×α)->Prop
 |[]=>True
 |x::l=>R x.1 x.2/\I7 R l
def GR {α:Type}{R:Nat->α->Prop}:∀{l:List (Nat×α)},I7 R l->∀f x,bk l f=some x->R f x
 |[],_,f,x,h=>by cases h
 |y::l,⟨h1,h2⟩,f,x,h=>by
  simp only[bk] at h;cases hb:Nat.beq y.1 f<;>simp only[hb,zyy,zyx] at h
  .exact GR h2 f x h
  .cases h;rw[<-dp hb];exact h1
def WL (P:Program):List (Nat×Sig)->Bool
 |[]=>true
 |x::l=>(match P.funcs[x.1]? with|some fn=>fn.body.isSome&& !(fn.name== "runtime.NumGoroutine")|none=>false)&&WL P l
def ajm {P:Program}:∀{l:List (Nat×Sig)},WL P l=true->∀f s,bk l f=some s->∃fn,P.funcs[f]?=some fn/\fn.body.isSome=true/\(fn.name== "runtime.NumGoroutine")=false
 |[],_,f,s,h=>by cases h
 |y::l,hl,f,s,h=>by
  simp only[WL,au] at hl;simp only[bk] at h;cases hb:Nat.beq y.1 f<;>simp only[hb,zyy,zyx] at h
  .exact ajm hl.2 f s h
  .rw[<-dp hb];have h1:=hl.1;split at h1
   .rename_i fn e;simp only[au,iZ] at h1;exact⟨fn,e,h1.1,h1.2⟩
   .cases h1
def WA (a b:Sig):Bool:=Ty.beqs a.args b.args&&Ty.beq a.res b.res&&(match a.mode,b.mode with|.dat,.dat=>true|_,_=>false)
def ayX {a b:Sig}(h:WA a b=true):a=b:=by
 obtain⟨a1,a2,a3⟩:=a;obtain⟨b1,b2,b3⟩:=b;simp only[WA,au] at h;rw[Ty.beqs_eq _ _ h.1.1,Ty.beq_eq _ _ h.1.2];cases a3<;>cases b3<;>first|rfl|(have:=h.2;cases this)
def DU (P:Program)(f:Nat):Bool:=match P.funcs[f]? with|some fn=>fn.body.isSome&& !(fn.name== "runtime.NumGoroutine")|none=>false
def ajn {P:Program}{f:Nat}(h:DU P f=true):∃fn,P.funcs[f]?=some fn/\fn.body.isSome=true/\(fn.name== "runtime.NumGoroutine")=false:=by
 unfold DU at h;split at h
 .rename_i fn e;simp only[au,iZ] at h;exact⟨fn,e,h.1,h.2⟩
 .cases h
def QE (P:Program)(sig:List (Nat×Sig))(pcs:List Nat):List (Nat×CSig)->Bool
 |[]=>true
 |x::l=>(match kF x.2.args x.2.res with
   |none=>(match bk sig x.1 with|some s=>WA s ⟨x.2.args++x.2.caps,x.2.res,.dat⟩|none=>false)
   |some _=> !fR pcs x.1&&DU P x.1)&&QE P sig pcs l
def QF {P:Program}{sig:List (Nat×Sig)}{pcs:List Nat}:∀{l:List (Nat×CSig)},QE P sig pcs l=true->∀f cs,bk l f=some cs->
 (kF cs.args cs.res=none->bk sig f=some ⟨cs.args++cs.caps,cs.res,.dat⟩)/\∀ys,kF cs.args cs.res=some ys->fR pcs f=false/\DU P f=true
 |[],_,f,cs,h=>by cases h
 |x::l,hl,f,cs,h=>by
  simp only[QE,au] at hl;simp only[bk] at h;cases hb:Nat.beq x.1 f<;>simp only[hb,zyy,zyx] at h
  .exact QF hl.2 f cs h
  .cases h;rw[<-dp hb];have h1:=hl.1;refine⟨λe=>?_,λys e=>?_⟩
   .rw[e] at h1;simp only at h1;split at h1
    .rename_i s hs;rw[hs,ayX h1]
    .cases h1
   .rw[e] at h1;simpa using h1
def To {α:Type}:∀{l:List (Nat×α)} {f:Nat},fR (l.map (·.1)) f=false->bk l f=none
 |[],f,_=>rfl
 |x::l,f,h=>by
  simp only[fO,fR,List.any_cons,ZW] at h;simp only[bk];have hb:Nat.beq x.1 f=false:=by
   cases e:Nat.beq x.1 f
   .rfl
   .rw[aC e,iL] at h;cases h.1
  rw[hb];exact To (l:=l) h.2
def aly (Z:aQ)(pa pb:PC)(ds:List D)(d:D):Prop:=(∃N xs,pa.ev Z N (lL ds)=some (.ret (.list xs))/\xs≠[]/\d=.list xs)\/∃N,pb.ev Z N (lL ds)=some (.ret (.list []))/\d=.list []
open Classical in
def CQ (pa pb:PC)(spec:List D->D):aQ->List D->Option D:=λZ ds=>if aly Z pa pb ds (spec ds) then some (spec ds) else none
def av3 {C:Ctx}{Z:aQ}(bh:dQ C)(hΦ:dt C Z)(eF:gO C Z){f:Nat}{fn:Func}{args:List Ty}{e:Ty}{ids atu fr nh frb nhb:List Nat}{pa pb:PC}(hf:C.P.funcs[f]?=some fn)(ha:gf {C with fr:=fr,nh:=nh} fn ⟨args,.slice e,.dat⟩ ids=some pa)
 (hb:gf {C with fr:=frb,nh:=nhb} fn ⟨args,.nils .bool,.dat⟩ atu=some pb) {spec:List D->D} {ds:List D} {d:D} (h:CQ pa pb spec Z ds=some d):gN C f ⟨args,.nsl e,.dat⟩ ds d:=by
 unfold CQ at h;split at h
 case isFalse=>cases h
 rename_i hs;cases h;rcases hs with⟨N,xs,h1,h2,h3⟩|⟨N,h1,h2⟩
 .rw[h3];have:=(QO (C:={C with fr:=fr,nh:=nh}) (dQ.hint bh) (dt.hint hΦ) (gO.hint eF) hf ha (N:=N) rfl h1).unhint;intro V w aa av hC ei;refine(this V w aa av hC ei).mono λen w' hh=>?_;obtain⟨v,V',g1,g2,g3,g4,g5,g6,g7⟩:=hh;refine⟨v,V',g1,g2,g3,g4,g5,g6,?_⟩;change Rep C.cap V' (.slice e) v (.list xs) at g7;show Rep C.cap V' (.nsl e) v (.list xs);generalize hd:D.list xs=dd at g7;cases g7 with
  |nil=>injection hd with hd;exact absurd hd h2
  |emp=>injection hd with hd;exact absurd hd h2
  |slice _ k o n c kJ vs a1 a2 a3 a4 a5 a6=>exact .nsl e k o n c kJ (.slice e k o n c kJ vs a1 a2 a3 a4 a5 a6) (by injection hd with hd;rw[<-hd];exact h2)
 .rw[h2];have:=(QO (C:={C with fr:=frb,nh:=nhb}) (dQ.hint bh) (dt.hint hΦ) (gO.hint eF) hf hb (N:=N) rfl h1).unhint;intro V w aa av hC ei;refine(this V w aa av hC ei).mono λen w' hh=>?_;obtain⟨v,V',g1,g2,g3,g4,g5,g6,g7⟩:=hh;refine⟨v,V',g1,g2,g3,g4,g5,g6,?_⟩;change Rep C.cap V' (.nils .bool) v (.list []) at g7;show Rep C.cap V' (.nsl e) v (.list []);generalize D.list []=dd at g7;cases g7;exact .nsl0 e
end Cx
namespace Cx
open Go Go.RowKit Go.ChangeShapes Go.WideShapes
def lY (w:World):Im:=
 ⟨λk o=>bif Nat.beq k 0|| !w.frozen? ⟨k,o,none⟩ then w.cell? ⟨k,o,none⟩ else none,λk=>match w.heap[k]? with|some (.cells _ _ _)=>some iV|_=>none⟩
def atw (w:World):(lY w).ok w:=by
 refine⟨λk o v h=>?_,λk es h=>?_,λk o v h=>?_⟩
 case refine_2=>
  change (match w.heap[k]? with|some (.cells _ _ _)=>some iV|_=>none)=_ at h;split at h
  .rename_i cs T fz e;cases h;exact .inr (.inr ⟨rfl,cs,T,fz,e⟩)
  .cases h
 all_goals change (bif Nat.beq k 0|| !w.frozen? ⟨k,o,none⟩ then w.cell? ⟨k,o,none⟩ else none)=_ at h
 all_goals cases hb:(Nat.beq k 0|| !w.frozen? ⟨k,o,none⟩)<;>rw[hb] at h
 .cases h
 .exact h
 .cases h
 .rw[fZ] at hb;exact hb.imp aC (by simp)
def adM {w:World}{k o:Nat}{v:Value}(h:w.cell? ⟨k,o,none⟩=some v):(lY w).m k=some iV:=by
 change (match w.heap[k]? with|some (.cells _ _ _)=>some iV|_=>none)=_;unfold World.cell? at h;cases hk:w.heap[k]? with
 |none=>simp[hk] at h
 |some ob=>cases ob<;>simp_all
def adL {w:World}{k o:Nat}{v:Value}(h:w.cell? ⟨k,o,none⟩=some v)(hz:k=0\/w.frozen? ⟨k,o,none⟩=false):(lY w).c k o=some v:=by
 change (bif Nat.beq k 0|| !w.frozen? ⟨k,o,none⟩ then w.cell? ⟨k,o,none⟩ else none)=_;rcases hz with rfl|hz
 .exact h
 .rw[hz];simpa using h
def DJ (P:Program)(r:TypeId->Option Ty):List Field->Nat->Option (List Ty)
 |[],_=>some []
 |f::fs,off=>(r f.type).bind λft=>
  bif Nat.beq f.offset off&&Nat.beq (P.cellsOf f.type) ft.flat.length then(DJ P r fs (off+ft.flat.length)).map (ft.flat++·) else none
def gW (P:Program):Nat->TypeId->Option Ty
 |0,_=>none
 |n+1,t=>
  match P.underlying t with
  |some .bool=>some .bool
  |some (.int k)=>some (.int k)
  |some .string=>some .str
  |some (.slice e)=>bif uH P e then some (.slice .trm) else(gW P n e).bind λte=>bif Nat.beq (P.cellsOf e) te.flat.length&&Nat.ble 1 te.flat.length then some (.slice te) else none
  |some (.struct fs)=>(DJ P (gW P n) fs.toList 0).bind λts=>bif Nat.beq (P.cellsOf t) ts.length then some (.agg ts) else none
  |_=>none
def atG {P:Program}{e:TypeId}(h:uH P e=true)(n:Nat):gW P (n+2) e=some .trmA/\P.cellsOf e=3:=by
 unfold uH at h;split at h
 case h_2=>cases h
 rename_i fs hu;split at h
 case h_2=>cases h
 rename_i f0 f1 f2 yR;simp only[au] at h;obtain⟨⟨⟨⟨⟨⟨⟨⟨⟨h0,h1⟩,h2⟩,o0⟩,o1⟩,o2⟩,c0⟩,c1⟩,c2⟩,c3⟩:=h;split at h0
 case h_2=>cases h0
 rename_i u0;split at h1
 case h_2=>cases h1
 rename_i u1;split at h2
 case h_2=>cases h2
 rename_i e' u2;obtain rfl:=aC h2;have r0:gW P (n+1) f0.type=some (.int .i64):=by simp[gW,u0]
 have r1:gW P (n+1) f1.type=some (.int .i64):=by simp[gW,u1]
 have ht:uH P e'=true:=by
  unfold uH;rw[hu];simp only[yR];simp[u0,u1,u2,aC o0,aC o1,aC o2,aC c0,aC c1,aC c2,aC c3]
 have r2:gW P (n+1) f2.type=some (.slice .trm):=by simp[gW,u2,ht]
 refine⟨?_,aC c3⟩;show gW P (n+1+1) e'=_;rw[gW,hu];simp only[yR,DJ,r0,r1,r2,kM,Ty.flat,mY,tN,o0,c0,Bool.and_self,zyy];simp[aC o1,aC o2,aC c1,aC c2,aC c3,Ty.trmA]
def Wh {P:Program}{n:Nat}{t:TypeId}{ty:Ty}(h:gW P n t=some ty):ty.rowT=true\/ty.one=true:=by
 cases n with
 |zero=>simp[gW] at h
 |succ n=>
  simp only[gW] at h;split at h
  .cases h;exact .inr rfl
  .cases h;exact .inr rfl
  .cases h;exact .inr rfl
  .rename_i e _;cases ht:uH P e<;>simp only[ht,zyy,zyx] at h
   .simp only[ay] at h;obtain⟨te,_,h⟩:=h;cases hb:(Nat.beq (P.cellsOf e) te.flat.length&&Nat.ble 1 te.flat.length)<;>simp only[hb,zyy,zyx] at h
    .cases h
    .cases h;exact .inr rfl
   .cases h;exact .inr rfl
  .rename_i fs _;simp only[ay] at h;obtain⟨ts,_,h⟩:=h;cases hb:Nat.beq (P.cellsOf t) ts.length<;>simp only[hb,zyy,zyx] at h
   .cases h
   .cases h;exact .inl rfl
  .cases h
def nP (cap:Nat->Option CSig)(V:Im)(ts:List Ty)(cs:List Value)(ds:List D):Prop:=
 cs.length=ts.length/\ds.length=ts.length/\∀(i:Nat) (u:Ty),ts[i]?=some u->Rep cap V u (cs.getD i undef) (ds.getD i .none)/\u.one=true
def nP.one {cap:Nat->Option CSig}{V:Im}{t:Ty}{v:Value}{d:D}(h:Rep cap V t v d)(ht:t.one=true):nP cap V [t] [v] [d]:=
 ⟨rfl,rfl,λi u hu=>by
   cases i with
   |zero=>simp at hu;subst hu;exact⟨h,ht⟩
   |succ i=>simp at hu⟩
def nP.append {cap:Nat->Option CSig}{V:Im}{ts us:List Ty}{cs vs:List Value}{ds es:List D}(h:nP cap V ts cs ds)(k:nP cap V us vs es):nP cap V (ts++us) (cs++vs) (ds++es):=by
 obtain⟨h1,h2,h3⟩:=h;obtain⟨k1,k2,k3⟩:=k;refine⟨by simp[h1,k1],by simp[h2,k2],λi u hu=>?_⟩;by_cases hi:i<ts.length
 .rw[kL hi] at hu;have:=h3 i u hu;rw[aK,aK,kL (by omega),kL (by omega)];rw[aK,aK] at this;exact this
 .rw[mf (by omega)] at hu;have:=k3 _ u hu;rw[aK,aK,mf (by omega),mf (by omega),h1,h2];rw[aK,aK] at this;exact this
def aa7 (ag:Bool)(ds:List D):D:=if ag then .agg ds else ds.getD 0 .none
def ao3 (t:Ty):t.flat.length=t.size:=by cases t<;>rfl
def Rep.ofRow {cap:Nat->Option CSig}{V:Im}{t:Ty}{cs:List Value}{ds:List D}(jf:t.rowT=true\/t.one=true)(h:nP cap V t.flat cs ds):Rep cap V t (Cx.rowOf t.rowT cs) (aa7 t.rowT ds):=by
 obtain⟨h1,h2,h3⟩:=h;cases t with
 |agg ts=>exact .agg ts cs ds h1 h2 (λi u hu=>(h3 i u hu).1) (λi u hu=>(h3 i u hu).2)
 |trm=>simp[Ty.rowT,Ty.one] at jf
 |_=>exact(h3 0 _ rfl).1
def ayz {cap:Nat->Option CSig}{V:Im}{t:Ty}{cs:List Value}{ds:List D}(jf:t.rowT=true\/t.one=true)(h:nP cap V t.flat cs ds){j:Nat}{u:Value}(hj:(rowOf t.rowT cs).cells[j]?=some u):cs[j]?=some u:=by
 obtain⟨h1,h2,h3⟩:=h;cases t with
 |agg ts=>simpa [rowOf,Ty.rowT,Value.cells] using hj
 |trm=>simp[Ty.rowT,Ty.one] at jf
 |_=>
  have h4:=h3 0 _ rfl;have h5:=(h4.1.oneCell h4.2).1;simp only[rowOf,Ty.rowT,xU,if_false] at hj;rw[h5] at hj;cases j with
  |zero=>
   simp only[Je,Pj,aX] at hj
   match cs,h1 with
   |[c],_=>simpa using hj
  |succ j=>simp at hj
section
variable {zzt:Type} {enc:TypeId×Value->zzt} {P:Program} {w:World} {base:Nat} {held:Bool} {cap:Nat->Option CSig}
def akZ {k:IntKind}{n:Int}(h:(Lit.int k n).wf=true):k.min<=n/\n<=k.max:=by
 simpa [Lit.wf] using h
def aiB {n m:Nat}(ih:∀(t:TypeId) (cs:List Value) (x:DataW zzt×List MemPlace) (ty:Ty),DataW.trod enc P w base (λ_=>true) held n t cs=some x->w.noneFrozen x.2->gW P m t=some ty->∃ds,nP cap (lY w) ty.flat cs ds):
 ∀(fs:List Field) (off:Nat) (cs:List Value) (ts:List Ty),DJ P (gW P m) fs off=some ts->cs.length=off+ts.length->
  (∀f,f∈fs->∃x,DataW.trod enc P w base (λ_=>true) held n f.type ((cs.drop f.offset).take (P.cellsOf f.type))=some x/\w.noneFrozen x.2)->∃ds,nP cap (lY w) ts (cs.drop off) ds
 |[],off,cs,ts,h,hl,_=>by
  simp only[DJ,aX] at h;subst h;have:cs.drop off=[]:=by simp at hl ⊢;omega
  rw[this];exact⟨[],rfl,rfl,λi u hu=>by simp at hu⟩
 |f::fs,off,cs,ts,h,hl,hx=>by
  simp only[DJ,ay] at h;obtain⟨ft,hft,h⟩:=h;cases hb:(Nat.beq f.offset off&&Nat.beq (P.cellsOf f.type) ft.flat.length)<;>simp only[hb,zyy,zyx] at h
  .cases h
  simp only[aD] at h;obtain⟨us,Gx,rfl⟩:=h;simp only[au] at hb;have e1:=dp hb.1;have e2:=dp hb.2;obtain⟨x,ot,uF⟩:=hx f (dZ ..);rw[e1,e2] at ot;obtain⟨E7,jM⟩:=ih _ _ _ _ ot uF hft;simp only[mh] at hl;obtain⟨ds2,nl⟩:=aiB ih fs (off+ft.flat.length) cs us Gx (by omega) λg hg=>hx g (dV _ hg);refine⟨E7++ds2,?_⟩;have:=jM.append nl;rw[<-List.drop_drop,Pn] at this;exact this
def aCf:∀(n m:Nat) (t:TypeId) (cs:List Value) (x:DataW zzt×List MemPlace) (ty:Ty),DataW.trod enc P w base (λ_=>true) held n t cs=some x->w.noneFrozen x.2->gW P m t=some ty->∃ds,nP cap (lY w) ty.flat cs ds:=by
 intro n
 induction n with
 |zero=>intro m t cs x ty h;simp[DataW.trod] at h
 |succ n ih=>
  intro m t cs x ty h hz bt;cases m with
  |zero=>simp[gW] at bt
  |succ m=>
   simp only[gW] at bt;split at bt
   .rename_i hu;cases bt;obtain⟨b,rfl,_⟩:=DataW.trod_bool hu h;exact⟨_,.one (.bool b) rfl⟩
   .rename_i k hu;cases bt;obtain⟨z,rfl,_,hw⟩:=DataW.trod_int hu h;exact⟨_,.one (.int k z (akZ hw).1 (akZ hw).2) rfl⟩
   .rename_i hu;cases bt;obtain⟨s,rfl,_,hs⟩:=DataW.trod_string hu h;exact⟨_,.one (.str s hs) rfl⟩
   .rename_i e hu;have zd:∃(m':Nat) (te As:Ty),gW P m' e=some te/\P.cellsOf e=te.flat.length/\1<=te.flat.length/\ty=.slice As/\As.unf=te:=by
     cases ht:uH P e<;>simp only[ht,zyy,zyx] at bt
     .simp only[ay] at bt;obtain⟨te,zd,bt⟩:=bt;cases hb:(Nat.beq (P.cellsOf e) te.flat.length&&Nat.ble 1 te.flat.length)<;>simp only[hb,zyy,zyx] at bt
      .cases bt
      cases bt;simp only[au] at hb;exact⟨m,te,te,zd,dp hb.1,kp hb.2,rfl,Ty.unf_ro (Wh zd)⟩
     .cases bt;obtain⟨k1,k2⟩:=atG ht 0;exact⟨2,.trmA,.trm,k1,k2,by decide,rfl,rfl⟩
    obtain⟨m',te,As,zd,e1,e2,rfl,mE⟩:=zd;have jf:=Wh zd;rcases DataW.trod_slice hu h with⟨rfl,_⟩|⟨a,len,cp,elems,rest,n',gE,rfl,zl,hba,hl,hm,hlen,j1,wO,_⟩
    .exact⟨_,.one (.nil As) rfl⟩
    .cases gE;obtain⟨hrl,wJ⟩:=wO rfl
     have mq:∀i,i<cp->∃ci y,w.cells? base (a.add (i*P.cellsOf e)) (P.cellsOf e)=some ci/\DataW.trod enc P w base (λ_=>true) held n e ci=some y/\y∈elems++rest:=by
      intro i hi
      have dR:∃y,(w.cells? base (a.add (i*P.cellsOf e)) (P.cellsOf e)).bind (DataW.trod enc P w base (λ_=>true) held n e)=some y/\y∈elems++rest:=by
           by_cases yU:i<len
           .rw[j1 i yU];exact⟨_,bI (by omega),ja _ (bW _)⟩
           .have:=wJ (i-len) (by omega);rw[show len+(i-len)=i by omega] at this;rw[this];exact⟨_,bI (by omega),jz _ (bW _)⟩
      obtain⟨y,hy,S9⟩:=dR;rw[ay] at hy;obtain⟨ci,h1,h2⟩:=hy;exact⟨ci,y,h1,h2,S9⟩
     by_cases FQ:cp=0
     .subst FQ;have:len=0:=by omega
      subst this;exact⟨_,.one (.emp As a) rfl⟩
     .have adv:a.spot=none:=by
           obtain⟨ci,y,h1,_⟩:=mq 0 (by omega);obtain⟨_,_,h3⟩:=World.cells?_some h1;have:=h3 0 (by omega);simp only[Nat.zero_mul,Addr.add,if_true] at this;unfold World.cell? at this;cases hs:a.spot with
           |none=>rfl
           |some s=>
            exfalso;have hl:ci.length=P.cellsOf e:=(World.cells?_some h1).2.1;split at this
            .rw[hs] at this;simp at this;subst this;simp at hl;omega
            .rw[eq_comm,List.getElem?_eq_none_iff] at this;omega
      obtain⟨k,o,s⟩:=a;simp only at adv;subst adv;have aS:∀i,∃p:List Value×List D,i<len->w.cells? base ((⟨k,o,none⟩:Addr).add (i*P.cellsOf e)) (P.cellsOf e)=some p.1/\nP cap (lY w) te.flat p.1 p.2:=by
           intro i;by_cases hi:i<len
           .obtain⟨ci,y,h1,h2,S9⟩:=mq i (by omega);obtain⟨ds,hr⟩:=ih m' _ _ _ _ h2 (λb off hp=>hz b off (by rw[zl];exact jz _ (lF.2 ⟨y,S9,hp⟩))) zd;exact⟨(ci,ds),λ_=>⟨h1,hr⟩⟩
           .exact⟨([],[]),λh=>absurd h hi⟩
      obtain⟨f,hf⟩:=Classical.axiomOfChoice aS;have wC:(lY w).m k=some iV:=by
           obtain⟨ci,y,h1,_⟩:=mq 0 (by omega);obtain⟨_,h4,h5⟩:=World.cells?_some h1;have h6:=h5 0 (by omega);rw[bI (by omega)] at h6;simp only[Nat.zero_mul,Addr.add,if_true] at h6;exact adM h6
      refine⟨_,.one (.slice As k o len cp ((List.range len).map λi=>aa7 te.rowT (f i).2) (λi=>rowOf te.rowT (f i).1) (by simp) hl hm (λi x hx=>?_) (λi j u hi hj=>?_) (λ_=>wC)) rfl⟩
      .rw[cL,aD] at hx;obtain⟨i',dG,rfl⟩:=hx;have ak:i<len:=by have:=(ga.1 dG).1;simpa using this
       rw[rX ak] at dG;cases dG;rw[mE];exact Rep.ofRow jf (hf i ak).2
      .obtain⟨h1,h2⟩:=hf i hi;have dF:=ayz jf h2 hj;obtain⟨_,h4,h5⟩:=World.cells?_some h1;have gT:j<P.cellsOf e:=by rw[<-h4];exact(ga.1 dF).1
       have:=h5 j gT;rw[dF] at this;have bG:i*P.cellsOf e+j<(elems.length+rest.length)*P.cellsOf e:=by
           have h6:(i+1)*P.cellsOf e<=(elems.length+rest.length)*P.cellsOf e:=oT _ (by omega);rw[Nat.succ_mul] at h6;omega
       have wR:=hz k (o+(i*P.cellsOf e+j)) (by rw[zl];exact ja _ (MemPlace.mem_row.2 ⟨_,bG,rfl⟩));rw[<-As.unf_size,mE,<-ao3,<-e1,vK];refine adL ?_ (.inr wR);rw[<-this]
       congr 1
       simp only[Addr.add];split<;>split<;>simp_all<;>omega
   .rename_i fs hu;simp only[ay] at bt;obtain⟨ts,SM,bt⟩:=bt;cases hb:Nat.beq (P.cellsOf t) ts.length<;>simp only[hb,zyy,zyx] at bt
    .cases bt
    cases bt;obtain⟨xs,n',gE,zl,hl,zm,hf⟩:=DataW.trod_struct hu h;cases gE
    have:=aiB (ih m) fs.toList 0 cs ts SM (by rw[hl,dp hb];omega) (λf hm=>by
     obtain⟨i,hi⟩:=AL hm;have dG:fs[i]?=some f:=by simpa using hi
     have h1:=hf i f dG;have ak:i<fs.size:=(hZ.1 dG).1;exact⟨_,h1.trans (bI (by omega)),λb off hp=>hz b off (by rw[zl];exact lF.2 ⟨_,bW (by omega),hp⟩)⟩)
    show ∃ds,nP cap (lY w) ts cs ds;simpa using this
   .cases bt
def EJ {base:Nat}{t:TypeId}{v:Value}(h:Cell.okWide P w .any base t v):v.cells=#[v]:=by
 cases v<;>first|rfl|(exfalso;simp only[Cell.okWide,Cell.ok] at h;revert h;cases P.underlying t with|none=>simp|some T=>cases T<;>simp)
def alT {base base':Nat}{m:Nat}{t:TypeId}{v:Value}{d:DataW zzt}{ps:List MemPlace}{ty:Ty}(av:Value.okWide P w .any base' t v)(h:DataW.Trod enc P w base (λ_=>true) held t v d ps)(hz:w.noneFrozen ps)(bt:gW P m t=some ty):∃d,Rep cap (lY w) ty v d:=by
 obtain⟨fuel,h⟩:=h;obtain⟨ds,hr⟩:=aCf (cap:=cap) fuel m t _ _ _ h hz bt;have bX:=Rep.ofRow (Wh bt) hr;cases m with
 |zero=>simp[gW] at bt
 |succ m=>
  suffices hs:rowOf ty.rowT v.cells.toList=v by rw[hs] at bX;exact⟨_,bX⟩
  simp only[gW] at bt;unfold Value.okWide at av;split at bt
  .rename_i hu;cases bt;rw[hu] at av;simp only at av;rw[EJ av];rfl
  .rename_i hu;cases bt;rw[hu] at av;simp only at av;rw[EJ av];rfl
  .rename_i hu;cases bt;rw[hu] at av;simp only at av;rw[EJ av];rfl
  .rename_i e hu;cases ht:uH P e<;>simp only[ht,zyy,zyx] at bt
   .simp only[ay] at bt;obtain⟨te,_,bt⟩:=bt;cases hb:(Nat.beq (P.cellsOf e) te.flat.length&&Nat.ble 1 te.flat.length)<;>simp only[hb,zyy,zyx] at bt
    .cases bt
    cases bt;rw[hu] at av;simp only at av;rw[EJ av];rfl
   .cases bt;rw[hu] at av;simp only at av;rw[EJ av];rfl
  .rename_i fs hu;simp only[ay] at bt;obtain⟨ts,_,bt⟩:=bt;cases hb:Nat.beq (P.cellsOf t) ts.length<;>simp only[hb,zyy,zyx] at bt
   .cases bt
   cases bt;rw[hu] at av;obtain⟨cs,rfl,_⟩:=av;simp[rowOf,Ty.rowT,Value.cells]
  .cases bt
def IB (P:Program)(m:Nat):List TypeId->Option (List Ty)
 |[]=>some []
 |t::ts=>(gW P m t).bind λx=>(IB P m ts).map (x::·)
def aaw {base base' m:Nat}:∀(ts:List TypeId) (vs:List Value) (ds:List (DataW zzt)) (ps:List MemPlace) (gu:List Ty),DataW.TrodAll enc P w base (λ_=>true) held ts vs ds ps->w.noneFrozen ps->IB P m ts=some gu->
 (∀(j:Nat) t v,ts[j]?=some t->vs[j]?=some v->Value.okWide P w .any base' t v)->
 ∃es:List D,vs.length=gu.length/\es.length=gu.length/\∀(i:Nat) (t:Ty),gu[i]?=some t->Rep cap (lY w) t (vs.getD i undef) (es.getD i .none)
 |[],vs,ds,ps,gu,h,hz,bt,_=>by
  simp only[IB,aX] at bt;subst bt;cases vs with
  |nil=>exact⟨[],rfl,rfl,λi t h=>by simp at h⟩
  |cons=>cases ds<;>exact h.elim
 |t::ts,vs,ds,ps,gu,h,hz,bt,av=>by
  simp only[IB,ay,aD] at bt;obtain⟨ty,ata,aCk,atb,rfl⟩:=bt;cases vs with
  |nil=>cases ds<;>exact h.elim
  |cons v vs=>
   cases ds with
   |nil=>exact h.elim
   |cons d ds=>
    obtain⟨p,q,h1,h2,hpq⟩:=h;obtain⟨e,he⟩:=alT (cap:=cap) (av 0 t v rfl rfl) h1 (λb off hp=>hz b off (by rw[hpq];exact ja _ hp)) ata;obtain⟨es,k1,k2,k3⟩:=aaw ts vs ds q aCk h2 (λb off hp=>hz b off (by rw[hpq];exact jz _ hp)) atb (λj t' v' hj hv=>av (j+1) t' v' hj hv);refine⟨e::es,by simp[k1],by simp[k2],λi u hu=>?_⟩;cases i with
    |zero=>simp at hu;subst hu;exact he
    |succ i=>simpa using k3 i u (by simpa using hu)
end
mutual
inductive DTy:Ty->D->Prop where
 |int (k:IntKind) (n:Int) (h1:k.min<=n) (h2:n<=k.max):DTy (.int k) (.v (.int k n))
 |bool (b:Bool):DTy .bool (.v (.bool b))
 |str (s:ByteArray) (h:s.size<=maxLen):DTy .str (.v (.string s))
 |slice (e:Ty) (xs:List D) (hm:xs.length<=maxLen) (h:∀x,x∈xs->DTy e.unf x):DTy (.slice e) (.list xs)
 |agg (ts:List Ty) (ds:List D) (h:DTys ts ds):DTy (.agg ts) (.agg ds)
 |other (t:Ty) (d:D) (h:match t with|.int _|.bool|.str|.slice _|.agg _=>False|_=>True):DTy t d
inductive DTys:List Ty->List D->Prop where
 |nil:DTys [] []
 |cons {t:Ty} {d:D} {ts:List Ty} {ds:List D} (h:DTy t d) (hs:DTys ts ds):DTys (t::ts) (d::ds)
end
def DTys.of_get:∀{ts:List Ty} {ds:List D},ds.length=ts.length->(∀(i:Nat) (t:Ty),ts[i]?=some t->DTy t (ds.getD i .none))->DTys ts ds
 |[],[],_,_=>.nil
 |t::ts,d::ds,hl,h=>.cons (h 0 t rfl) (DTys.of_get (by simpa using hl) λi u hu=>by simpa using h (i+1) u (by simpa using hu))
 |[],_::_,hl,_=>by simp at hl
 |_::_,[],hl,_=>by simp at hl
def Rep.dty {cap:Nat->Option CSig}{V:Im}{t:Ty}{v:Value}{d:D}(h:Rep cap V t v d):DTy t d:=by
 induction h with
 |int k n h1 h2=>exact .int k n h1 h2
 |bool b=>exact .bool b
 |str s h=>exact .str s h
 |agg ts vs ds h1 h2 _ ho ih=>exact .agg ts ds (.of_get h2 ih)
 |nil e=>exact .slice e [] (by decide) (λx hx=>by cases hx)
 |emp e a=>exact .slice e [] (by decide) (λx hx=>by cases hx)
 |slice e k o n c xs vs hn hc hm _ hv _ ih=>
  refine .slice e xs (by omega) λx hx=>?_;obtain⟨i,hi⟩:=AL hx;exact ih i x hi
 |_=>exact .other _ _ trivial
def atQ {zzt:Type}{enc:TypeId×Value->zzt}{C:Ctx}{f:Nat}{fn:Func}{sg:Sig}{spec:ChangeSpec}{tb:TypeId}{apart fresh handsOn again:Bool}(hl:laidOutB C.P=true)
 (j5:IB C.P 12 fn.params.toList=some sg.args) (asG:fn.params.toList.all (λt=>C.P.readableRec t&&decide (t<C.P.types.size))=true) (SR:spec.vars=[])
 (asY:∀ds:List (DataW zzt),ds.length=fn.params.size->(spec.fn zzt ds).results=[.lit (.bool true)]/\(spec.fn zzt ds).args=ds/\(spec.fn zzt ds).vars=[])
 (ew:fn.resultTypes=#[tb]) (hub:C.P.underlying tb=some .bool) (lU:sg.mode=.dat) (wK:sg.res=.bool)
 (R5:∀ds,DTys sg.args ds->gN C f sg ds (.v (.bool true)))
 (W:World) (sF:CtxOK C (lY W)) (base:Nat) (args:Array Value) (ds gs:List (DataW zzt)) (before:List MemPlace)
 (cC:∀(j:Nat) t v,fn.params[j]?=some t->args[j]?=some v->Value.okWide C.P W .any base t v)
 (hW:DataW.Whole enc C.P fn.params.toList spec.vars apart W args.toList ds gs before):
 Calls C.P f args W λe W'=>∃v,e=.returned v/\spec.post enc C.P fn apart fresh handsOn again W args v W':=by
 have LF:=hW;have ak:∀p∈before,p.block<W.heap.size:=λp hp=>LF.lt p hp;obtain⟨p,q,hA,hV,rfl,Cm,bC⟩:=hW;rw[SR] at hV;obtain⟨rfl,rfl⟩:=trodVars_none hV;obtain⟨es,k1,k2,k3⟩:=aaw (cap:=C.cap) (base':=base) fn.params.toList args.toList ds p sg.args hA (λb off hp=>Cm b off (by simpa using hp)) j5 (λj t v hj hv=>cC j t v (by simpa using hj) (by simpa using hv));have bt:DTys sg.args es:=.of_get k2 λi t ht=>(k3 i t ht).dty
 have hlen:∀(ts:List TypeId) (vs:List Value) (ds:List (DataW zzt)) (ps:List MemPlace),DataW.TrodAll enc C.P W 0 (λ_=>true) true ts vs ds ps->ds.length=ts.length:=by
  intro ts
  induction ts with
  |nil=>intro vs ds ps h;cases vs<;>cases ds<;>first|rfl|exact h.elim
  |cons t ts ih=>
   intro vs ds ps h;cases vs with
   |nil=>cases ds<;>exact h.elim
   |cons v vs=>cases ds with
    |nil=>exact h.elim
    |cons d ds=>obtain⟨p,q,_,h2,_⟩:=h;simp[ih vs ds q h2]
 have RJ:ds.length=fn.params.size:=by simpa using hlen _ _ _ _ hA
 obtain⟨s1,s2,s3⟩:=asY (ds++[]) (by simpa using RJ);refine(R5 es bt (lY W) W args (atw W) sF ⟨k1,k2,k3⟩).mono λe W' hh=>?_;obtain⟨v,V',rfl,_,_,hb,_,_,hr⟩:=hh;refine⟨v,rfl,?_⟩;simp only[mZ,lU,wK] at hr;obtain⟨b,rfl,yN⟩:=hr.bool_inv;cases yN
 have stays:∀(sp:Nat->Bool) (ts:List TypeId) (vs:List Value) (ds:List (DataW zzt)) (ps:List MemPlace),ts.all (λt=>C.P.readableRec t&&decide (t<C.P.types.size))=true->(∀x∈ps,x.block<W.heap.size)->(∀x∈ps,sp x.block=true)->
  DataW.TrodAll enc C.P W 0 (λ_=>true) true ts vs ds ps->DataW.TrodAll enc C.P W' 0 sp true ts vs ds ps:=by
  intro sp ts
  induction ts with
  |nil=>intro vs ds ps _ _ _ h;cases vs<;>cases ds<;>first|exact h|exact h.elim
  |cons t ts ih=>
   intro vs ds ps ha uy wO h;cases vs with
   |nil=>cases ds<;>exact h.elim
   |cons v vs=>cases ds with
    |nil=>exact h.elim
    |cons d ds=>
     obtain⟨p,q,h1,h2,rfl⟩:=h;simp only[rW,au,decide_eq_true_eq] at ha
     exact⟨p,q,WideElems.Trod_stays hl ha.1.1 ha.1.2 h1 (λx hx=>hb.same (uy x (ja _ hx))) (λx hx=>wO x (ja _ hx)),
      ih vs ds q (by simpa using ha.2) (λx hx=>uy x (jz _ hx)) (λx hx=>wO x (jz _ hx)) h2,rfl⟩
 have acX:∀x∈p,x.block<W.heap.size:=λx hx=>ak x (ja _ hx);have ei:=λsp (h:∀x∈p,sp x.block=true)=>stays sp _ _ _ _ asG acX h hA;have wJ:∀(b:Nat) (sp:Nat->Bool) (hd:Bool),DataW.TrodAll enc C.P W' b sp hd fn.resultTypes.toList ((Value.bool true).resultList fn.resultTypes.size) [.lit (.bool true)] []:=by
  intro b sp hd;rw[ew];exact trodAll_mk1 (shut_bool hub true)
 refine⟨ds,[],p++[],[],p,[],LF,?_,?_,?_,World.keptBut_mono (λx hx=>⟨hx,?_⟩) (hb.frame (·∈p++[])),λ_=>?_⟩
 .rw[s1];exact wJ _ _ _
 .rw[s2];simpa using ei _ (λx hx=>by simpa using acX x hx)
 .rw[s3,SR];rfl
 .simpa using hx
 .refine⟨ok_one ew rfl (okWide_bool_mk hub true),_,[],([]++p)++[],⟨[]++p,[],trodAll_append (ei _ (λ_ _=>rfl)) (wJ _ _ _),by rw[SR];exact rfl,rfl,?_,?_⟩,?_⟩
  .intro b off hp;have bG:MemPlace.cell b off∈p++[]:=by simpa using hp
   rw[hb.frozen (ak _ bG)];exact Cm b off bG
  .intro ha;simpa using bC ha
  .intro x hx _;simpa using hx
end Cx
namespace Cx
open Go Go.RowKit
abbrev cT:=Nat->aQ
def ah (T:cT)(f:Nat)(ds:List D)(d:D):Prop:=∃n0,∀n,n0<=n->T n f ds=some d
def AI (T:cT)(l:List PI)(O:Env)(Q:Env->Prop):Prop:=∃O',Q O'/\∃n0,∀n,n0<=n->PI.runs (T n) l O=some O'
def aN (T:cT)(c:PC)(O:Env)(Q:Out->Prop):Prop:=∃x,Q x/\∃n0,∀n,n0<=n->c.ev (T n) n O=some x
def aN.mono {T:cT}{c:PC}{O:Env}{Q Q':Out->Prop}(h:aN T c O Q)(hq:∀x,Q x->Q' x):aN T c O Q':=by
 obtain⟨x,hx,n0,hn⟩:=h;exact⟨x,hq x hx,n0,hn⟩
def AI.nil {T:cT}{O:Env}{Q:Env->Prop}(h:Q O):AI T [] O Q:=⟨O,h,0,λ_ _=>rfl⟩
def AI.cons {T:cT}{p:PI}{l:List PI}{O ρ1:Env}{Q:Env->Prop}{n0:Nat}(h:∀n,n0<=n->p.run (T n) O=some ρ1)(k:AI T l ρ1 Q):AI T (p::l) O Q:=by
 obtain⟨O',hQ,n1,h1⟩:=k;exact⟨O',hQ,max n0 n1,λn hn=>by simp[PI.runs,h n (by omega),h1 n (by omega)]⟩
def iX (T:cT):List PI->Env->(Env->Prop)->Prop
 |[],O,Q=>Q O
 |.setR t e::l,O,Q=>iX T l (O.setR t (e.ev O)) Q
 |.setO t e::l,O,Q=>iX T l (O.setO t (e.ev O)) Q
 |.chk e::l,O,Q=>(e.ev O).b=true/\iX T l O Q
 |.call gs dst f args::l,O,Q=>if holds gs O=true then ∃d,ah T f (PE.evs O args) d/\iX T l (O.setR dst d) Q else iX T l O Q
 |.callc gs dst e args::l,O,Q=>if holds gs O=true then ∃f caps d,e.ev O=.clo f caps/\ah T f (PE.evs O args++caps) d/\iX T l (O.setR dst d) Q else iX T l O Q
 |.mcall j f args::l,O,Q=>∃d,ah T f (PE.evs O args) d/\iX T l (O.setO j d) Q
def vu {T:cT}:∀{l:List PI} {O:Env} {Q:Env->Prop},iX T l O Q->AI T l O Q
 |[],O,Q,h=>.nil h
 |.setR t e::l,O,Q,h=>.cons (n0:=0) (λ_ _=>rfl) (vu h)
 |.setO t e::l,O,Q,h=>.cons (n0:=0) (λ_ _=>rfl) (vu h)
 |.chk e::l,O,Q,h=>.cons (n0:=0) (λn _=>by simp[PI.run,h.1]) (vu h.2)
 |.call gs dst f args::l,O,Q,h=>by
  unfold iX at h;split at h
  .rename_i hg;obtain⟨d,⟨n0,hn⟩,h⟩:=h;exact .cons (n0:=n0) (λn hle=>by simp[PI.run,hg,hn n hle]) (vu h)
  .rename_i hg;exact .cons (n0:=0) (λn hle=>by simp[PI.run,hg]) (vu h)
 |.callc gs dst e args::l,O,Q,h=>by
  unfold iX at h;split at h
  .rename_i hg;obtain⟨f,caps,d,he,⟨n0,hn⟩,h⟩:=h;exact .cons (n0:=n0) (λn hle=>by simp[PI.run,hg,he,hn n hle]) (vu h)
  .rename_i hg;exact .cons (n0:=0) (λn hle=>by simp[PI.run,hg]) (vu h)
 |.mcall j f args::l,O,Q,h=>by
  obtain⟨d,⟨n0,hn⟩,h⟩:=h;exact .cons (n0:=n0) (λn hle=>by simp[PI.run,hn n hle]) (vu h)
def l5 (O:Env)(lr lo:List Nat)(Q:Out->Prop):Out->Prop
 |.next O'=>Q (.next (O.join lr lo O'))
 |x=>Q x
def m8 (O:Env)(id:Nat)(lr lo:List Nat)(Q:Out->Prop):Out->Prop
 |.next O'=>Q (.next (O.join lr lo O'))
 |.exit cj O'=>if cj=id then Q (.next (O.join lr lo O')) else Q (.exit cj O')
 |.ret d=>Q (.ret d)
def iW (K:Env->Prop)(Q:Out->Prop):Out->Prop
 |.next O'=>K O'
 |.exit id O'=>Q (.exit id O')
 |.ret d=>Q (.ret d)
def aN.is {T:cT}{l:List PI}{O:Env}{Q:Out->Prop}(h:iX T l O λO'=>Q (.next O')):aN T (.is l) O Q:=by
 obtain⟨O',hQ,n0,hn⟩:=vu h;exact⟨.next O',hQ,n0,λn hle=>by simp[PC.ev,hn n hle]⟩
def aN.skip {T:cT}{O:Env}{Q:Out->Prop}(h:Q (.next O)):aN T .skip O Q:=⟨_,h,0,λ_ _=>rfl⟩
def aN.exit {T:cT}{O:Env}{id:Nat}{Q:Out->Prop}(h:Q (.exit id O)):aN T (.exit id) O Q:=⟨_,h,0,λ_ _=>rfl⟩
def aN.ret {T:cT}{O:Env}{e:PE}{Q:Out->Prop}(h:Q (.ret (e.ev O))):aN T (.ret e) O Q:=⟨_,h,0,λ_ _=>rfl⟩
def aN.seq {T:cT}{a b:PC}{O:Env}{Q:Out->Prop}(h:aN T a O (iW (λO'=>aN T b O' Q) Q)):aN T (.seq a b) O Q:=by
 obtain⟨x,hx,n0,hn⟩:=h;cases x with
 |next O'=>
  obtain⟨y,hy,n1,h1⟩:=hx;exact⟨y,hy,max n0 n1,λn hle=>by simp[PC.ev,hn n (by omega),h1 n (by omega)]⟩
 |exit id O'=>exact⟨_,hx,n0,λn hle=>by simp[PC.ev,hn n hle]⟩
 |ret d=>exact⟨_,hx,n0,λn hle=>by simp[PC.ev,hn n hle]⟩
def aN.ite {T:cT}{c:PE}{lr lo:List Nat}{a b:PC}{O:Env}{Q:Out->Prop}(h:if(c.ev O).b=true then aN T a O (l5 O lr lo Q) else aN T b O (l5 O lr lo Q)):aN T (.ite c lr lo a b) O Q:=by
 split at h
 all_goals
  rename_i hc;obtain⟨x,hx,n0,hn⟩:=h;cases x with
  |next O'=>exact⟨_,hx,n0,λn hle=>by simp[PC.ev,hc,hn n hle]⟩
  |exit id O'=>exact⟨_,hx,n0,λn hle=>by simp[PC.ev,hc,hn n hle]⟩
  |ret d=>exact⟨_,hx,n0,λn hle=>by simp[PC.ev,hc,hn n hle]⟩
def aN.block {T:cT}{id:Nat}{lr lo:List Nat}{a:PC}{O:Env}{Q:Out->Prop}(h:aN T a O (m8 O id lr lo Q)):aN T (.block id lr lo a) O Q:=by
 obtain⟨x,hx,n0,hn⟩:=h;cases x with
 |next O'=>exact⟨_,hx,n0,λn hle=>by simp[PC.ev,hn n hle]⟩
 |exit cj O'=>
  simp only[m8] at hx;split at hx
  .rename_i e;subst e;exact⟨_,hx,n0,λn hle=>by simp[PC.ev,hn n hle]⟩
  .rename_i e;exact⟨_,hx,n0,λn hle=>by simp[PC.ev,hn n hle,ff e]⟩
 |ret d=>exact⟨_,hx,n0,λn hle=>by simp[PC.ev,hn n hle]⟩
def aN.loop {T:cT}{lr lo:List Nat}{a:PC}{O:Env}{Q:Out->Prop}{α:Type}(inv:α->List D->List D->Prop)(w9:α->Nat)(s0:α)(h0:inv s0 (lr.map O.r) (lo.map O.o))
 (step:∀s vr vo,inv s vr vo->aN T a (O.put lr vr lo vo) (iW (λO'=>∃s',w9 s'<w9 s/\inv s' (lr.map O'.r) (lo.map O'.o)) Q)):aN T (.loop lr lo a) O Q:=by
 have key:∀(m:Nat) (s:α) (vr vo:List D),w9 s<=m->inv s vr vo->∃x,Q x/\∃n0,∀n k,n0<=n->n0<=k->jn (a.ev (T n) n) O lr lo k vr vo=some x:=by
  intro m
  induction m with
  |zero=>
   intro s vr vo hm hi;obtain⟨x,hx,n0,hn⟩:=step s vr vo hi;cases x with
   |next O'=>obtain⟨s',ak,_⟩:=hx;omega
   |exit id O'=>
    refine⟨_,hx,n0+1,λn k hle hk=>?_⟩;obtain⟨k',rfl⟩:∃k',k=k'+1:=⟨k-1,by omega⟩
    simp[jn,hn n (by omega)]
   |ret d=>
    refine⟨_,hx,n0+1,λn k hle hk=>?_⟩;obtain⟨k',rfl⟩:∃k',k=k'+1:=⟨k-1,by omega⟩
    simp[jn,hn n (by omega)]
  |succ m ih=>
   intro s vr vo hm hi;obtain⟨x,hx,n0,hn⟩:=step s vr vo hi;cases x with
   |next O'=>
    obtain⟨s',ak,dG⟩:=hx;obtain⟨y,hy,n1,h1⟩:=ih s' _ _ (by omega) dG;refine⟨y,hy,max n0 n1+1,λn k hle hk=>?_⟩;obtain⟨k',rfl⟩:∃k',k=k'+1:=⟨k-1,by omega⟩
    simp[jn,hn n (by omega),h1 n k' (by omega) (by omega)]
   |exit id O'=>
    refine⟨_,hx,n0+1,λn k hle hk=>?_⟩;obtain⟨k',rfl⟩:∃k',k=k'+1:=⟨k-1,by omega⟩
    simp[jn,hn n (by omega)]
   |ret d=>
    refine⟨_,hx,n0+1,λn k hle hk=>?_⟩;obtain⟨k',rfl⟩:∃k',k=k'+1:=⟨k-1,by omega⟩
    simp[jn,hn n (by omega)]
 obtain⟨x,hx,n0,hn⟩:=key (w9 s0) s0 _ _ (bj _) h0;exact⟨x,hx,n0,λn hle=>by simp only[PC.ev];exact hn n n hle hle⟩
def vY (O:Env)(lo:List Nat)(rt:Option PE)(K:List D->Prop)(Q:Out->Prop):Out->Prop
 |.next O'=>K (lo.map O'.o)
 |.exit id O'=>if id=di then ∃e,rt=some e/\Q (.ret (e.ev (O.put [] [] lo (lo.map O'.o)))) else Q (.exit id (O.put [] [] lo (lo.map O'.o)))
 |.ret _=>False
def aN.each {T:cT}{e:PE}{ps lo:List Nat}{rt:Option PE}{a:PC}{O:Env}{Q:Out->Prop}(xs:List D)(he:(e.ev O).l=xs)(inv:Nat->List D->Prop)(h0:inv 0 (lo.map O.o))
 (step:∀k x vo,xs[k]?=some x->inv k vo->aN T a (O.put ps (partsOf ps x) lo vo) (vY O lo rt (inv (k+1)) Q)) (done:∀vo,inv xs.length vo->Q (.next (O.put [] [] lo vo))):aN T (.each e ps lo rt a) O Q:=by
 have key:∀(r k:Nat) (vo:List D),k+r=xs.length->inv k vo->∃x,Q x/\∃n0,∀n,n0<=n->jD (a.ev (T n) n) O ps lo rt (xs.drop k) vo=some x:=by
  intro r
  induction r with
  |zero=>
   intro k vo hk hi;have:xs.drop k=[]:=by rw[Z5];omega
   obtain rfl:k=xs.length:=by omega
   exact⟨_,done vo hi,0,λn _=>by rw[this];rfl⟩
  |succ r ih=>
   intro k vo hk hi;have ak:k<xs.length:=by omega
   rw[alq ak];obtain⟨y,hy,n0,hn⟩:=step k xs[k] vo (bI ak) hi;cases y with
   |next O'=>
    obtain⟨z,hz,n1,h1⟩:=ih (k+1) _ (by omega) hy;exact⟨z,hz,max n0 n1,λn hle=>by simp only[jD,hn n (by omega)];exact h1 n (by omega)⟩
   |exit id O'=>
    simp only[vY] at hy;split at hy
    .rename_i cX;obtain⟨e,h1,h2⟩:=hy;exact⟨_,h2,n0,λn hle=>by subst cX;simp[jD,hn n hle,h1]⟩
    .rename_i cX;exact⟨_,hy,n0,λn hle=>by simp[jD,hn n hle,ff cX]⟩
   |ret d=>exact hy.elim
 obtain⟨x,hx,n0,hn⟩:=key xs.length 0 _ (by omega) h0;exact⟨x,hx,n0,λn hle=>by simp only[PC.ev,he];exact hn n hle⟩
def ahd {α:Type}:∀(l:List α),∃L:List (List α),∀ys,ys∈L↔ys.Perm l
 |[]=>⟨[[]],λys=>by simp⟩
 |x::l=>by
  obtain⟨L,hL⟩:=ahd l;refine⟨L.flatMap λys=>(List.range (ys.length+1)).map λi=>ys.take i++x::ys.drop i,λzs=>?_⟩;simp only[lF,dW,cw];constructor
  .rintro⟨ys,hy,i,_,rfl⟩;have h1:=(hL ys).1 hy;refine(List.perm_middle).trans (.cons x ?_);rw[Pn];exact h1
  .intro h;have hx:x∈zs:=h.symm.subset (dZ ..);obtain⟨s,t,rfl⟩:=Z3 hx;refine⟨s++t,(hL _).2 ?_,s.length,by simp;omega,by simp⟩;exact(List.perm_cons x).1 ((List.perm_middle).symm.trans h)
def aN.meach {T:cT}{J:Nat}{ps dC lo:List Nat}{a:PC}{O:Env}{Q:Out->Prop}(es:List (D×D))(he:O.o J=.tup [.list [],.map es])(inv:List D->List D->Prop)(h0:inv [] (lo.map O.o))
 (step:∀done x rest vo,(done++x::rest).Perm (jr (.map es))->inv done vo->aN T a ((O.put ps (dC.map x.tget) lo vo).setO J (.tup [.list (done++[x]),.map es])) (λy=>∃O',y=.next O'/\inv (done++[x]) (lo.map O'.o)))
 (last:∃vo,(∀done,done.Perm (jr (.map es))->∀tF,inv done tF->tF=vo)/\Q (.next (O.put [] [] lo vo))):aN T (.meach J ps dC lo a) O Q:=by
 obtain⟨vo,hl,hQ⟩:=last;have key:∀(xs done:List D) (vs:List D),(done++xs).Perm (jr (.map es))->inv done vs->∃n0,∀n,n0<=n->pW (a.ev (T n) n) O J (.map es) ps dC lo xs done vs=some vo:=by
  intro xs
  induction xs with
  |nil=>intro done vs hp hi;exact⟨0,λn _=>by rw[hl done (by simpa using hp) vs hi];rfl⟩
  |cons x xs ih=>
   intro done vs hp hi;obtain⟨y,⟨O',rfl,dG⟩,n0,hn⟩:=step done x xs vs hp hi;obtain⟨n1,h1⟩:=ih (done++[x]) _ (by simpa using hp) dG;exact⟨max n0 n1,λn hle=>by simp only[pW,hn n (by omega)];exact h1 n (by omega)⟩
 have nX:∀(L:List (List D)),(∀ys,ys∈L->ys.Perm (jr (.map es)))->∃n0,∀n,n0<=n->∀ys,ys∈L->pW (a.ev (T n) n) O J (.map es) ps dC lo ys [] (lo.map O.o)=some vo:=by
  intro L
  induction L with
  |nil=>intro _;exact⟨0,λn _ ys hy=>by cases hy⟩
  |cons y L ih=>
   intro hL;obtain⟨n0,fE⟩:=ih λys hy=>hL ys (dV _ hy);obtain⟨n1,h1⟩:=key y [] _ (by simpa using hL y (dZ ..)) h0;refine⟨max n0 n1,λn hle ys hy=>?_⟩;rcases cU.1 hy with e|hy
   .subst e;exact h1 n (by omega)
   .exact fE n (by omega) ys hy
 obtain⟨L,hL⟩:=ahd (jr (.map es));obtain⟨n0,hn⟩:=nX L λys hy=>(hL ys).1 hy;refine⟨_,hQ,n0,λn hle=>?_⟩;simp only[PC.ev,Df];refine⟨vo,⟨by rw[he];rfl,λys hy=>?_⟩,rfl⟩;rw[he] at hy ⊢;exact hn n hle ys ((hL ys).2 hy)
def bounded {Q:Nat->Nat->Prop}:∀(L:Nat),(∀m,m<=L->∃n0,∀n,n0<=n->Q m n)->∃n0,∀n,n0<=n->∀m,m<=L->Q m n
 |0,h=>by
  obtain⟨n0,hn⟩:=h 0 (bj _)
  exact⟨n0,λn hle m hm=>by (obtain rfl:m=0:=by omega);exact hn n hle⟩
 |L+1,h=>by
  obtain⟨n0,hn⟩:=bounded L λm hm=>h m (by omega);obtain⟨n1,h1⟩:=h (L+1) (bj _);refine⟨max n0 n1,λn hle m hm=>?_⟩;by_cases e:m=L+1
  .subst e;exact h1 n (by omega)
  .exact hn n (by omega) m (by omega)
def ah.of_pc {tab:Nat->Option PC}{ext:Nat->Option (aQ->List D->Option D)}{f:Nat}{pc:PC}{ds:List D}{d:D}(hx:ext f=none)(ht:tab f=some pc)(h:aN (fP tab ext) pc (lL ds) (λx=>x=.ret d)):ah (fP tab ext) f ds d:=by
 obtain⟨x,rfl,n0,hn⟩:=h;refine⟨n0+1,λn hle=>?_⟩;obtain⟨k,rfl⟩:∃k,n=k+1:=⟨n-1,by omega⟩
 simp[fP,hx,ht,hn k (by omega)]
def ah.of_ext {tab:Nat->Option PC}{ext:Nat->Option (aQ->List D->Option D)}{f:Nat}{g:aQ->List D->Option D}{ds:List D}{d:D}(hx:ext f=some g)(h:∃n0,∀n,n0<=n->g (fP tab ext n) ds=some d):ah (fP tab ext) f ds d:=by
 obtain⟨n0,hn⟩:=h;refine⟨n0+1,λn hle=>?_⟩;obtain⟨k,rfl⟩:∃k,n=k+1:=⟨n-1,by omega⟩
 simp[fP,hx,hn k (by omega)]
def I5 (T:cT)(xs:List D)(m:Nat):cT:=λn=>yldΦ (T n) xs m
def ah.yld {T:cT}{xs:List D}{m f:Nat}{ds:List D}{d:D}(h:ah T f ds d)(hf:f≠nL):ah (I5 T xs m) f ds d:=by
 obtain⟨n0,hn⟩:=h;exact⟨n0,λn hle=>by simp[I5,yldΦ,hf,hn n hle]⟩
def ah.answer {T:cT}{xs l:List D}{m i:Nat}(hl:l=xs.take (i+1))(hi:i<xs.length)(hm:i<=m):ah (I5 T xs m) nL [.list l] (.v (.bool (decide (i<m)))):=by
 subst hl;refine⟨0,λn _=>?_⟩;have h1:(xs.take (i+1)).length=i+1:=by rw[eN];omega
 simp only[I5,yldΦ,if_true,h1];rw[if_pos ⟨by omega,by omega,trivial⟩];rfl
def ah.of_it {tab:Nat->Option PC}{ext:Nat->Option (aQ->List D->Option D)}{f:Nat}{pc:PC}{J k:Nat}{spec:List D->List D}{ds:List D}(hx:ext f=some (GI pc J k spec))(hk:∀x,x∈spec ds->∃ds',x=.tup ds'/\ds'.length=k)
 (h:∀m,m<=(spec ds).length->aN (I5 (fP tab ext) (spec ds) m) pc (BY J ds) (λx=>x=.ret (.list ((spec ds).take (m+1))))):ah (fP tab ext) f ds (.list (spec ds)):=by
 refine ah.of_ext hx ?_
 obtain⟨n0,hn⟩:=bounded (Q:=λm n=>pc.ev (yldΦ (fP tab ext n) (spec ds) m) n (BY J ds)=some (.ret (.list ((spec ds).take (m+1))))) (spec ds).length (λm hm=>by
  obtain⟨x,rfl,n0,hn⟩:=h m hm;exact⟨n0,hn⟩)
 refine⟨n0,λn hle=>?_⟩;unfold GI;rw[if_pos];exact⟨λm hm=>⟨n,hn n hle m hm⟩,hk⟩
def ah.det {T:cT}{f:Nat}{ds:List D}{d d':D}(h:ah T f ds d)(k:ah T f ds d'):d=d':=by
 obtain⟨n0,hn⟩:=h;obtain⟨n1,h1⟩:=k;have:=(hn (max n0 n1) (by omega)).symm.trans (h1 (max n0 n1) (by omega));exact vM this
def ah.fnOK {C:Ctx}{tab:Nat->Option PC}{ext:Nat->Option (aQ->List D->Option D)}(h:TabOK C tab ext){f:Nat}{s:Sig}{ds:List D}{d:D}(hs:C.sig f=some s)(hr:ah (fP tab ext) f ds d)(hm:pM s.mode=false:=by rfl):gN C f s ds d:=by
 obtain⟨n0,hn⟩:=hr;exact((aam h n0).1 f ds d (hn n0 (bj _)) s hs).1 hm
def Le (Z Ψ:aQ):Prop:=∀f ds d,Z f ds=some d->Ψ f ds=some d
def Env.setR_r (O:Env)(t u:Nat)(d:D):(O.setR t d).r u=if u=t then d else O.r u:=by simp only[Env.setR,fY]
def Env.setO_o (O:Env)(t u:Nat)(d:D):(O.setO t d).o u=if u=t then d else O.o u:=by simp only[Env.setO,fY]
def Env.join_r (O O':Env)(lr lo:List Nat)(u:Nat):(O.join lr lo O').r u=if u∈lr then O'.r u else O.r u:=by simp only[Env.join,Env.put,uT]
def Env.join_o (O O':Env)(lr lo:List Nat)(u:Nat):(O.join lr lo O').o u=if u∈lo then O'.o u else O.o u:=by simp only[Env.join,Env.put,uT]
def Nk (f:Nat->D)(i:Nat)(is:List Nat)(x:D)(xs:List D)(u:Nat):putL f (i::is) (x::xs) u=if u=i then x else putL f is xs u:=by simp only[putL,fY]
def Nl (f:Nat->D)(xs:List D)(u:Nat):putL f [] xs u=f u:=by cases xs<;>rfl
def asn (g:Nat×Bool)(gs:List (Nat×Bool))(O:Env):holds (g::gs) O=((O.r g.1).b==g.2&&holds gs O):=rfl
def D.tget_tup (x:List D)(i:Nat):(D.tup x).tget i=x.getD i .none:=rfl
def D.c_agg (x:List D)(i:Nat):(D.agg x).c i=x.getD i .none:=rfl
end Cx
