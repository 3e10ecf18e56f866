/-
  Shared texts of this claim.
-/
import Derived.Test.YtopjnikcppafdaaGreatDoorMAG
import Derived.Below
import Derived.ChangeSame
import Derived.WalkKit
import Derived.ProofKit
import Derived.OpenShut
import Derived.Carry
import Derived.JoinedCond
set_option linter.defProp false
set_option linter.unusedSimpArgs false
set_option linter.unusedVariables false
noncomputable section
namespace Cx
open Go Go.RowKit
def ab6 (m:Nat)(s:Sig):Snap:=⟨s.args.map .dat++List.replicate (m-s.args.length) .none,[]⟩
def l7 (ds:List D):Env:=⟨λt=>ds.getD t .none,λ_=>.none⟩
def vI (C:Ctx)(fn:Func)(s:Sig)(ids:List Nat)(S0:Snap):Option PC:=
 match fn.body with
 |some c=>
  (comp C fn s fn.ntmps ids (Ol C fn.ntmps ids) false c S0).bind λr=>
    match r.out with
    |none=>some r.pc
    |some S=>(zT C fn s (S.st ids)).map λe=>.seq r.pc (.ret e)
 |none=>none
def Rc (m:Nat)(shs:List Sh)(obs:List (Nat×Ob))(ids:List Nat):Snap:=⟨shs++List.replicate (m-shs.length) .none,ids.map (ei obs)⟩
def K6 (shs:List Sh)(obs:List (Nat×Ob))(ds:List D):Env:=lQ obs ds (ds.drop shs.length)
def Gy (l:List Nat):Nat->List Sh->Bool
 |_,[]=>true
 |t,s::ss=>(qg s|| !fK l t)&&Gy l (t+1) ss
def Ds:List (Nat×Ob)->Nat->List PI
 |[],_=>[]
 |x::l,k=>Ds l (k+1)++[.setO x.1 (.r k)]
def ajd {Z:aS}:∀(l:List (Nat×Ob)) (k:Nat) (O:Env) (ds:List D),(∀i,O.r (k+i)=ds.getD i .none)->(∀j,O.o j=.none)->PI.runs Z (Ds l k) O=some ⟨O.r,λj=>oV l ds j⟩
 |[],k,O,ds,h,ho=>by
  simp only[Ds,PI.runs]
  congr 1
  cases O with|mk r o=>congr 1;funext j;exact ho j
 |x::l,k,O,ds,h,ho=>by
  simp only[Ds,tX]
  rw[ajd l (k+1) O ds.tail (λi=>by
   have:=h (i+1);rw[qU,Av 1 i,this];cases ds<;>simp) ho]
  simp only[pE,PI.runs,PI.run,PE.ev,Env.setO]
  congr 1
  congr 1
  funext j;rw[fp];have h0:=h 0;simp only[iU] at h0;cases ds with
  |nil=>
   have e:∀m j,oV m [] j=D.none:=λm j=>by cases m<;>rfl
   rw[h0];split<;>simp[e]
  |cons d ds=>
   simp only[oV,List.tail_cons];by_cases hj:j=x.1
   .subst hj;rw[if_pos rfl,ki,h0];rfl
   .rw[if_neg hj,fy (λe=>hj e.symm)];rfl
def aw9 {Z:aS}(shs:List Sh)(obs:List (Nat×Ob))(ds:List D):PI.runs Z (Ds obs shs.length) (l7 ds)=some (K6 shs obs ds):=by
 rw[ajd obs shs.length (l7 ds) (ds.drop shs.length) (λi=>by simp[l7,aE]) (λj=>rfl)];rfl
def Jr (fn:Func):List Nat:=match fn.body with|some c=>cD c|none=>[]
def wP:List (Nat×Ob)->Bool
 |[]=>true
 |x::l=>(match x.2 with|.tr=>false|_=>true)&&wP l
def mU (C:Ctx)(fn:Func)(s:Sig)(ids:List Nat):Option PC:=
 match C.yl with
 |none=>
  match s.mode with
  |.ob shs obs=>bif Nat.ble shs.length fn.ntmps&&Gy (Jr fn) 0 shs&&shs.all vc&&wP obs then(vI C fn s ids (Rc fn.ntmps shs obs ids)).map λpc=>.seq (.is (Ds obs shs.length)) pc else none
  |_=>bif Nat.ble s.args.length fn.ntmps then vI C fn s ids (ab6 fn.ntmps s) else none
 |some _=>none
def ae0:∀(ids:List Nat) (j:Nat),dy ids [] j=.dead
 |[],_=>rfl
 |_::_,_=>rfl
def QR {C:Ctx}{Z:aS}(aY:dN C)(hΦ:du C Z)(dv:gP C Z){fn:Func}{s:Sig}{ids:List Nat}{S0:Snap}{pc:PC}{c:Code}(hb:fn.body=some c)(hc:vI C fn s ids S0=some pc){w0:World}{σ0:Base}(kz:σ0.fin)(hC:CtxOK C σ0)(hY:uv C Z w0 σ0)
 {N:Nat} {O:Env} {d:D} {a:Act} {w:World} (hn:a.tmps.size=fn.ntmps) (hg:Good C w0 σ0 (S0.st ids) O (λ_=>False) a w) (he:pc.ev Z N O=some (.ret d)):
 c.wpIn (FR none) 0 C.P (λe a' w'=>(e=.normal\/e=.ret)/\sM C w0 σ0 fn s d a'.tmps a'.defers w'/\SameBut (λt=>t∈cD c) a a') a w:=by
 unfold vI at hc;rw[hb] at hc;simp only[az] at hc;obtain⟨r,hr,hc⟩:=hc;have SY:=λx hx=>amg (fn:=fn) (s:=s) (N:=N) dv (awG (n:=fn.ntmps) (ids:=ids) aY hΦ) c false S0 r hr none w0 σ0 (λt=>t∈cD c) O x a w (λ_=>⟨rfl,kz⟩) hC hY (λ_ h=>h) hn hg hx;split at hc
 .rename_i kR;cases hc;refine wpIn_mono (SY (.ret d) he) λe a' w' ho=>?_;cases e with
  |normal=>obtain⟨_,_,h,_⟩:=ho;cases h
  |exit id=>obtain⟨_,_,h,_⟩:=ho;cases h
  |ret=>obtain⟨d',h,h2⟩:=ho;cases h;exact⟨.inr rfl,h2⟩
  |_=>exact ho.elim
 .rename_i S kR;simp only[aB] at hc;obtain⟨pe,oM,rfl⟩:=hc;simp only[PC.ev] at he;split at he
  .rename_i ρ1 h1;cases he;refine wpIn_mono (SY (.next ρ1) h1) λe a' w' ho=>?_;cases e with
   |normal=>
    obtain⟨ρ2,S2,e1,e2,rL,iz⟩:=ho;cases e1;rw[kR] at e2;cases e2;obtain⟨σ2,own,hv,hi⟩:=iz;exact⟨.inl rfl,Inv.retD hC (λ_=>rfl) kz oM _ hi rfl,rL⟩
   |exit id=>obtain⟨_,_,h,_⟩:=ho;cases h
   |ret=>obtain⟨d',h,h2⟩:=ho;cases h
   |_=>exact ho.elim
  .rename_i au;refine wpIn_mono (SY (.ret d) he) λe a' w' ho=>?_;cases e with
   |normal=>obtain⟨_,_,h,_⟩:=ho;cases h
   |exit id=>obtain⟨_,_,h,_⟩:=ho;cases h
   |ret=>obtain⟨d',h,h2⟩:=ho;cases h;exact⟨.inr rfl,h2⟩
   |_=>exact ho.elim
def sM.leaves {C:Ctx}{w0:World}{σ0:Base}{fn:Func}{s:Sig}{d:D}{tmps:Array Value}{R:Ending->World->Prop}(hR:∀w',PB C w0 σ0 fn s d {tmps:=tmps,defers:=[]} w'->∃v,(results fn tmps).run C.P w'=.ok v w'/\R (.returned v) w'):
 ∀(ds:List Deferred) (w:World),sM C w0 σ0 fn s d tmps ds w->LeavesInM (FR none) 0 C.P fn tmps R ds .returning w
 |[],w,h=>hR w h
 |x::ds,w,⟨D,h1,h2,h3⟩=>⟨by simp,.inl ⟨D,_,h1,run_takeDeferred h2,sM.leaves hR ds _ h3⟩⟩
def anF {C:Ctx}{V:Im}{w:World}{args:Array Value}{ds:List D}{s:Sig}{m:Nat}{ids:List Nat}(ar:V.ok w)(ha:qL C V s.args args.toList ds):
 Good C w (Base.mk0 V w.heap.size) ((ab6 m s).st ids) (l7 ds) (λ_=>False) {tmps:=args++Array.replicate (m-args.size) undef,defers:=[]} w:=by
 obtain⟨h1,h2,h3⟩:=ha;have aI:args.size=s.args.length:=by simpa using h1
 refine⟨V,λ_=>none,λ_=>undef,trivial,ar,.refl V,λ_ k e=>(ar.m k _ e).lt,λ_ _ _ h=>.inl h,λ_ _ h=>.inl h,.refl _ _,aX _,(λk j h=>by cases h),λt=>?_,λj=>?_,λt gs s' e=>absurd e (Snap.noOpt _ _ t gs s'),
  .none,λ_=>False,λ_=>False,⟨⟨λ_=>id,λ_=>id⟩,(λk j h=>by cases h),λ_ _ _ _=>id,λ_ _ _=>id,λ_ _ _=>id⟩,λj hj=>?_⟩
 .show aG C _ _ V _ (cJ ((s.args.map Sh.dat++List.replicate (m-s.args.length) Sh.none).getD t .none)) _ _;rw[aE];by_cases ht:t<s.args.length
  .rw[nP (by simpa using ht),bX,aU ht];simp only[kj,kM,cJ];have:=h3 t _ (aU ht);have e1:(args++Array.replicate (m-args.size) undef).getD t undef=args.toList.getD t undef:=by
        simp only[fe,aE];rw[aac (by omega)];simp
   show aG C _ _ V _ (.dat _) ((args++Array.replicate (m-args.size) undef).getD t undef) (ds.getD t .none);rw[e1];exact this
  .rw[nQ (by simpa using ht),aaw];split<;>trivial
 .show bY C _ _ V _ _ w _ j (dy ids [] j);rw[ae0];trivial
 .change dy ids [] j=.tr at hj;rw[ae0] at hj;cases hj
def QS {C:Ctx}{Z:aS}(aY:dN C)(hΦ:du C Z)(dv:gP C Z){f:Nat}{fn:Func}{s:Sig}{ids:List Nat}{pc:PC}(hf:C.P.funcs[f]?=some fn)(hc:mU C fn s ids=some pc){N:Nat}{ds:List D}{d:D}(cR:rQ s.mode=false)
 (he:pc.ev Z N (l7 ds)=some (.ret d)):ff C f s ds d:=by
 intro V w args ar hC ha;unfold mU at hc;split at hc
 case h_2=>cases hc
 rename_i mq;split at hc
 case h_1=>rename_i e;rw[e] at cR;cases cR
 cases hle:Nat.ble s.args.length fn.ntmps<;>simp only[hle,zyy,zyx] at hc
 .cases hc
 have oK:=jI hle;have aI:args.size=s.args.length:=by simpa using ha.1
 cases hb:fn.body with
 |none=>unfold vI at hc;rw[hb] at hc;cases hc
 |some c=>
 refine(callsIn_wide (n:=0)).1 (callsIn_of_wp_marks (F:=FR none) hf hb trivial ?_);have hg:=anF (C:=C) (m:=fn.ntmps) (ids:=ids) ar ha;have hn:(args++Array.replicate (fn.ntmps-args.size) undef).size=fn.ntmps:=by simp;omega
 refine wpIn_mono (QR aY hΦ dv hb hc (σ0:=Base.mk0 V w.heap.size) trivial hC (λJ ys e=>by rw[mq] at e;cases e) hn hg he) λe a' w' ho=>?_
 have main:=sM.leaves (R:=λe w'=>∃v V',e=.returned v/\V.le V'/\V'.ok w'/\Below w.heap.size w w'/\
  (∀k o x,V'.c k o=some x->V.c k o=some x\/w.heap.size<=k)/\(∀k x,V'.m k=some x->V.m k=some x\/w.heap.size<=k)/\lx C s V' w w' v d) (λw2 Gb=>by
  obtain⟨v,V',_,h2,h3,h4,h5,h6,h7,h8⟩:=Gb;exact⟨v,h2,v,V',rfl,h3,h4,h5,h6,h7,h8⟩) _ _ ho.2.1
 rcases ho.1 with rfl|rfl<;>exact main
def Base.mkO (V:Im)(own:Nat->Option Nat)(w:World)(cx:Nat->Prop):Base:=
 {V with
  B:=0
  fin:=True
  F:=λ_ fx kN w'=>(∀k,fx k↔(k<w.heap.size/\own k=none))/\(∀k,kN k↔(fx k/\cx k))/\w.heap.size<=w'.heap.size/\∀k,fx k->w'.heap[k]?=w.heap[k]?
  lt:=λt' fx cx w' h k hk=>lu ((h.1 k).1 hk).1 h.2.2.1
  sub:=λt' fx cx w' h k hk=>((h.2.1 k).1 hk).1
  keep:=λt' fx cx w' lj h hb hs=>⟨h.1,h.2.1,gm h.2.2.1 hb.size,λk hk=>(hs k hk).trans (h.2.2.2 k hk)⟩}
def aeD {l:List Nat}:∀{shs:List Sh} {k:Nat},Gy l k shs=true->∀(t:Nat) (s:Sh),shs[t]?=some s->qg s=false->(k+t)∉l
 |[],k,_,t,s,h,_=>by simp at h
 |x::shs,k,hk,t,s,h,hd=>by
  simp only[Gy,ao,kL,kK] at hk;cases t with
  |zero=>
   simp at h;subst h;rcases hk.1 with h1|h1
   .rw[hd] at h1;cases h1
   .intro hm;rw[iU] at hm;rw[(rW _ _).2 hm] at h1;cases h1
  |succ t=>
   simp at h;have:=aeD hk.2 t s h hd
   rwa [qU,Av 1 t] at this
def TK (obs:List (Nat×Ob))(j:Nat):∀ids:List Nat,dy ids (ids.map (ei obs)) j=.dead\/dy ids (ids.map (ei obs)) j=ei obs j
 |[]=>.inl rfl
 |i::is=>by
  simp only[iS,dy];cases hb:Nat.beq i j
  .exact TK obs j is
  .right;rw[ay hb];rfl
def afA:∀{l:List (Nat×Ob)},wP l=true->∀x,x∈l->x.2≠.tr
 |[],_,x,hx=>by cases hx
 |y::l,h,x,hx=>by
  simp only[wP,ao] at h;rcases cB.1 hx with rfl|hx
  .intro e;rw[e] at h;cases h.1
  .exact afA h.2 x hx
def afB:∀{l:List (Nat×Ob)},wP l=true->∀j,ei l j≠.tr
 |[],_,j,e=>by cases e
 |x::l,h,j,e=>by
  simp only[wP,ao] at h;simp only[ei] at e;cases hb:Nat.beq x.1 j<;>simp only[hb,zyy,zyx] at e
  .exact afB h.2 j e
  .have h1:=h.1;rw[e] at h1;cases h1
def anE {C:Ctx}{V:Im}{own:Nat->Option Nat}{hv:Nat->Value}{w w0:World}{args:Array Value}{cx:Nat->Prop}{shs:List Sh}{obs:List (Nat×Ob)}{ds:List D}{m:Nat}{ids:List Nat}(hN:w0.heap.size<=w.heap.size)(Ft:Below 0 w0 w)(ar:V.ok w)(bo:∀k,V.m k≠some cC)(aI:args.size=shs.length)
 (bp:∀k j,own k=some j->w0.heap.size<=k/\k<w.heap.size/\(∀o,V.c k o=none)/\V.m k=none) (dR:∀k,cx k->k<w.heap.size/\own k=none/\(∀o,V.c k o=none)/\V.m k=none) (uW:wP obs=true) (fJ:shs.all vc=true)
 (h1:∀t,aG C (fi shs obs) (K6 shs obs ds) V hv (shs.getD t .none) (args.getD t undef) (ds.getD t .none)) (h2:∀j,bY C (fi shs obs) (K6 shs obs ds) V own hv w w0.heap.size j (ei obs j)):
 Good C w0 (Base.mkO V own w cx) ((Rc m shs obs ids).st ids) (K6 shs obs ds) (λ_=>False) {tmps:=args++Array.replicate (m-args.size) undef,defers:=[]} w:=by
 have th:Compat (fi shs obs) hv ((Rc m shs obs ids).st ids) hv:=⟨λ_=>aX _,λ_ _=>rfl⟩
 refine⟨V,own,hv,trivial,ar,.refl V,λ_ k e=>absurd e (bo k),λ_ _ _ h=>.inl h,λ_ _ h=>.inl h,Ft,jK _,bp,λt=>?_,λj=>?_,λt gs s' e=>absurd e (Snap.noOpt _ _ t gs s'),
  .none,(λk=>k<w.heap.size/\own k=none),cx,⟨⟨λ_=>Iff.rfl,λk=>⟨λh=>⟨⟨(dR k h).1,(dR k h).2.1⟩,h⟩,λh=>h.2⟩,aX _,λ_ _=>rfl⟩,(λk j h hf=>by rw[hf.2] at h;cases h),(λk o x e hc=>by rw[(dR k hc).2.2.1 o] at e;cases e),(λk x e hc=>by rw[(dR k hc).2.2.2] at e;cases e),λk e=>absurd e (bo k)⟩,λj hj=>?_⟩
 .show aG C _ _ V _ (cJ ((shs++List.replicate (m-shs.length) Sh.none).getD t .none)) _ _;refine O8 ?_;rw[aE];by_cases ht:t<shs.length
  .rw[nP ht];have:=h1 t;rw[aE (l:=shs)] at this;have e1:(args++Array.replicate (m-args.size) undef).getD t undef=args.getD t undef:=by
        simp only[fe];rw[aac (by omega)]
   show aG C _ _ V _ _ ((args++Array.replicate (m-args.size) undef).getD t undef) (ds.getD t .none);rw[e1];refine aG.mono' (.refl V) th (λgs s' e=>?_) this;have hp:=cN.1 fJ _ (bU ht);rw[aU ht] at e;simp only[kM] at e;rw[e] at hp;cases hp
  .rw[nQ (by omega),aaw];split<;>trivial
 .show bY C _ _ V _ _ w _ j (dy ids (ids.map (ei obs)) j);rcases TK obs j ids with e|e
  .rw[e];trivial
  .rw[e];exact(h2 j).mono (.refl V) th rfl rfl (λk hk=>⟨hk,rfl⟩)
 .change dy ids (ids.map (ei obs)) j=.tr at hj;rcases TK obs j ids with e|e
  .rw[e] at hj;cases hj
  .rw[e] at hj;exact absurd hj (afB uW j)
def K0 (w:World)(N:Nat):World:={w with heap:=w.heap.extract 0 N}
def ama {C:Ctx}{Z:aS}(aY:dN C)(hΦ:du C Z)(dv:gP C Z){f:Nat}{fn:Func}{s:Sig}{ids:List Nat}{pc:PC}(hf:C.P.funcs[f]?=some fn)(hc:mU C fn s ids=some pc){N:Nat}{ds:List D}{d:D}{shs:List Sh}{obs:List (Nat×Ob)}(cR:s.mode=.ob shs obs)
 (he:pc.ev Z N (l7 ds)=some (.ret d)):ej C f shs obs s.res ds d:=by
 unfold mU at hc;split at hc
 case h_2=>cases hc
 rename_i mq;rw[cR] at hc;simp only at hc;cases hle:(Nat.ble shs.length fn.ntmps&&Gy (Jr fn) 0 shs&&shs.all vc&&wP obs)<;>simp only[hle,zyy,zyx] at hc
 .cases hc
 simp only[ao] at hle;obtain⟨⟨⟨l1,l2⟩,l3⟩,l4⟩:=hle;refine ej.of (afA l4) ?_;intro B V own hv w args cx _ ar hC bo hB aI bp dR h1 h2;simp only[aB] at hc;obtain⟨pc,hc,rfl⟩:=hc;simp only[PC.ev,aw9,kj] at he;have oK:=jI l1;cases hb:fn.body with
 |none=>unfold vI at hc;rw[hb] at hc;cases hc
 |some c=>
 have bn:Jr fn=cD c:=by unfold Jr;rw[hb]
 rw[bn] at l2;refine(callsIn_wide (n:=0)).1 (callsIn_of_wp_marks (F:=FR none) hf hb trivial ?_);have ni:(K0 w B).heap.size=B:=by simp[K0];omega
 have Ft:Below 0 (K0 w B) w:=⟨rfl,rfl,rfl,by rw[ni];exact hB,λk hk=>by omega⟩
 have hg:=anE (C:=C) (m:=fn.ntmps) (ids:=ids) (w0:=K0 w B) (cx:=cx) (by rw[ni];exact hB) Ft ar bo aI (by rw[ni];exact bp) dR l4 l3 h1 (by rw[ni];exact h2);have hn:(args++Array.replicate (fn.ntmps-args.size) undef).size=fn.ntmps:=by simp;omega
 refine wpIn_mono (QR aY hΦ dv hb hc (σ0:=Base.mkO V own w cx) trivial hC (λJ ys e=>by rw[mq] at e;cases e) hn hg he) λe a' w' ho=>?_;obtain⟨rH,Gb,iJ⟩:=ho
 have main:=sM.leaves (R:=λe w'=>∃v V' own' hv' dr os,e=.returned v/\d=.tup (dr::os)/\os.length=obs.length/\V.le V'/\V'.ok w'/\Below 0 w w'/\
  (∀k,k<w.heap.size->own k=none->w'.heap[k]?=w.heap[k]?)/\
  (∀k o x,V'.c k o=some x->(V.c k o=some x\/B<=k)/\¬cx k)/\(∀k x,V'.m k=some x->(V.m k=some x\/B<=k)/\¬cx k)/\(∀k,V'.m k=some cC->B<=k->k<w.heap.size->own k≠none)/\
  (∀k j,own' k=some j->B<=k/\k<w'.heap.size/\(∀o,V'.c k o=none)/\V'.m k=none/\(k<w.heap.size->own k≠none))/\
  (∀(t:Nat) (sh:Sh),shs[t]?=some sh->qg sh=false->aG C (fi shs obs) (lQ obs ds os) V' hv' sh (args.getD t undef) (ds.getD t .none))/\
  (∀j,bY C (fi shs obs) (lQ obs ds os) V' own' hv' w' B j (ei obs j))/\Rep C.cap V' s.res v dr) (λw2 hr=>by
  obtain⟨v,V',⟨own',t,fx,kN,dS,_,L2⟩,ak,iI,SD,pX,dp,cQ,_⟩:=hr;obtain⟨hv',dr,os,e1,e2,e3,e4,e5,e6⟩:=L2 shs obs cR;obtain⟨f1,f2,f3,f4⟩:=dS.F;have ac6:∀k,cx k->kN k:=λk hk=>(f2 k).2 ⟨(f1 k).2 ⟨(dR k hk).1,(dR k hk).2.1⟩,hk⟩;rw[ni] at dp cQ e3 e5
  refine⟨v,ak,v,V',own',hv',dr,os,rfl,e1,e2,iI,SD,⟨pX.os,pX.tape,pX.output,f3,λk hk=>by omega⟩,λk hk hn=>f4 k ((f1 k).2 ⟨hk,hn⟩),λk o x e=>⟨dp k o x e,λhk=>dS.c k o x e (ac6 k hk)⟩,λk x e=>⟨cQ k x e,λhk=>dS.m k x e (ac6 k hk)⟩,
   λk e RD hk hn=>dS.d k e (by rw[ni];exact RD) ((f1 k).2 ⟨hk,hn⟩),λk j hk=>?_,λt sh hs hd=>?_,λj=>?_,e6⟩
  .obtain⟨g1,g2,g3,g4⟩:=e3 k j hk;exact⟨g1,g2,g3,g4,λaf hn=>dS.own k j hk ((f1 k).2 ⟨af,hn⟩)⟩
  .have:=e4 t sh hs hd (ds.getD t .none);have af:t<shs.length:=(eu.1 hs).1;have oL:t∉cD c:=by have:=aeD l2 t sh hs hd;simpa using this
   have ct:a'.tmps.getD t undef=args.getD t undef:=by
        rw[iJ.get t oL];simp only[fe];rw[aac (by omega)]
   simp only at this;rw[ct] at this;have hp:=cN.1 l3 _ (kh hs);exact aG.mono' (.refl V') ⟨λ_=>aX _,λ_ _=>rfl⟩ (λgs s' e=>by rw[e] at hp;cases hp) this
  .exact bY.mono (S:=fi shs obs) (S':=fi shs obs) (O:=lQ obs [] os) (O':=lQ obs ds os) (hv:=hv') (hv':=hv') (own:=own') (own':=own') (w:=w2) (w':=w2) (.refl V') ⟨λ_=>aX _,λ_ _=>rfl⟩ rfl rfl (λk hk=>⟨hk,rfl⟩) (e5 j)) _ _ Gb
 rcases rH with rfl|rfl<;>exact main
def ab5 (m:Nat)(cts:List Ty)(J:Nat)(ids:List Nat):Snap:=⟨.yv::(cts.map .dat++List.replicate (m-(cts.length+1)) .none),ids.map λj=>bif Nat.beq j J then .tr else .dead⟩
def BK (J:Nat)(ds:List D):Env:=⟨λt=>(D.none::ds).getD t .none,λj=>bif Nat.beq j J then .list [] else .none⟩
def EF (C:Ctx)(fn:Func)(cts ys:List Ty)(J:Nat)(ids:List Nat):Option PC:=
 match C.yl,C.sig nL,C.cap nL with
 |none,none,none=>bif Nat.ble (cts.length+1) fn.ntmps then vI {C with yl:=some (J,ys)} fn ⟨[],.tup [],.it J⟩ ids (ab5 fn.ntmps cts J ids) else none
 |_,_,_=>none
open Classical in
def yldΦ (Z:aS)(xs:List D)(m:Nat):aS:=λf ds=>
 if f=nL then(match ds with|[.list l]=>if 0<l.length/\l.length<=m+1/\l=xs.take l.length then some (.v (.bool (decide (l.length<=m)))) else none|_=>none)
 else Z f ds
def yldΦ_at {Z:aS}{xs l ds:List D}{d:D}{m:Nat}(h:yldΦ Z xs m nL [.list (l++[.tup ds])]=some d):l.length<=m/\l=xs.take l.length/\xs[l.length]?=some (.tup ds)/\l++[.tup ds]=xs.take (l.length+1)/\d=.v (.bool (decide (l.length<m))):=by
 simp only[yldΦ,if_true] at h;split at h
 .rename_i hc;obtain⟨h1,h2,h3⟩:=hc;simp only[mM,qT,Aq,fw] at h2 h3 h;have hx:xs[l.length]?=some (.tup ds):=by
   have:(xs.take (l.length+1))[l.length]?=some (.tup ds):=by rw[<-h3];simp
   rw[fQ] at this;simpa using this
  have hl:l=xs.take l.length:=by
   have:=congrArg (List.take l.length) h3;simpa [Pt] using this
  refine⟨by omega,hl,hx,h3,?_⟩;cases h
  congr 2
 .cases h
def du.yl {C:Ctx}{Z:aS}(h:du C Z){y:Option (Nat×List Ty)}{v:Value}{xs:List D}{m:Nat}(hs:C.sig nL=none):du {C with yl:=y,yv:=v} (yldΦ Z xs m):=by
 intro f ds d e s eh;have au:f≠nL:=λe'=>by subst e';change C.sig nL=some s at eh;rw[hs] at eh;cases eh
 simp only[yldΦ,if_neg au] at e;obtain⟨h1,h2⟩:=h f ds d e s eh;exact⟨λhm V w args ar hC ha=>h1 hm V w args ar ⟨hC.glob,hC.mg⟩ ha,λshs obs hm=>(h2 shs obs hm).ctx rfl rfl rfl⟩
def mL.yl {C:Ctx}{y:Option (Nat×List Ty)}{v:Value}{f:Nat}{cts ys:List Ty}{ds xs:List D}(h:mL C f cts ys ds xs):mL {C with yl:=y,yv:=v} f cts ys ds xs:=
 λV w yv vs F fx cx m ar hC=>h V w yv vs F fx cx m ar ⟨hC.glob,hC.mg⟩
def gP.yl {C:Ctx}{Z:aS}(h:gP C Z){y:Option (Nat×List Ty)}{v:Value}{xs:List D}{m:Nat}(hs:C.cap nL=none):gP {C with yl:=y,yv:=v} (yldΦ Z xs m):=by
 intro f cs ys hc hi;have au:f≠nL:=λe'=>by subst e';change C.cap nL=some cs at hc;rw[hs] at hc;cases hc
 obtain⟨h1,h2⟩:=h f cs ys hc hi;refine⟨h1,λds d e=>?_⟩;simp only[yldΦ,if_neg au] at e;obtain⟨xs,e1,e2,e3⟩:=h2 ds d e;exact⟨xs,e1,e2,e3.yl⟩
def aap (Z:aS)(pc:PC)(J:Nat)(ds xs:List D):Prop:=∀m,m<=xs.length->∃N,pc.ev (yldΦ Z xs m) N (BK J ds)=some (.ret (.list (xs.take (m+1))))
def anD {C:Ctx}{V:Im}{σ0:Base}{w:World}{yv:Value}{vs:List Value}{ds:List D}{cts ys:List Ty}{J m:Nat}{ids:List Nat}(ar:V.ok w)(ha:qL C V cts vs ds)(hm:cts.length+1<=m)(mq:C.yl=some (J,ys))(Gp:C.yv=yv)
 (h0:σ0.toIm=V) (hB:σ0.B=0) {fx cx:Nat->Prop} (hF:σ0.F (.list []) fx cx w) (jv:∀k o x,V.c k o=some x->¬cx k) (oF:∀k x,V.m k=some x->¬cx k):
 Good C w σ0 ((ab5 m cts J ids).st ids) (BK J ds) (λ_=>False) {tmps:=#[yv]++vs.toArray++Array.replicate (m-(vs.length+1)) undef,defers:=[]} w:=by
 obtain⟨h1,h2,h3⟩:=ha
 refine⟨V,λ_=>none,λ_=>undef,trivial,ar,by rw[h0];exact .refl V,λ_ k e=>by rw[h0] at e;exact(ar.m k _ e).lt,λ_ _ _ h=>by rw[h0];exact .inl h,λ_ _ h=>by rw[h0];exact .inl h,.refl _ _,by omega,(λk j h=>by cases h),λt=>?_,λj=>?_,λt gs s' e=>absurd e (Snap.noOpt _ _ t gs s'),
  .list [],fx,cx,⟨hF,(λk j h=>by cases h),jv,oF,λk e hk=>by have:=(ar.m k _ e).lt;omega⟩,λj hj=>?_⟩
 .show aG C _ _ V _ (cJ ((Sh.yv::(cts.map Sh.dat++List.replicate (m-(cts.length+1)) Sh.none)).getD t .none)) ((#[yv]++vs.toArray++Array.replicate (m-(vs.length+1)) undef).getD t undef) ((D.none::ds).getD t .none);have ea:((#[yv]++vs.toArray++Array.replicate (m-(vs.length+1)) undef).getD t undef)=(yv::(vs++List.replicate (m-(vs.length+1)) undef)).getD t undef:=by
   rw[fe,<-py,aE];simp
  rw[ea];cases t with
  |zero=>simp only[qQ,cJ];exact Gp.symm
  |succ t=>
   simp only[DT];rw[aE];by_cases ht:t<cts.length
   .rw[nP (by simpa using ht),bX,aU ht];simp only[kj,kM,cJ];have:=h3 t _ (aU ht);have e1:(vs++List.replicate (m-(vs.length+1)) undef).getD t undef=vs.getD t undef:=by
     simp only[aE];rw[nP (by omega)]
    show aG C _ _ V _ (.dat _) _ (ds.getD t .none);rw[e1];exact this
   .rw[nQ (by simpa using ht),aaw];split<;>trivial
 .show bY C _ _ V _ _ w _ j (dy ids (ids.map λj=>bif Nat.beq j J then .tr else .dead) j);refine zh _ (λob=>bY C _ _ V _ _ w _ j ob) trivial j ?_ ids;cases Nat.beq j J<;>trivial
 .change dy ids (ids.map λj=>bif Nat.beq j J then .tr else .dead) j=.tr at hj
  have hb:=zh (λj=>bif Nat.beq j J then Ob.tr else .dead) (λob=>ob=.tr->Nat.beq j J=true) (λe=>by cases e) j (λe=>by
   cases hb:Nat.beq j J
   .rw[hb] at e;cases e
   .rfl) ids hj
  have:=ay hb;subst this;refine⟨⟨ys,mq⟩,?_⟩;show(bif Nat.beq j j then D.list [] else .none)=_;rw[ki];rfl
def amb {C:Ctx}{Z:aS}(aY:dN C)(hΦ:du C Z)(dv:gP C Z){f:Nat}{fn:Func}{cts ys:List Ty}{J:Nat}{ids:List Nat}{pc:PC}(hf:C.P.funcs[f]?=some fn)(hc:∀yv,EF {C with yv:=yv} fn cts ys J ids=some pc){ds xs:List D}
 (hr:aap Z pc J ds xs):mL C f cts ys ds xs:=by
 intro V w yv vs F fx cx m ar hC ha hm af cg rJ hF jv oF Tn;have hc:=hc yv;unfold EF at hc;split at hc
 case h_2=>cases hc
 rename_i mq hsy hcy;cases hle:Nat.ble (cts.length+1) fn.ntmps<;>simp only[hle,zyy,zyx] at hc
 .cases hc
 have oK:=jI hle;obtain⟨N,he⟩:=hr m hm;cases hb:fn.body with
 |none=>unfold vI at hc;rw[hb] at hc;cases hc
 |some c=>
 refine(callsIn_wide (n:=0)).1 (callsIn_of_wp_marks (F:=FR none) hf hb trivial ?_);obtain⟨σ0,hσ0⟩:∃σ0:Base,σ0={V with B:=0,fin:=True,F:=λt fx cx w=>(∃l,t=.list l)/\F t fx cx w,lt:=λt fx cx w h=>af t fx cx w h.2,sub:=λt fx cx w h=>cg t fx cx w h.2,keep:=λt fx cx w w' h hb hs=>⟨h.1,rJ t fx cx w w' h.2 hb hs⟩}:=⟨_,rfl⟩
 have e1:σ0.toIm=V:=by rw[hσ0]
 have e2:σ0.B=0:=by rw[hσ0]
 have e3:σ0.fin:=by rw[hσ0];trivial
 have e4:∀t fx cx w,σ0.F t fx cx w↔(∃l,t=.list l)/\F t fx cx w:=λt fx cx w=>by rw[hσ0]
 have hg:=anD (C:={C with yl:=some (J,ys),yv:=yv}) (σ0:=σ0) (w:=w) (yv:=yv) (vs:=vs) (ds:=ds) (cts:=cts) (ys:=ys) (J:=J) (m:=fn.ntmps) (ids:=ids) ar ha oK rfl rfl e1 e2 ((e4 _ _ _ _).2 ⟨⟨_,rfl⟩,hF⟩) jv oF;have aI:(#[yv]++vs.toArray).size=vs.length+1:=by simp<;>omega
 have wv:vs.length=cts.length:=ha.1;have hY:uv {C with yl:=some (J,ys),yv:=yv} (yldΦ Z xs m) w σ0:=by
  intro J' ys' e;cases e;refine⟨e2,λt fx cx w h=>((e4 _ _ _ _).1 h).1,λfc ds' d hd fx cx w1 σ1 args BX ard yC hc1 FO dp cQ=>?_⟩;obtain⟨g1,g2,g3,g4,rfl⟩:=yldΦ_at hd;rw[e1] at dp cQ;have:=Tn fc.length fx cx w1 σ1 args ds' g1 g3 (by rw[<-g2];exact((e4 _ _ _ _).1 BX).2) ard yC hc1 FO dp cQ;intro rd o a x aa ts K Q eD hv has hK;refine this rd o a x aa ts K Q eD hv has λu w2 hu=>hK u w2 ?_;obtain⟨u1,u2,u3,oC,kN,u4,u5,u6⟩:=hu;refine⟨_,rfl,u1,u2,u3,oC,kN,(e4 _ _ _ _).2 ⟨⟨_,rfl⟩,?_⟩,u5,u6⟩;rw[g4];exact u4
 have hn:(#[yv]++vs.toArray++Array.replicate (fn.ntmps-(vs.length+1)) undef).size=fn.ntmps:=by simp;omega
 rw[aI];refine wpIn_mono (QR (C:={C with yl:=some (J,ys),yv:=yv}) aY (hΦ.yl hsy) (dv.yl hcy) hb hc (σ0:=σ0) e3 (by rw[e1];exact⟨hC.glob,hC.mg⟩) hY hn hg he) λe a' w' ho=>?_
 have main:=sM.leaves (R:=λe w'=>(∃v,e=.returned v)/\∃fx cx,F (.list (xs.take (m+1))) fx cx w') (λw2 Gb=>by
  obtain⟨v,V',⟨own,t,fx,cx,h1,ht,_⟩,h2,_⟩:=Gb;refine⟨v,h2,⟨v,rfl⟩,fx,cx,?_⟩;rw[ht J rfl];exact((e4 _ _ _ _).1 h1.F).2) _ _ ho.2.1
 rcases ho.1 with rfl|rfl<;>exact main
def eM (tab:Nat->Option PC)(ext:Nat->Option (aS->List D->Option D)):Nat->aS
 |0=>λ_ _=>none
 |n+1=>λf ds=>
  match ext f with
  |some g=>g (eM tab ext n) ds
  |none=>
   match tab f with
   |some pc=>(match pc.ev (eM tab ext n) n (l7 ds) with|some (.ret d)=>some d|_=>none)
   |none=>none
def ff.hint {C:Ctx}{fr nh:List Nat}{f:Nat}{s:Sig}{ds:List D}{d:D}(h:ff C f s ds d):ff {C with fr:=fr,nh:=nh} f s ds d:=
 λV w args ar hC ha=>h V w args ar ⟨hC.glob,hC.mg⟩ ha
def ff.unhint {C:Ctx}{fr nh:List Nat}{f:Nat}{s:Sig}{ds:List D}{d:D}(h:ff {C with fr:=fr,nh:=nh} f s ds d):ff C f s ds d:=
 λV w args ar hC ha=>h V w args ar ⟨hC.glob,hC.mg⟩ ha
def mL.hint {C:Ctx}{fr nh:List Nat}{f:Nat}{cts ys:List Ty}{ds xs:List D}(h:mL C f cts ys ds xs):mL {C with fr:=fr,nh:=nh} f cts ys ds xs:=
 λV w yv vs F fx cx m ar hC=>h V w yv vs F fx cx m ar ⟨hC.glob,hC.mg⟩
def mL.unhint {C:Ctx}{fr nh:List Nat}{f:Nat}{cts ys:List Ty}{ds xs:List D}(h:mL {C with fr:=fr,nh:=nh} f cts ys ds xs):mL C f cts ys ds xs:=
 λV w yv vs F fx cx m ar hC=>h V w yv vs F fx cx m ar ⟨hC.glob,hC.mg⟩
def ej.hint {C:Ctx}{fr nh:List Nat}{f:Nat}{shs:List Sh}{obs:List (Nat×Ob)}{res:Ty}{ds:List D}{d:D}(h:ej C f shs obs res ds d):ej {C with fr:=fr,nh:=nh} f shs obs res ds d:=h.ctx rfl rfl rfl
def ej.unhint {C:Ctx}{fr nh:List Nat}{f:Nat}{shs:List Sh}{obs:List (Nat×Ob)}{res:Ty}{ds:List D}{d:D}(h:ej {C with fr:=fr,nh:=nh} f shs obs res ds d):ej C f shs obs res ds d:=ej.ctx (C':=C) h rfl rfl rfl
def du.hint {C:Ctx}{fr nh:List Nat}{Z:aS}(h:du C Z):du {C with fr:=fr,nh:=nh} Z:=
 λf ds d e s hs=>⟨λhm=>((h f ds d e s hs).1 hm).hint,λshs obs hm=>((h f ds d e s hs).2 shs obs hm).hint⟩
def gP.hint {C:Ctx}{fr nh:List Nat}{Z:aS}(h:gP C Z):gP {C with fr:=fr,nh:=nh} Z:=
 λf cs ys hc hi=>let⟨h1,h2⟩:=h f cs ys hc hi;⟨h1,λds d e=>let⟨xs,e1,e2,e3⟩:=h2 ds d e;⟨xs,e1,e2,e3.hint⟩⟩
def dN.hint {C:Ctx}{fr nh:List Nat}(h:dN C):dN {C with fr:=fr,nh:=nh}:=h
def Ph (C:Ctx)(f:Nat)(s:Sig)(ds:List D)(d:D):Prop:=(rQ s.mode=false->ff C f s ds d)/\∀shs obs,s.mode=.ob shs obs->ej C f shs obs s.res ds d
structure TabOK (C:Ctx) (tab:Nat->Option PC) (ext:Nat->Option (aS->List D->Option D)):Prop where
 clos:dN C
 its:∀f cs ys,C.cap f=some cs->oS cs.args cs.res=some ys->tab f=none/\∃fn,C.P.funcs[f]?=some fn/\fn.body.isSome=true/\(fn.name== "runtime.NumGoroutine")=false
 tab:∀f pc,ext f=none->tab f=some pc->∃fn s ids fr nh,C.P.funcs[f]?=some fn/\C.sig f=some s/\mU {C with fr:=fr,nh:=nh} fn s ids=some pc
 ext:∀f g,ext f=some g->∀Z,du C Z->gP C Z->∀ds d,g Z ds=some d->(∀s,C.sig f=some s->Ph C f s ds d)/\
  ∀cs ys,C.cap f=some cs->oS cs.args cs.res=some ys->∃xs,d=.list xs/\(∀x,x∈xs->∃ds',x=.tup ds'/\ds'.length=ys.length)/\mL C f cs.caps ys ds xs
def aaO {C:Ctx}{tab:Nat->Option PC}{ext:Nat->Option (aS->List D->Option D)}(h:TabOK C tab ext):∀n,du C (eM tab ext n)/\gP C (eM tab ext n)
 |0=>⟨λf ds d e=>by simp[eM] at e,λf cs ys hc hi=>⟨(h.its f cs ys hc hi).2,λds d e=>by simp[eM] at e⟩⟩
 |n+1=>by
  obtain⟨ih,wC⟩:=aaO h n;refine⟨λf ds d e=>?_,λf cs ys hc hi=>⟨(h.its f cs ys hc hi).2,λds d e=>?_⟩⟩
  .simp only[eM] at e;split at e
   .rename_i g hg;exact(h.ext f g hg _ ih wC ds d e).1
   .rename_i hx;split at e
    .rename_i pc ab;split at e
     .rename_i d' he;cases e;obtain⟨fn,s,ids,fr,nh,h1,h2,h3⟩:=h.tab f pc hx ab;intro s' eh;rw[h2] at eh;cases eh
      exact⟨λhm=>(QS (C:={C with fr:=fr,nh:=nh}) (dN.hint h.clos) (du.hint ih) (gP.hint wC) h1 h3 hm he).unhint,
       λshs obs hm=>(ama (C:={C with fr:=fr,nh:=nh}) (dN.hint h.clos) (du.hint ih) (gP.hint wC) h1 h3 hm he).unhint⟩
     .cases e
    .cases e
  .simp only[eM] at e;split at e
   .rename_i g hg;exact(h.ext f g hg _ ih wC ds d e).2 cs ys hc hi
   .rw[(h.its f cs ys hc hi).1] at e;cases e
def akk (Z:aS)(pc:PC)(J k:Nat)(ds xs:List D):Prop:=aap Z pc J ds xs/\∀x,x∈xs->∃ds',x=.tup ds'/\ds'.length=k
open Classical in
def Gv (pc:PC)(J k:Nat)(spec:List D->List D):aS->List D->Option D:=λZ ds=>if akk Z pc J k ds (spec ds) then some (.list (spec ds)) else none
def asw {C:Ctx}{Z:aS}(aY:dN C)(hΦ:du C Z)(dv:gP C Z){f:Nat}{fn:Func}{cts ys:List Ty}{J k:Nat}{ids fr nh:List Nat}{pc:PC}(hf:C.P.funcs[f]?=some fn)(hc:∀yv,EF {C with fr:=fr,nh:=nh,yv:=yv} fn cts ys J ids=some pc){spec:List D->List D}
 {ds:List D} {d:D} (h:Gv pc J k spec Z ds=some d) (hk:k=ys.length):∃xs,d=.list xs/\(∀x,x∈xs->∃ds',x=.tup ds'/\ds'.length=ys.length)/\mL C f cts ys ds xs:=by
 unfold Gv at h;split at h
 .rename_i hs;cases h;subst hk;exact⟨_,rfl,hs.2,(amb (C:={C with fr:=fr,nh:=nh}) (dN.hint aY) (du.hint hΦ) (gP.hint dv) hf hc hs.1).unhint⟩
 .cases h
def bK {α:Type}:List (Nat×α)->Nat->Option α
 |[],_=>none
 |x::l,f=>bif Nat.beq x.1 f then some x.2 else bK l f
def IS {α:Type}(R:Nat->α->Prop):List (Nat×α)->Prop
 |[]=>True
 |x::l=>R x.1 x.2/\IS R l
def TL {α:Type}{R:Nat->α->Prop}:∀{l:List (Nat×α)},IS R l->∀f x,bK l f=some x->R f x
 |[],_,f,x,h=>by cases h
 |y::l,⟨h1,h2⟩,f,x,h=>by
  simp only[bK] at h;cases hb:Nat.beq y.1 f<;>simp only[hb,zyy,zyx] at h
  .exact TL h2 f x h
  .cases h;rw[<-dH hb];exact h1
def Xg (P:Program):List (Nat×Sig)->Bool
 |[]=>true
 |x::l=>(match P.funcs[x.1]? with|some fn=>fn.body.isSome&& !(fn.name== "runtime.NumGoroutine")|none=>false)&&Xg P l
def ajy {P:Program}:∀{l:List (Nat×Sig)},Xg P l=true->∀f s,bK l f=some s->∃fn,P.funcs[f]?=some fn/\fn.body.isSome=true/\(fn.name== "runtime.NumGoroutine")=false
 |[],_,f,s,h=>by cases h
 |y::l,hl,f,s,h=>by
  simp only[Xg,ao] at hl;simp only[bK] at h;cases hb:Nat.beq y.1 f<;>simp only[hb,zyy,zyx] at h
  .exact ajy hl.2 f s h
  .rw[<-dH hb];have h1:=hl.1;split at h1
   .rename_i fn e;simp only[ao,kK] at h1;exact⟨fn,e,h1.1,h1.2⟩
   .cases h1
def W0 (a b:Sig):Bool:=Ty.beqs a.args b.args&&Ty.beq a.res b.res&&(match a.mode,b.mode with|.dat,.dat=>true|_,_=>false)
def axf {a b:Sig}(h:W0 a b=true):a=b:=by
 obtain⟨a1,a2,a3⟩:=a;obtain⟨b1,b2,b3⟩:=b;simp only[W0,ao] at h;rw[Ty.beqs_eq _ _ h.1.1,Ty.beq_eq _ _ h.1.2];cases a3<;>cases b3<;>first|rfl|(have:=h.2;cases this)
def IE (P:Program)(f:Nat):Bool:=match P.funcs[f]? with|some fn=>fn.body.isSome&& !(fn.name== "runtime.NumGoroutine")|none=>false
def axO {P:Program}{f:Nat}(h:IE P f=true):∃fn,P.funcs[f]?=some fn/\fn.body.isSome=true/\(fn.name== "runtime.NumGoroutine")=false:=by
 unfold IE at h;split at h
 .rename_i fn e;simp only[ao,kK] at h;exact⟨fn,e,h.1,h.2⟩
 .cases h
def QF (P:Program)(sig:List (Nat×Sig))(pcs:List Nat):List (Nat×CSig)->Bool
 |[]=>true
 |x::l=>(match oS x.2.args x.2.res with
   |none=>(match bK sig x.1 with|some s=>W0 s ⟨x.2.args++x.2.caps,x.2.res,.dat⟩|none=>false)
   |some _=> !fK pcs x.1&&IE P x.1)&&QF P sig pcs l
def abl {P:Program}{sig:List (Nat×Sig)}{pcs:List Nat}:∀{l:List (Nat×CSig)},QF P sig pcs l=true->∀f cs,bK l f=some cs->
 (oS cs.args cs.res=none->bK sig f=some ⟨cs.args++cs.caps,cs.res,.dat⟩)/\∀ys,oS cs.args cs.res=some ys->fK pcs f=false/\IE P f=true
 |[],_,f,cs,h=>by cases h
 |x::l,hl,f,cs,h=>by
  simp only[QF,ao] at hl;simp only[bK] at h;cases hb:Nat.beq x.1 f<;>simp only[hb,zyy,zyx] at h
  .exact abl hl.2 f cs h
  .cases h;rw[<-dH hb];have h1:=hl.1;refine⟨λe=>?_,λys e=>?_⟩
   .rw[e] at h1;simp only at h1;split at h1
    .rename_i s hs;rw[hs,axf h1]
    .cases h1
   .rw[e] at h1;simpa using h1
def aeX {α:Type}:∀{l:List (Nat×α)} {f:Nat},fK (l.map (·.1)) f=false->bK l f=none
 |[],f,_=>rfl
 |x::l,f,h=>by
  simp only[iS,fK,List.any_cons,aai] at h;simp only[bK];have hb:Nat.beq x.1 f=false:=by
   cases e:Nat.beq x.1 f
   .rfl
   .rw[ay e,ki] at h;cases h.1
  rw[hb];exact aeX (l:=l) h.2
def akr (Z:aS)(pa pb:PC)(ds:List D)(d:D):Prop:=(∃N xs,pa.ev Z N (l7 ds)=some (.ret (.list xs))/\xs≠[]/\d=.list xs)\/∃N,pb.ev Z N (l7 ds)=some (.ret (.list []))/\d=.list []
open Classical in
def CK (pa pb:PC)(spec:List D->D):aS->List D->Option D:=λZ ds=>if akr Z pa pb ds (spec ds) then some (spec ds) else none
def auz {C:Ctx}{Z:aS}(aY:dN C)(hΦ:du C Z)(dv:gP C Z){f:Nat}{fn:Func}{args:List Ty}{e:Ty}{ids asj fr nh frb nhb:List Nat}{pa pb:PC}(hf:C.P.funcs[f]?=some fn)(ha:mU {C with fr:=fr,nh:=nh} fn ⟨args,.slice e,.dat⟩ ids=some pa)
 (hb:mU {C with fr:=frb,nh:=nhb} fn ⟨args,.nils .bool,.dat⟩ asj=some pb) {spec:List D->D} {ds:List D} {d:D} (h:CK pa pb spec Z ds=some d):ff C f ⟨args,.nsl e,.dat⟩ ds d:=by
 unfold CK at h;split at h
 case isFalse=>cases h
 rename_i hs;cases h;rcases hs with⟨N,xs,h1,h2,h3⟩|⟨N,h1,h2⟩
 .rw[h3];have:=(QS (C:={C with fr:=fr,nh:=nh}) (dN.hint aY) (du.hint hΦ) (gP.hint dv) hf ha (N:=N) rfl h1).unhint;intro V w aa ar hC ju;refine(this V w aa ar hC ju).mono λen w' hh=>?_;obtain⟨v,V',g1,g2,g3,g4,g5,g6,g7⟩:=hh;refine⟨v,V',g1,g2,g3,g4,g5,g6,?_⟩;change Rep C.cap V' (.slice e) v (.list xs) at g7;show Rep C.cap V' (.nsl e) v (.list xs);generalize hd:D.list xs=dd at g7;cases g7 with
  |nil=>injection hd with hd;exact absurd hd h2
  |emp=>injection hd with hd;exact absurd hd h2
  |slice _ k o n c fc vs a1 a2 a3 a4 a5 a6=>exact .nsl e k o n c fc (.slice e k o n c fc vs a1 a2 a3 a4 a5 a6) (by injection hd with hd;rw[<-hd];exact h2)
 .rw[h2];have:=(QS (C:={C with fr:=frb,nh:=nhb}) (dN.hint aY) (du.hint hΦ) (gP.hint dv) hf hb (N:=N) rfl h1).unhint;intro V w aa ar hC ju;refine(this V w aa ar hC ju).mono λen w' hh=>?_;obtain⟨v,V',g1,g2,g3,g4,g5,g6,g7⟩:=hh;refine⟨v,V',g1,g2,g3,g4,g5,g6,?_⟩;change Rep C.cap V' (.nils .bool) v (.list []) at g7;show Rep C.cap V' (.nsl e) v (.list []);generalize D.list []=dd at g7;cases g7;exact .nsl0 e
end Cx
namespace Cx
open Go Go.RowKit Go.ChangeShapes Go.WideShapes
def lK (w:World):Im:=
 ⟨λk o=>bif Nat.ble k 2|| !w.frozen? ⟨k,o,none⟩ then w.cell? ⟨k,o,none⟩ else none,λk=>match w.heap[k]? with|some (.cells _ _ _)=>some mH|_=>none⟩
def asn (w:World):(lK w).ok w:=by
 refine⟨λk o v h=>?_,λk es h=>?_,λk o v h=>?_⟩
 case refine_2=>
  change (match w.heap[k]? with|some (.cells _ _ _)=>some mH|_=>none)=_ at h;split at h
  .rename_i cs T fz e;cases h;exact .inr (.inr ⟨rfl,cs,T,fz,e⟩)
  .cases h
 all_goals change (bif Nat.ble k 2|| !w.frozen? ⟨k,o,none⟩ then w.cell? ⟨k,o,none⟩ else none)=_ at h
 all_goals cases hb:(Nat.ble k 2|| !w.frozen? ⟨k,o,none⟩)<;>rw[hb] at h
 .cases h
 .exact h
 .cases h
 .rw[kL] at hb;exact hb.imp jI (by simp)
def aej {w:World}{k o:Nat}{v:Value}(h:w.cell? ⟨k,o,none⟩=some v):(lK w).m k=some mH:=by
 change (match w.heap[k]? with|some (.cells _ _ _)=>some mH|_=>none)=_;unfold World.cell? at h;cases hk:w.heap[k]? with
 |none=>simp[hk] at h
 |some ob=>cases ob<;>simp_all
def aei {w:World}{k o:Nat}{v:Value}(h:w.cell? ⟨k,o,none⟩=some v)(hz:k<=2\/w.frozen? ⟨k,o,none⟩=false):(lK w).c k o=some v:=by
 change (bif Nat.ble k 2|| !w.frozen? ⟨k,o,none⟩ then w.cell? ⟨k,o,none⟩ else none)=_;rcases hz with hz|hz
 .have e:Nat.ble k 2=true:=Nat.ble_eq_true_of_le hz;rw[e];exact h
 .rw[hz];simpa using h
def Dm (P:Program)(r:TypeId->Option Ty):List Field->Nat->Option (List Ty)
 |[],_=>some []
 |f::fs,off=>(r f.type).bind λft=>
  bif Nat.beq f.offset off&&Nat.beq (P.cellsOf f.type) ft.flat.length then(Dm P r fs (off+ft.flat.length)).map (ft.flat++·) else none
def gH (P:Program):Nat->TypeId->Option Ty
 |0,_=>none
 |n+1,t=>
  match P.underlying t with
  |some .bool=>some .bool
  |some (.int k)=>some (.int k)
  |some .string=>some .str
  |some (.slice e)=>bif uZ P e then some (.slice .trm) else(gH P n e).bind λte=>bif Nat.beq (P.cellsOf e) te.flat.length&&Nat.ble 1 te.flat.length then some (.slice te) else none
  |some (.struct fs)=>(Dm P (gH P n) fs.toList 0).bind λts=>bif Nat.beq (P.cellsOf t) ts.length then some (.agg ts) else none
  |_=>none
def asv {P:Program}{e:TypeId}(h:uZ P e=true)(n:Nat):gH P (n+2) e=some .trmA/\P.cellsOf e=3:=by
 unfold uZ at h;split at h
 case h_2=>cases h
 rename_i fs hu;split at h
 case h_2=>cases h
 rename_i f0 f1 f2 vX;simp only[ao] at h;obtain⟨⟨⟨⟨⟨⟨⟨⟨⟨h0,h1⟩,h2⟩,o0⟩,o1⟩,o2⟩,c0⟩,c1⟩,c2⟩,c3⟩:=h;split at h0
 case h_2=>cases h0
 rename_i u0;split at h1
 case h_2=>cases h1
 rename_i u1;split at h2
 case h_2=>cases h2
 rename_i e' u2;obtain rfl:=ay h2;have r0:gH P (n+1) f0.type=some (.int .i64):=by simp[gH,u0]
 have r1:gH P (n+1) f1.type=some (.int .i64):=by simp[gH,u1]
 have ht:uZ P e'=true:=by
  unfold uZ;rw[hu];simp only[vX];simp[u0,u1,u2,ay o0,ay o1,ay o2,ay c0,ay c1,ay c2,ay c3]
 have r2:gH P (n+1) f2.type=some (.slice .trm):=by simp[gH,u2,ht]
 refine⟨?_,ay c3⟩;show gH P (n+1+1) e'=_;rw[gH,hu];simp only[vX,Dm,r0,r1,r2,pE,Ty.flat,qT,Aq,o0,c0,Bool.and_self,zyy];simp[ay o1,ay o2,ay c1,ay c2,ay c3,Ty.trmA]
def WE {P:Program}{n:Nat}{t:TypeId}{ty:Ty}(h:gH P n t=some ty):ty.rowT=true\/ty.one=true:=by
 cases n with
 |zero=>simp[gH] at h
 |succ n=>
  simp only[gH] at h;split at h
  .cases h;exact .inr rfl
  .cases h;exact .inr rfl
  .cases h;exact .inr rfl
  .rename_i e _;cases ht:uZ P e<;>simp only[ht,zyy,zyx] at h
   .simp only[az] at h;obtain⟨te,_,h⟩:=h;cases hb:(Nat.beq (P.cellsOf e) te.flat.length&&Nat.ble 1 te.flat.length)<;>simp only[hb,zyy,zyx] at h
    .cases h
    .cases h;exact .inr rfl
   .cases h;exact .inr rfl
  .rename_i fs _;simp only[az] at h;obtain⟨ts,_,h⟩:=h;cases hb:Nat.beq (P.cellsOf t) ts.length<;>simp only[hb,zyy,zyx] at h
   .cases h
   .cases h;exact .inl rfl
  .cases h
def nU (cap:Nat->Option CSig)(V:Im)(ts:List Ty)(cs:List Value)(ds:List D):Prop:=
 cs.length=ts.length/\ds.length=ts.length/\∀(i:Nat) (u:Ty),ts[i]?=some u->Rep cap V u (cs.getD i undef) (ds.getD i .none)/\u.one=true
def nU.one {cap:Nat->Option CSig}{V:Im}{t:Ty}{v:Value}{d:D}(h:Rep cap V t v d)(ht:t.one=true):nU cap V [t] [v] [d]:=
 ⟨rfl,rfl,λi u hu=>by
   cases i with
   |zero=>simp at hu;subst hu;exact⟨h,ht⟩
   |succ i=>simp at hu⟩
def nU.append {cap:Nat->Option CSig}{V:Im}{ts us:List Ty}{cs vs:List Value}{ds es:List D}(h:nU cap V ts cs ds)(k:nU cap V us vs es):nU cap V (ts++us) (cs++vs) (ds++es):=by
 obtain⟨h1,h2,h3⟩:=h;obtain⟨k1,k2,k3⟩:=k;refine⟨by simp[h1,k1],by simp[h2,k2],λi u hu=>?_⟩;by_cases hi:i<ts.length
 .rw[nP hi] at hu;have:=h3 i u hu;rw[aE,aE,nP (by omega),nP (by omega)];rw[aE,aE] at this;exact this
 .rw[nQ (by omega)] at hu;have:=k3 _ u hu;rw[aE,aE,nQ (by omega),nQ (by omega),h1,h2];rw[aE,aE] at this;exact this
def abD (ag:Bool)(ds:List D):D:=if ag then .agg ds else ds.getD 0 .none
def an3 (t:Ty):t.flat.length=t.size:=by cases t<;>rfl
def Rep.ofRow {cap:Nat->Option CSig}{V:Im}{t:Ty}{cs:List Value}{ds:List D}(fY:t.rowT=true\/t.one=true)(h:nU cap V t.flat cs ds):Rep cap V t (Cx.rowOf t.rowT cs) (abD t.rowT ds):=by
 obtain⟨h1,h2,h3⟩:=h;cases t with
 |agg ts=>exact .agg ts cs ds h1 h2 (λi u hu=>(h3 i u hu).1) (λi u hu=>(h3 i u hu).2)
 |trm=>simp[Ty.rowT,Ty.one] at fY
 |_=>exact(h3 0 _ rfl).1
def awU {cap:Nat->Option CSig}{V:Im}{t:Ty}{cs:List Value}{ds:List D}(fY:t.rowT=true\/t.one=true)(h:nU cap V t.flat cs ds){j:Nat}{u:Value}(hj:(rowOf t.rowT cs).cells[j]?=some u):cs[j]?=some u:=by
 obtain⟨h1,h2,h3⟩:=h;cases t with
 |agg ts=>simpa [rowOf,Ty.rowT,Value.cells] using hj
 |trm=>simp[Ty.rowT,Ty.one] at fY
 |_=>
  have h4:=h3 0 _ rfl;have h5:=(h4.1.oneCell h4.2).1;simp only[rowOf,Ty.rowT,xE,if_false] at hj;rw[h5] at hj;cases j with
  |zero=>
   simp only[xN,Po,aZ] at hj
   match cs,h1 with
   |[c],_=>simpa using hj
  |succ j=>simp at hj
section
variable {zzt:Type} {enc:TypeId×Value->zzt} {P:Program} {w:World} {base:Nat} {held:Bool} {cap:Nat->Option CSig}
def ajM {k:IntKind}{n:Int}(h:(Lit.int k n).wf=true):k.min<=n/\n<=k.max:=by
 simpa [Lit.wf] using h
def aiQ {n m:Nat}(ih:∀(t:TypeId) (cs:List Value) (x:DataW zzt×List MemPlace) (ty:Ty),DataW.trod enc P w base (λ_=>true) held n t cs=some x->w.noneFrozen x.2->gH P m t=some ty->∃ds,nU cap (lK w) ty.flat cs ds):
 ∀(fs:List Field) (off:Nat) (cs:List Value) (ts:List Ty),Dm P (gH P m) fs off=some ts->cs.length=off+ts.length->
  (∀f,f∈fs->∃x,DataW.trod enc P w base (λ_=>true) held n f.type ((cs.drop f.offset).take (P.cellsOf f.type))=some x/\w.noneFrozen x.2)->∃ds,nU cap (lK w) ts (cs.drop off) ds
 |[],off,cs,ts,h,hl,_=>by
  simp only[Dm,aZ] at h;subst h;have:cs.drop off=[]:=by simp at hl ⊢;omega
  rw[this];exact⟨[],rfl,rfl,λi u hu=>by simp at hu⟩
 |f::fs,off,cs,ts,h,hl,hx=>by
  simp only[Dm,az] at h;obtain⟨ft,hft,h⟩:=h;cases hb:(Nat.beq f.offset off&&Nat.beq (P.cellsOf f.type) ft.flat.length)<;>simp only[hb,zyy,zyx] at h
  .cases h
  simp only[aB] at h;obtain⟨us,hus,rfl⟩:=h;simp only[ao] at hb;have e1:=dH hb.1;have e2:=dH hb.2;obtain⟨x,kT,kV⟩:=hx f (fR ..);rw[e1,e2] at kT;obtain⟨EJ,ml⟩:=ih _ _ _ _ kT kV hft;simp only[mM] at hl;obtain⟨ds2,ng⟩:=aiQ ih fs (off+ft.flat.length) cs us hus (by omega) λg hg=>hx g (fq _ hg);refine⟨EJ++ds2,?_⟩;have:=ml.append ng;rw[<-List.drop_drop,I7] at this;exact this
def aAi:∀(n m:Nat) (t:TypeId) (cs:List Value) (x:DataW zzt×List MemPlace) (ty:Ty),DataW.trod enc P w base (λ_=>true) held n t cs=some x->w.noneFrozen x.2->gH P m t=some ty->∃ds,nU cap (lK w) ty.flat cs ds:=by
 intro n
 induction n with
 |zero=>intro m t cs x ty h;simp[DataW.trod] at h
 |succ n ih=>
  intro m t cs x ty h hz br;cases m with
  |zero=>simp[gH] at br
  |succ m=>
   simp only[gH] at br;split at br
   .rename_i hu;cases br;obtain⟨b,rfl,_⟩:=DataW.trod_bool hu h;exact⟨_,.one (.bool b) rfl⟩
   .rename_i k hu;cases br;obtain⟨z,rfl,_,hw⟩:=DataW.trod_int hu h;exact⟨_,.one (.int k z (ajM hw).1 (ajM hw).2) rfl⟩
   .rename_i hu;cases br;obtain⟨s,rfl,_,hs⟩:=DataW.trod_string hu h;exact⟨_,.one (.str s hs) rfl⟩
   .rename_i e hu;have y3:∃(m':Nat) (te zY:Ty),gH P m' e=some te/\P.cellsOf e=te.flat.length/\1<=te.flat.length/\ty=.slice zY/\zY.unf=te:=by
     cases ht:uZ P e<;>simp only[ht,zyy,zyx] at br
     .simp only[az] at br;obtain⟨te,y3,br⟩:=br;cases hb:(Nat.beq (P.cellsOf e) te.flat.length&&Nat.ble 1 te.flat.length)<;>simp only[hb,zyy,zyx] at br
      .cases br
      cases br;simp only[ao] at hb;exact⟨m,te,te,y3,dH hb.1,jI hb.2,rfl,Ty.unf_ro (WE y3)⟩
     .cases br;obtain⟨k1,k2⟩:=asv ht 0;exact⟨2,.trmA,.trm,k1,k2,by decide,rfl,rfl⟩
    obtain⟨m',te,zY,y3,e1,e2,rfl,mm⟩:=y3;have fY:=WE y3;rcases DataW.trod_slice hu h with⟨rfl,_⟩|⟨a,len,cp,elems,rest,n',lI,rfl,Mf,hba,hl,hm,hlen,cU,wk,_⟩
    .exact⟨_,.one (.nil zY) rfl⟩
    .cases lI;obtain⟨hrl,tB⟩:=wk rfl
     have kr:∀i,i<cp->∃ci y,w.cells? base (a.add (i*P.cellsOf e)) (P.cellsOf e)=some ci/\DataW.trod enc P w base (λ_=>true) held n e ci=some y/\y∈elems++rest:=by
      intro i hi
      have fE:∃y,(w.cells? base (a.add (i*P.cellsOf e)) (P.cellsOf e)).bind (DataW.trod enc P w base (λ_=>true) held n e)=some y/\y∈elems++rest:=by
           by_cases yL:i<len
           .rw[cU i yL];exact⟨_,aU (by omega),iT _ (bU _)⟩
           .have:=tB (i-len) (by omega);rw[show len+(i-len)=i by omega] at this;rw[this];exact⟨_,aU (by omega),jG _ (bU _)⟩
      obtain⟨y,hy,To⟩:=fE;rw[az] at hy;obtain⟨ci,h1,h2⟩:=hy;exact⟨ci,y,h1,h2,To⟩
     by_cases Fu:cp=0
     .subst Fu;have:len=0:=by omega
      subst this;exact⟨_,.one (.emp zY a) rfl⟩
     .have adZ:a.spot=none:=by
           obtain⟨ci,y,h1,_⟩:=kr 0 (by omega);obtain⟨_,_,h3⟩:=World.cells?_some h1;have:=h3 0 (by omega);simp only[Px,Addr.add,if_true] at this;unfold World.cell? at this;cases hs:a.spot with
           |none=>rfl
           |some s=>
            exfalso;have hl:ci.length=P.cellsOf e:=(World.cells?_some h1).2.1;split at this
            .rw[hs] at this;simp at this;subst this;simp at hl;omega
            .rw[eq_comm,List.getElem?_eq_none_iff] at this;omega
      obtain⟨k,o,s⟩:=a;simp only at adZ;subst adZ;have aK:∀i,∃p:List Value×List D,i<len->w.cells? base ((⟨k,o,none⟩:Addr).add (i*P.cellsOf e)) (P.cellsOf e)=some p.1/\nU cap (lK w) te.flat p.1 p.2:=by
           intro i;by_cases hi:i<len
           .obtain⟨ci,y,h1,h2,To⟩:=kr i (by omega);obtain⟨ds,hr⟩:=ih m' _ _ _ _ h2 (λb off hp=>hz b off (by rw[Mf];exact jG _ (xQ.2 ⟨y,To,hp⟩))) y3;exact⟨(ci,ds),λ_=>⟨h1,hr⟩⟩
           .exact⟨([],[]),λh=>absurd h hi⟩
      obtain⟨f,hf⟩:=Classical.axiomOfChoice aK;have v8:(lK w).m k=some mH:=by
           obtain⟨ci,y,h1,_⟩:=kr 0 (by omega);obtain⟨_,h4,h5⟩:=World.cells?_some h1;have h6:=h5 0 (by omega);rw[aU (by omega)] at h6;simp only[Px,Addr.add,if_true] at h6;exact aej h6
      refine⟨_,.one (.slice zY k o len cp ((List.range len).map λi=>abD te.rowT (f i).2) (λi=>rowOf te.rowT (f i).1) (by simp) hl hm (λi x hx=>?_) (λi j u hi hj=>?_) (λ_=>v8)) rfl⟩
      .rw[bX,aB] at hx;obtain⟨i',df,rfl⟩:=hx;have af:i<len:=by have:=(eu.1 df).1;simpa using this
       rw[pz af] at df;cases df;rw[mm];exact Rep.ofRow fY (hf i af).2
      .obtain⟨h1,h2⟩:=hf i hi;have cH:=awU fY h2 hj;obtain⟨_,h4,h5⟩:=World.cells?_some h1;have fF:j<P.cellsOf e:=by rw[<-h4];exact(eu.1 cH).1
       have:=h5 j fF;rw[cH] at this;have bO:i*P.cellsOf e+j<(elems.length+rest.length)*P.cellsOf e:=by
           have h6:(i+1)*P.cellsOf e<=(elems.length+rest.length)*P.cellsOf e:=jJ _ (by omega);rw[Nat.succ_mul] at h6;omega
       have Cu:=hz k (o+(i*P.cellsOf e+j)) (by rw[Mf];exact iT _ (MemPlace.mem_row.2 ⟨_,bO,rfl⟩));rw[<-zY.unf_size,mm,<-an3,<-e1,qU];refine aei ?_ (.inr Cu);rw[<-this]
       congr 1
       simp only[Addr.add];split<;>split<;>simp_all<;>omega
   .rename_i fs hu;simp only[az] at br;obtain⟨ts,Cq,br⟩:=br;cases hb:Nat.beq (P.cellsOf t) ts.length<;>simp only[hb,zyy,zyx] at br
    .cases br
    cases br;obtain⟨xs,n',lI,Mf,hl,y9,hf⟩:=DataW.trod_struct hu h;cases lI
    have:=aiQ (ih m) fs.toList 0 cs ts Cq (by rw[hl,dH hb];omega) (λf hm=>by
     obtain⟨i,hi⟩:=Ap hm;have df:fs[i]?=some f:=by simpa using hi
     have h1:=hf i f df;have af:i<fs.size:=(ed.1 df).1;exact⟨_,h1.trans (aU (by omega)),λb off hp=>hz b off (by rw[Mf];exact xQ.2 ⟨_,bU (by omega),hp⟩)⟩)
    show ∃ds,nU cap (lK w) ts cs ds;simpa using this
   .cases br
def Ev {base:Nat}{t:TypeId}{v:Value}(h:Cell.okWide P w .any base t v):v.cells=#[v]:=by
 cases v<;>first|rfl|(exfalso;simp only[Cell.okWide,Cell.ok] at h;revert h;cases P.underlying t with|none=>simp|some T=>cases T<;>simp)
def akO {base base':Nat}{m:Nat}{t:TypeId}{v:Value}{d:DataW zzt}{ps:List MemPlace}{ty:Ty}(ar:Value.okWide P w .any base' t v)(h:DataW.Trod enc P w base (λ_=>true) held t v d ps)(hz:w.noneFrozen ps)(br:gH P m t=some ty):∃d,Rep cap (lK w) ty v d:=by
 obtain⟨fuel,h⟩:=h;obtain⟨ds,hr⟩:=aAi (cap:=cap) fuel m t _ _ _ h hz br;have bI:=Rep.ofRow (WE br) hr;cases m with
 |zero=>simp[gH] at br
 |succ m=>
  suffices hs:rowOf ty.rowT v.cells.toList=v by rw[hs] at bI;exact⟨_,bI⟩
  simp only[gH] at br;unfold Value.okWide at ar;split at br
  .rename_i hu;cases br;rw[hu] at ar;simp only at ar;rw[Ev ar];rfl
  .rename_i hu;cases br;rw[hu] at ar;simp only at ar;rw[Ev ar];rfl
  .rename_i hu;cases br;rw[hu] at ar;simp only at ar;rw[Ev ar];rfl
  .rename_i e hu;cases ht:uZ P e<;>simp only[ht,zyy,zyx] at br
   .simp only[az] at br;obtain⟨te,_,br⟩:=br;cases hb:(Nat.beq (P.cellsOf e) te.flat.length&&Nat.ble 1 te.flat.length)<;>simp only[hb,zyy,zyx] at br
    .cases br
    cases br;rw[hu] at ar;simp only at ar;rw[Ev ar];rfl
   .cases br;rw[hu] at ar;simp only at ar;rw[Ev ar];rfl
  .rename_i fs hu;simp only[az] at br;obtain⟨ts,_,br⟩:=br;cases hb:Nat.beq (P.cellsOf t) ts.length<;>simp only[hb,zyy,zyx] at br
   .cases br
   cases br;rw[hu] at ar;obtain⟨cs,rfl,_⟩:=ar;simp[rowOf,Ty.rowT,Value.cells]
  .cases br
def Ii (P:Program)(m:Nat):List TypeId->Option (List Ty)
 |[]=>some []
 |t::ts=>(gH P m t).bind λx=>(Ii P m ts).map (x::·)
def aaY {base base' m:Nat}:∀(ts:List TypeId) (vs:List Value) (ds:List (DataW zzt)) (ps:List MemPlace) (fO:List Ty),DataW.TrodAll enc P w base (λ_=>true) held ts vs ds ps->w.noneFrozen ps->Ii P m ts=some fO->
 (∀(j:Nat) t v,ts[j]?=some t->vs[j]?=some v->Value.okWide P w .any base' t v)->
 ∃es:List D,vs.length=fO.length/\es.length=fO.length/\∀(i:Nat) (t:Ty),fO[i]?=some t->Rep cap (lK w) t (vs.getD i undef) (es.getD i .none)
 |[],vs,ds,ps,fO,h,hz,br,_=>by
  simp only[Ii,aZ] at br;subst br;cases vs with
  |nil=>exact⟨[],rfl,rfl,λi t h=>by simp at h⟩
  |cons=>cases ds<;>exact h.elim
 |t::ts,vs,ds,ps,fO,h,hz,br,ar=>by
  simp only[Ii,az,aB] at br;obtain⟨ty,ar2,aAm,ar3,rfl⟩:=br;cases vs with
  |nil=>cases ds<;>exact h.elim
  |cons v vs=>
   cases ds with
   |nil=>exact h.elim
   |cons d ds=>
    obtain⟨p,q,h1,h2,hpq⟩:=h;obtain⟨e,he⟩:=akO (cap:=cap) (ar 0 t v rfl rfl) h1 (λb off hp=>hz b off (by rw[hpq];exact iT _ hp)) ar2;obtain⟨es,k1,k2,k3⟩:=aaY ts vs ds q aAm h2 (λb off hp=>hz b off (by rw[hpq];exact jG _ hp)) ar3 (λj t' v' hj hv=>ar (j+1) t' v' hj hv);refine⟨e::es,by simp[k1],by simp[k2],λi u hu=>?_⟩;cases i with
    |zero=>simp at hu;subst hu;exact he
    |succ i=>simpa using k3 i u (by simpa using hu)
end
mutual
inductive DTy:Ty->D->Prop where
 |int (k:IntKind) (n:Int) (h1:k.min<=n) (h2:n<=k.max):DTy (.int k) (.v (.int k n))
 |bool (b:Bool):DTy .bool (.v (.bool b))
 |str (s:ByteArray) (h:s.size<=maxLen):DTy .str (.v (.string s))
 |slice (e:Ty) (xs:List D) (hm:xs.length<=maxLen) (h:∀x,x∈xs->DTy e.unf x):DTy (.slice e) (.list xs)
 |agg (ts:List Ty) (ds:List D) (h:DTys ts ds):DTy (.agg ts) (.agg ds)
 |other (t:Ty) (d:D) (h:match t with|.int _|.bool|.str|.slice _|.agg _=>False|_=>True):DTy t d
inductive DTys:List Ty->List D->Prop where
 |nil:DTys [] []
 |cons {t:Ty} {d:D} {ts:List Ty} {ds:List D} (h:DTy t d) (hs:DTys ts ds):DTys (t::ts) (d::ds)
end
def DTys.of_get:∀{ts:List Ty} {ds:List D},ds.length=ts.length->(∀(i:Nat) (t:Ty),ts[i]?=some t->DTy t (ds.getD i .none))->DTys ts ds
 |[],[],_,_=>.nil
 |t::ts,d::ds,hl,h=>.cons (h 0 t rfl) (DTys.of_get (by simpa using hl) λi u hu=>by simpa using h (i+1) u (by simpa using hu))
 |[],_::_,hl,_=>by simp at hl
 |_::_,[],hl,_=>by simp at hl
def Rep.dty {cap:Nat->Option CSig}{V:Im}{t:Ty}{v:Value}{d:D}(h:Rep cap V t v d):DTy t d:=by
 induction h with
 |int k n h1 h2=>exact .int k n h1 h2
 |bool b=>exact .bool b
 |str s h=>exact .str s h
 |agg ts vs ds h1 h2 _ ho ih=>exact .agg ts ds (.of_get h2 ih)
 |nil e=>exact .slice e [] (by decide) (λx hx=>by cases hx)
 |emp e a=>exact .slice e [] (by decide) (λx hx=>by cases hx)
 |slice e k o n c xs vs hn hc hm _ hv _ ih=>
  refine .slice e xs (by omega) λx hx=>?_;obtain⟨i,hi⟩:=Ap hx;exact ih i x hi
 |_=>exact .other _ _ trivial
def asI {zzt:Type}{enc:TypeId×Value->zzt}{C:Ctx}{f:Nat}{fn:Func}{sg:Sig}{spec:ChangeSpec}{tb:TypeId}{apart fresh handsOn again:Bool}(hl:laidOutB C.P=true)
 (tC:Ii C.P 12 fn.params.toList=some sg.args) (arv:fn.params.toList.all (λt=>C.P.readableRec t&&decide (t<C.P.types.size))=true) (Tc:spec.vars=[])
 (arO:∀ds:List (DataW zzt),ds.length=fn.params.size->(spec.fn zzt ds).results=[.lit (.bool true)]/\(spec.fn zzt ds).args=ds/\(spec.fn zzt ds).vars=[])
 (fX:fn.resultTypes=#[tb]) (Mb:C.P.underlying tb=some .bool) (lH:sg.mode=.dat) (wh:sg.res=.bool)
 (Sj:∀ds,DTys sg.args ds->ff C f sg ds (.v (.bool true)))
 (W:World) (tj:CtxOK C (lK W)) (base:Nat) (args:Array Value) (ds gs:List (DataW zzt)) (before:List MemPlace)
 (ct:∀(j:Nat) t v,fn.params[j]?=some t->args[j]?=some v->Value.okWide C.P W .any base t v)
 (hW:DataW.Whole enc C.P fn.params.toList spec.vars apart W args.toList ds gs before):
 Calls C.P f args W λe W'=>∃v,e=.returned v/\spec.post enc C.P fn apart fresh handsOn again W args v W':=by
 have Lw:=hW;have af:∀p∈before,p.block<W.heap.size:=λp hp=>Lw.lt p hp;obtain⟨p,q,hA,hV,rfl,B9,bo⟩:=hW;rw[Tc] at hV;obtain⟨rfl,rfl⟩:=trodVars_none hV;obtain⟨es,k1,k2,k3⟩:=aaY (cap:=C.cap) (base':=base) fn.params.toList args.toList ds p sg.args hA (λb off hp=>B9 b off (by simpa using hp)) tC (λj t v hj hv=>ct j t v (by simpa using hj) (by simpa using hv));have br:DTys sg.args es:=.of_get k2 λi t ht=>(k3 i t ht).dty
 have hlen:∀(ts:List TypeId) (vs:List Value) (ds:List (DataW zzt)) (ps:List MemPlace),DataW.TrodAll enc C.P W 0 (λ_=>true) true ts vs ds ps->ds.length=ts.length:=by
  intro ts
  induction ts with
  |nil=>intro vs ds ps h;cases vs<;>cases ds<;>first|rfl|exact h.elim
  |cons t ts ih=>
   intro vs ds ps h;cases vs with
   |nil=>cases ds<;>exact h.elim
   |cons v vs=>cases ds with
    |nil=>exact h.elim
    |cons d ds=>obtain⟨p,q,_,h2,_⟩:=h;simp[ih vs ds q h2]
 have Fx:ds.length=fn.params.size:=by simpa using hlen _ _ _ _ hA
 obtain⟨s1,s2,s3⟩:=arO (ds++[]) (by simpa using Fx);refine(Sj es br (lK W) W args (asn W) tj ⟨k1,k2,k3⟩).mono λe W' hh=>?_;obtain⟨v,V',rfl,_,_,hb,_,_,hr⟩:=hh;refine⟨v,rfl,?_⟩;simp only[lx,lH,wh] at hr;obtain⟨b,rfl,yD⟩:=hr.bool_inv;cases yD
 have stays:∀(sp:Nat->Bool) (ts:List TypeId) (vs:List Value) (ds:List (DataW zzt)) (ps:List MemPlace),ts.all (λt=>C.P.readableRec t&&decide (t<C.P.types.size))=true->(∀x∈ps,x.block<W.heap.size)->(∀x∈ps,sp x.block=true)->
  DataW.TrodAll enc C.P W 0 (λ_=>true) true ts vs ds ps->DataW.TrodAll enc C.P W' 0 sp true ts vs ds ps:=by
  intro sp ts
  induction ts with
  |nil=>intro vs ds ps _ _ _ h;cases vs<;>cases ds<;>first|exact h|exact h.elim
  |cons t ts ih=>
   intro vs ds ps ha tw wk h;cases vs with
   |nil=>cases ds<;>exact h.elim
   |cons v vs=>cases ds with
    |nil=>exact h.elim
    |cons d ds=>
     obtain⟨p,q,h1,h2,rfl⟩:=h;simp only[sJ,ao,decide_eq_true_eq] at ha
     exact⟨p,q,WideElems.Trod_stays hl ha.1.1 ha.1.2 h1 (λx hx=>hb.same (tw x (iT _ hx))) (λx hx=>wk x (iT _ hx)),
      ih vs ds q (by simpa using ha.2) (λx hx=>tw x (jG _ hx)) (λx hx=>wk x (jG _ hx)) h2,rfl⟩
 have adz:∀x∈p,x.block<W.heap.size:=λx hx=>af x (iT _ hx);have ju:=λsp (h:∀x∈p,sp x.block=true)=>stays sp _ _ _ _ arv adz h hA;have tB:∀(b:Nat) (sp:Nat->Bool) (hd:Bool),DataW.TrodAll enc C.P W' b sp hd fn.resultTypes.toList ((Value.bool true).resultList fn.resultTypes.size) [.lit (.bool true)] []:=by
  intro b sp hd;rw[fX];exact trodAll_mk1 (shut_bool Mb true)
 refine⟨ds,[],p++[],[],p,[],Lw,?_,?_,?_,World.keptBut_mono (λx hx=>⟨hx,?_⟩) (hb.frame (·∈p++[])),λ_=>?_⟩
 .rw[s1];exact tB _ _ _
 .rw[s2];simpa using ju _ (λx hx=>by simpa using adz x hx)
 .rw[s3,Tc];rfl
 .simpa using hx
 .refine⟨ok_one fX rfl (okWide_bool_mk Mb true),_,[],([]++p)++[],⟨[]++p,[],trodAll_append (ju _ (λ_ _=>rfl)) (tB _ _ _),by rw[Tc];exact rfl,rfl,?_,?_⟩,?_⟩
  .intro b off hp;have bO:MemPlace.cell b off∈p++[]:=by simpa using hp
   rw[hb.frozen (af _ bO)];exact B9 b off bO
  .intro ha;simpa using bo ha
  .intro x hx _;simpa using hx
end Cx
namespace Cx
open Go Go.RowKit
abbrev cK:=Nat->aS
def ah (T:cK)(f:Nat)(ds:List D)(d:D):Prop:=∃n0,∀n,n0<=n->T n f ds=some d
def Al (T:cK)(l:List PI)(O:Env)(Q:Env->Prop):Prop:=∃O',Q O'/\∃n0,∀n,n0<=n->PI.runs (T n) l O=some O'
def aO (T:cK)(c:PC)(O:Env)(Q:Out->Prop):Prop:=∃x,Q x/\∃n0,∀n,n0<=n->c.ev (T n) n O=some x
def aO.mono {T:cK}{c:PC}{O:Env}{Q Q':Out->Prop}(h:aO T c O Q)(hq:∀x,Q x->Q' x):aO T c O Q':=by
 obtain⟨x,hx,n0,hn⟩:=h;exact⟨x,hq x hx,n0,hn⟩
def Al.nil {T:cK}{O:Env}{Q:Env->Prop}(h:Q O):Al T [] O Q:=⟨O,h,0,λ_ _=>rfl⟩
def Al.cons {T:cK}{p:PI}{l:List PI}{O ρ1:Env}{Q:Env->Prop}{n0:Nat}(h:∀n,n0<=n->p.run (T n) O=some ρ1)(k:Al T l ρ1 Q):Al T (p::l) O Q:=by
 obtain⟨O',hQ,n1,h1⟩:=k;exact⟨O',hQ,max n0 n1,λn hn=>by simp[PI.runs,h n (by omega),h1 n (by omega)]⟩
def iP (T:cK):List PI->Env->(Env->Prop)->Prop
 |[],O,Q=>Q O
 |.setR t e::l,O,Q=>iP T l (O.setR t (e.ev O)) Q
 |.setO t e::l,O,Q=>iP T l (O.setO t (e.ev O)) Q
 |.chk e::l,O,Q=>(e.ev O).b=true/\iP T l O Q
 |.call gs dst f args::l,O,Q=>if holds gs O=true then ∃d,ah T f (PE.evs O args) d/\iP T l (O.setR dst d) Q else iP T l O Q
 |.callc gs dst e args::l,O,Q=>if holds gs O=true then ∃f caps d,e.ev O=.clo f caps/\ah T f (PE.evs O args++caps) d/\iP T l (O.setR dst d) Q else iP T l O Q
 |.mcall j f args::l,O,Q=>∃d,ah T f (PE.evs O args) d/\iP T l (O.setO j d) Q
def vp {T:cK}:∀{l:List PI} {O:Env} {Q:Env->Prop},iP T l O Q->Al T l O Q
 |[],O,Q,h=>.nil h
 |.setR t e::l,O,Q,h=>.cons (n0:=0) (λ_ _=>rfl) (vp h)
 |.setO t e::l,O,Q,h=>.cons (n0:=0) (λ_ _=>rfl) (vp h)
 |.chk e::l,O,Q,h=>.cons (n0:=0) (λn _=>by simp[PI.run,h.1]) (vp h.2)
 |.call gs dst f args::l,O,Q,h=>by
  unfold iP at h;split at h
  .rename_i hg;obtain⟨d,⟨n0,hn⟩,h⟩:=h;exact .cons (n0:=n0) (λn hle=>by simp[PI.run,hg,hn n hle]) (vp h)
  .rename_i hg;exact .cons (n0:=0) (λn hle=>by simp[PI.run,hg]) (vp h)
 |.callc gs dst e args::l,O,Q,h=>by
  unfold iP at h;split at h
  .rename_i hg;obtain⟨f,caps,d,he,⟨n0,hn⟩,h⟩:=h;exact .cons (n0:=n0) (λn hle=>by simp[PI.run,hg,he,hn n hle]) (vp h)
  .rename_i hg;exact .cons (n0:=0) (λn hle=>by simp[PI.run,hg]) (vp h)
 |.mcall j f args::l,O,Q,h=>by
  obtain⟨d,⟨n0,hn⟩,h⟩:=h;exact .cons (n0:=n0) (λn hle=>by simp[PI.run,hn n hle]) (vp h)
def lN (O:Env)(lr lo:List Nat)(Q:Out->Prop):Out->Prop
 |.next O'=>Q (.next (O.join lr lo O'))
 |x=>Q x
def mT (O:Env)(id:Nat)(lr lo:List Nat)(Q:Out->Prop):Out->Prop
 |.next O'=>Q (.next (O.join lr lo O'))
 |.exit bP O'=>if bP=id then Q (.next (O.join lr lo O')) else Q (.exit bP O')
 |.ret d=>Q (.ret d)
def gK (K:Env->Prop)(Q:Out->Prop):Out->Prop
 |.next O'=>K O'
 |.exit id O'=>Q (.exit id O')
 |.ret d=>Q (.ret d)
def aO.is {T:cK}{l:List PI}{O:Env}{Q:Out->Prop}(h:iP T l O λO'=>Q (.next O')):aO T (.is l) O Q:=by
 obtain⟨O',hQ,n0,hn⟩:=vp h;exact⟨.next O',hQ,n0,λn hle=>by simp[PC.ev,hn n hle]⟩
def aO.skip {T:cK}{O:Env}{Q:Out->Prop}(h:Q (.next O)):aO T .skip O Q:=⟨_,h,0,λ_ _=>rfl⟩
def aO.exit {T:cK}{O:Env}{id:Nat}{Q:Out->Prop}(h:Q (.exit id O)):aO T (.exit id) O Q:=⟨_,h,0,λ_ _=>rfl⟩
def aO.ret {T:cK}{O:Env}{e:PE}{Q:Out->Prop}(h:Q (.ret (e.ev O))):aO T (.ret e) O Q:=⟨_,h,0,λ_ _=>rfl⟩
def aO.seq {T:cK}{a b:PC}{O:Env}{Q:Out->Prop}(h:aO T a O (gK (λO'=>aO T b O' Q) Q)):aO T (.seq a b) O Q:=by
 obtain⟨x,hx,n0,hn⟩:=h;cases x with
 |next O'=>
  obtain⟨y,hy,n1,h1⟩:=hx;exact⟨y,hy,max n0 n1,λn hle=>by simp[PC.ev,hn n (by omega),h1 n (by omega)]⟩
 |exit id O'=>exact⟨_,hx,n0,λn hle=>by simp[PC.ev,hn n hle]⟩
 |ret d=>exact⟨_,hx,n0,λn hle=>by simp[PC.ev,hn n hle]⟩
def aO.ite {T:cK}{c:PE}{lr lo:List Nat}{a b:PC}{O:Env}{Q:Out->Prop}(h:if(c.ev O).b=true then aO T a O (lN O lr lo Q) else aO T b O (lN O lr lo Q)):aO T (.ite c lr lo a b) O Q:=by
 split at h
 all_goals
  rename_i hc;obtain⟨x,hx,n0,hn⟩:=h;cases x with
  |next O'=>exact⟨_,hx,n0,λn hle=>by simp[PC.ev,hc,hn n hle]⟩
  |exit id O'=>exact⟨_,hx,n0,λn hle=>by simp[PC.ev,hc,hn n hle]⟩
  |ret d=>exact⟨_,hx,n0,λn hle=>by simp[PC.ev,hc,hn n hle]⟩
def aO.block {T:cK}{id:Nat}{lr lo:List Nat}{a:PC}{O:Env}{Q:Out->Prop}(h:aO T a O (mT O id lr lo Q)):aO T (.block id lr lo a) O Q:=by
 obtain⟨x,hx,n0,hn⟩:=h;cases x with
 |next O'=>exact⟨_,hx,n0,λn hle=>by simp[PC.ev,hn n hle]⟩
 |exit bP O'=>
  simp only[mT] at hx;split at hx
  .rename_i e;subst e;exact⟨_,hx,n0,λn hle=>by simp[PC.ev,hn n hle]⟩
  .rename_i e;exact⟨_,hx,n0,λn hle=>by simp[PC.ev,hn n hle,fy e]⟩
 |ret d=>exact⟨_,hx,n0,λn hle=>by simp[PC.ev,hn n hle]⟩
def aO.loop {T:cK}{lr lo:List Nat}{a:PC}{O:Env}{Q:Out->Prop}{α:Type}(inv:α->List D->List D->Prop)(wO:α->Nat)(s0:α)(h0:inv s0 (lr.map O.r) (lo.map O.o))
 (step:∀s vr vo,inv s vr vo->aO T a (O.put lr vr lo vo) (gK (λO'=>∃s',wO s'<wO s/\inv s' (lr.map O'.r) (lo.map O'.o)) Q)):aO T (.loop lr lo a) O Q:=by
 have key:∀(m:Nat) (s:α) (vr vo:List D),wO s<=m->inv s vr vo->∃x,Q x/\∃n0,∀n k,n0<=n->n0<=k->jh (a.ev (T n) n) O lr lo k vr vo=some x:=by
  intro m
  induction m with
  |zero=>
   intro s vr vo hm hi;obtain⟨x,hx,n0,hn⟩:=step s vr vo hi;cases x with
   |next O'=>obtain⟨s',af,_⟩:=hx;omega
   |exit id O'=>
    refine⟨_,hx,n0+1,λn k hle hk=>?_⟩;obtain⟨k',rfl⟩:∃k',k=k'+1:=⟨k-1,by omega⟩
    simp[jh,hn n (by omega)]
   |ret d=>
    refine⟨_,hx,n0+1,λn k hle hk=>?_⟩;obtain⟨k',rfl⟩:∃k',k=k'+1:=⟨k-1,by omega⟩
    simp[jh,hn n (by omega)]
  |succ m ih=>
   intro s vr vo hm hi;obtain⟨x,hx,n0,hn⟩:=step s vr vo hi;cases x with
   |next O'=>
    obtain⟨s',af,df⟩:=hx;obtain⟨y,hy,n1,h1⟩:=ih s' _ _ (by omega) df;refine⟨y,hy,max n0 n1+1,λn k hle hk=>?_⟩;obtain⟨k',rfl⟩:∃k',k=k'+1:=⟨k-1,by omega⟩
    simp[jh,hn n (by omega),h1 n k' (by omega) (by omega)]
   |exit id O'=>
    refine⟨_,hx,n0+1,λn k hle hk=>?_⟩;obtain⟨k',rfl⟩:∃k',k=k'+1:=⟨k-1,by omega⟩
    simp[jh,hn n (by omega)]
   |ret d=>
    refine⟨_,hx,n0+1,λn k hle hk=>?_⟩;obtain⟨k',rfl⟩:∃k',k=k'+1:=⟨k-1,by omega⟩
    simp[jh,hn n (by omega)]
 obtain⟨x,hx,n0,hn⟩:=key (wO s0) s0 _ _ (aX _) h0;exact⟨x,hx,n0,λn hle=>by simp only[PC.ev];exact hn n n hle hle⟩
def vM (O:Env)(lo:List Nat)(rt:Option PE)(K:List D->Prop)(Q:Out->Prop):Out->Prop
 |.next O'=>K (lo.map O'.o)
 |.exit id O'=>if id=cP then ∃e,rt=some e/\Q (.ret (e.ev (O.put [] [] lo (lo.map O'.o)))) else Q (.exit id (O.put [] [] lo (lo.map O'.o)))
 |.ret _=>False
def aO.each {T:cK}{e:PE}{ps lo:List Nat}{rt:Option PE}{a:PC}{O:Env}{Q:Out->Prop}(xs:List D)(he:(e.ev O).l=xs)(inv:Nat->List D->Prop)(h0:inv 0 (lo.map O.o))
 (step:∀k x vo,xs[k]?=some x->inv k vo->aO T a (O.put ps (partsOf ps x) lo vo) (vM O lo rt (inv (k+1)) Q)) (done:∀vo,inv xs.length vo->Q (.next (O.put [] [] lo vo))):aO T (.each e ps lo rt a) O Q:=by
 have key:∀(r k:Nat) (vo:List D),k+r=xs.length->inv k vo->∃x,Q x/\∃n0,∀n,n0<=n->jr (a.ev (T n) n) O ps lo rt (xs.drop k) vo=some x:=by
  intro r
  induction r with
  |zero=>
   intro k vo hk hi;have:xs.drop k=[]:=by rw[aar];omega
   obtain rfl:k=xs.length:=by omega
   exact⟨_,done vo hi,0,λn _=>by rw[this];rfl⟩
  |succ r ih=>
   intro k vo hk hi;have af:k<xs.length:=by omega
   rw[akn af];obtain⟨y,hy,n0,hn⟩:=step k xs[k] vo (aU af) hi;cases y with
   |next O'=>
    obtain⟨z,hz,n1,h1⟩:=ih (k+1) _ (by omega) hy;exact⟨z,hz,max n0 n1,λn hle=>by simp only[jr,hn n (by omega)];exact h1 n (by omega)⟩
   |exit id O'=>
    simp only[vM] at hy;split at hy
    .rename_i cL;obtain⟨e,h1,h2⟩:=hy;exact⟨_,h2,n0,λn hle=>by subst cL;simp[jr,hn n hle,h1]⟩
    .rename_i cL;exact⟨_,hy,n0,λn hle=>by simp[jr,hn n hle,fy cL]⟩
   |ret d=>exact hy.elim
 obtain⟨x,hx,n0,hn⟩:=key xs.length 0 _ (by omega) h0;exact⟨x,hx,n0,λn hle=>by simp only[PC.ev,he];exact hn n hle⟩
def ahG {α:Type}:∀(l:List α),∃L:List (List α),∀ys,ys∈L↔ys.Perm l
 |[]=>⟨[[]],λys=>by simp⟩
 |x::l=>by
  obtain⟨L,hL⟩:=ahG l;refine⟨L.flatMap λys=>(List.range (ys.length+1)).map λi=>ys.take i++x::ys.drop i,λzs=>?_⟩;simp only[xQ,cr,fu];constructor
  .rintro⟨ys,hy,i,_,rfl⟩;have h1:=(hL ys).1 hy;refine(List.perm_middle).trans (.cons x ?_);rw[I7];exact h1
  .intro h;have hx:x∈zs:=h.symm.subset (fR ..);obtain⟨s,t,rfl⟩:=List.append_of_mem hx;refine⟨s++t,(hL _).2 ?_,s.length,by simp;omega,by simp⟩;exact(List.perm_cons x).1 ((List.perm_middle).symm.trans h)
def aO.meach {T:cK}{J:Nat}{ps dc lo:List Nat}{a:PC}{O:Env}{Q:Out->Prop}(es:List (D×D))(he:O.o J=.tup [.list [],.map es])(inv:List D->List D->Prop)(h0:inv [] (lo.map O.o))
 (step:∀done x rest vo,(done++x::rest).Perm (ji (.map es))->inv done vo->aO T a ((O.put ps (dc.map x.tget) lo vo).setO J (.tup [.list (done++[x]),.map es])) (λy=>∃O',y=.next O'/\inv (done++[x]) (lo.map O'.o)))
 (last:∃vo,(∀done,done.Perm (ji (.map es))->∀ud,inv done ud->ud=vo)/\Q (.next (O.put [] [] lo vo))):aO T (.meach J ps dc lo a) O Q:=by
 obtain⟨vo,hl,hQ⟩:=last;have key:∀(xs done:List D) (vs:List D),(done++xs).Perm (ji (.map es))->inv done vs->∃n0,∀n,n0<=n->qt (a.ev (T n) n) O J (.map es) ps dc lo xs done vs=some vo:=by
  intro xs
  induction xs with
  |nil=>intro done vs hp hi;exact⟨0,λn _=>by rw[hl done (by simpa using hp) vs hi];rfl⟩
  |cons x xs ih=>
   intro done vs hp hi;obtain⟨y,⟨O',rfl,df⟩,n0,hn⟩:=step done x xs vs hp hi;obtain⟨n1,h1⟩:=ih (done++[x]) _ (by simpa using hp) df;exact⟨max n0 n1,λn hle=>by simp only[qt,hn n (by omega)];exact h1 n (by omega)⟩
 have kz:∀(L:List (List D)),(∀ys,ys∈L->ys.Perm (ji (.map es)))->∃n0,∀n,n0<=n->∀ys,ys∈L->qt (a.ev (T n) n) O J (.map es) ps dc lo ys [] (lo.map O.o)=some vo:=by
  intro L
  induction L with
  |nil=>intro _;exact⟨0,λn _ ys hy=>by cases hy⟩
  |cons y L ih=>
   intro hL;obtain⟨n0,gq⟩:=ih λys hy=>hL ys (fq _ hy);obtain⟨n1,h1⟩:=key y [] _ (by simpa using hL y (fR ..)) h0;refine⟨max n0 n1,λn hle ys hy=>?_⟩;rcases cB.1 hy with e|hy
   .subst e;exact h1 n (by omega)
   .exact gq n (by omega) ys hy
 obtain⟨L,hL⟩:=ahG (ji (.map es));obtain⟨n0,hn⟩:=kz L λys hy=>(hL ys).1 hy;refine⟨_,hQ,n0,λn hle=>?_⟩;simp only[PC.ev,CU];refine⟨vo,⟨by rw[he];rfl,λys hy=>?_⟩,rfl⟩;rw[he] at hy ⊢;exact hn n hle ys ((hL ys).2 hy)
def bounded {Q:Nat->Nat->Prop}:∀(L:Nat),(∀m,m<=L->∃n0,∀n,n0<=n->Q m n)->∃n0,∀n,n0<=n->∀m,m<=L->Q m n
 |0,h=>by
  obtain⟨n0,hn⟩:=h 0 (aX _)
  exact⟨n0,λn hle m hm=>by (obtain rfl:m=0:=by omega);exact hn n hle⟩
 |L+1,h=>by
  obtain⟨n0,hn⟩:=bounded L λm hm=>h m (by omega);obtain⟨n1,h1⟩:=h (L+1) (aX _);refine⟨max n0 n1,λn hle m hm=>?_⟩;by_cases e:m=L+1
  .subst e;exact h1 n (by omega)
  .exact hn n (by omega) m (by omega)
def ah.of_pc {tab:Nat->Option PC}{ext:Nat->Option (aS->List D->Option D)}{f:Nat}{pc:PC}{ds:List D}{d:D}(hx:ext f=none)(ht:tab f=some pc)(h:aO (eM tab ext) pc (l7 ds) (λx=>x=.ret d)):ah (eM tab ext) f ds d:=by
 obtain⟨x,rfl,n0,hn⟩:=h;refine⟨n0+1,λn hle=>?_⟩;obtain⟨k,rfl⟩:∃k,n=k+1:=⟨n-1,by omega⟩
 simp[eM,hx,ht,hn k (by omega)]
def ah.of_ext {tab:Nat->Option PC}{ext:Nat->Option (aS->List D->Option D)}{f:Nat}{g:aS->List D->Option D}{ds:List D}{d:D}(hx:ext f=some g)(h:∃n0,∀n,n0<=n->g (eM tab ext n) ds=some d):ah (eM tab ext) f ds d:=by
 obtain⟨n0,hn⟩:=h;refine⟨n0+1,λn hle=>?_⟩;obtain⟨k,rfl⟩:∃k,n=k+1:=⟨n-1,by omega⟩
 simp[eM,hx,hn k (by omega)]
def IQ (T:cK)(xs:List D)(m:Nat):cK:=λn=>yldΦ (T n) xs m
def ah.yld {T:cK}{xs:List D}{m f:Nat}{ds:List D}{d:D}(h:ah T f ds d)(hf:f≠nL):ah (IQ T xs m) f ds d:=by
 obtain⟨n0,hn⟩:=h;exact⟨n0,λn hle=>by simp[IQ,yldΦ,hf,hn n hle]⟩
def ah.answer {T:cK}{xs l:List D}{m i:Nat}(hl:l=xs.take (i+1))(hi:i<xs.length)(hm:i<=m):ah (IQ T xs m) nL [.list l] (.v (.bool (decide (i<m)))):=by
 subst hl;refine⟨0,λn _=>?_⟩;have h1:(xs.take (i+1)).length=i+1:=by rw[dO];omega
 simp only[IQ,yldΦ,if_true,h1];rw[if_pos ⟨by omega,by omega,trivial⟩];rfl
def ah.of_it {tab:Nat->Option PC}{ext:Nat->Option (aS->List D->Option D)}{f:Nat}{pc:PC}{J k:Nat}{spec:List D->List D}{ds:List D}(hx:ext f=some (Gv pc J k spec))(hk:∀x,x∈spec ds->∃ds',x=.tup ds'/\ds'.length=k)
 (h:∀m,m<=(spec ds).length->aO (IQ (eM tab ext) (spec ds) m) pc (BK J ds) (λx=>x=.ret (.list ((spec ds).take (m+1))))):ah (eM tab ext) f ds (.list (spec ds)):=by
 refine ah.of_ext hx ?_
 obtain⟨n0,hn⟩:=bounded (Q:=λm n=>pc.ev (yldΦ (eM tab ext n) (spec ds) m) n (BK J ds)=some (.ret (.list ((spec ds).take (m+1))))) (spec ds).length (λm hm=>by
  obtain⟨x,rfl,n0,hn⟩:=h m hm;exact⟨n0,hn⟩)
 refine⟨n0,λn hle=>?_⟩;unfold Gv;rw[if_pos];exact⟨λm hm=>⟨n,hn n hle m hm⟩,hk⟩
def ah.det {T:cK}{f:Nat}{ds:List D}{d d':D}(h:ah T f ds d)(k:ah T f ds d'):d=d':=by
 obtain⟨n0,hn⟩:=h;obtain⟨n1,h1⟩:=k;have:=(hn (max n0 n1) (by omega)).symm.trans (h1 (max n0 n1) (by omega));exact ur this
def ah.fnOK {C:Ctx}{tab:Nat->Option PC}{ext:Nat->Option (aS->List D->Option D)}(h:TabOK C tab ext){f:Nat}{s:Sig}{ds:List D}{d:D}(hs:C.sig f=some s)(hr:ah (eM tab ext) f ds d)(hm:rQ s.mode=false:=by rfl):ff C f s ds d:=by
 obtain⟨n0,hn⟩:=hr;exact((aaO h n0).1 f ds d (hn n0 (aX _)) s hs).1 hm
def Le (Z Ψ:aS):Prop:=∀f ds d,Z f ds=some d->Ψ f ds=some d
def Env.setR_r (O:Env)(t u:Nat)(d:D):(O.setR t d).r u=if u=t then d else O.r u:=by simp only[Env.setR,fp]
def Env.setO_o (O:Env)(t u:Nat)(d:D):(O.setO t d).o u=if u=t then d else O.o u:=by simp only[Env.setO,fp]
def Env.join_r (O O':Env)(lr lo:List Nat)(u:Nat):(O.join lr lo O').r u=if u∈lr then O'.r u else O.r u:=by simp only[Env.join,Env.put,ve]
def Env.join_o (O O':Env)(lr lo:List Nat)(u:Nat):(O.join lr lo O').o u=if u∈lo then O'.o u else O.o u:=by simp only[Env.join,Env.put,ve]
def Ng (f:Nat->D)(i:Nat)(is:List Nat)(x:D)(xs:List D)(u:Nat):putL f (i::is) (x::xs) u=if u=i then x else putL f is xs u:=by simp only[putL,fp]
def Nh (f:Nat->D)(xs:List D)(u:Nat):putL f [] xs u=f u:=by cases xs<;>rfl
def arf (g:Nat×Bool)(gs:List (Nat×Bool))(O:Env):holds (g::gs) O=((O.r g.1).b==g.2&&holds gs O):=rfl
def D.tget_tup (x:List D)(i:Nat):(D.tup x).tget i=x.getD i .none:=rfl
def D.c_agg (x:List D)(i:Nat):(D.agg x).c i=x.getD i .none:=rfl
end Cx
