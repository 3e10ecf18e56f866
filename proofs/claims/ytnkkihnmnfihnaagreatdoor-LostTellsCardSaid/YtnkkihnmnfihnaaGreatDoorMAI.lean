import Derived.Test.YtnkkihnmnfihnaaGreatDoorMAH
import Derived.Below
import Derived.ChangeSame
import Derived.WalkKit
import Derived.ProofKit
import Derived.OpenShut
import Derived.Carry
import Derived.JoinedCond
noncomputable section
set_option linter.all false
namespace Cx
open Go Go.RowKit
def aaV (m:Nat)(s:Sig):Snap:=⟨s.args.map .dat++List.replicate (m-s.args.length) .none,[]⟩
def lV (ds:List D):Env:=⟨λt=>ds.getD t .none,λ_=>.none⟩
def vU (C:Ctx)(fn:Func)(s:Sig)(ids:List Nat)(S0:Snap):Option PC:=
 match fn.body with
 |some c=>
  (comp C fn s fn.ntmps ids (NH C fn.ntmps ids) false c S0).bind λr=>
    match r.out with
    |none=>some r.pc
    |some S=>(zZ C fn s (S.st ids)).map λe=>.seq r.pc (.ret e)
 |none=>none
def Qu (m:Nat)(shs:List Sh)(obs:List (Nat×Ob))(ids:List Nat):Snap:=⟨shs++List.replicate (m-shs.length) .none,ids.map (eU obs)⟩
def KD (shs:List Sh)(obs:List (Nat×Ob))(ds:List D):Env:=nM obs ds (ds.drop shs.length)
def Ge (l:List Nat):Nat->List Sh->Bool
 |_,[]=>true
 |t,s::ss=>(oO s|| !fX l t)&&Ge l (t+1) ss
def Dy:List (Nat×Ob)->Nat->List PI
 |[],_=>[]
 |x::l,k=>Dy l (k+1)++[.setO x.1 (.r k)]
def ait {Z:aW}:∀(l:List (Nat×Ob)) (k:Nat) (O:Env) (ds:List D),(∀i,O.r (k+i)=ds.getD i .none)->(∀j,O.o j=.none)->PI.runs Z (Dy l k) O=some ⟨O.r,λj=>oR l ds j⟩
 |[],k,O,ds,h,ho=>by
  simp only[Dy,PI.runs]
  congr 1
  cases O with|mk r o=>congr 1;funext j;exact ho j
 |x::l,k,O,ds,h,ho=>by
  simp only[Dy,qv]
  rw[ait l (k+1) O ds.tail (λi=>by
   have:=h (i+1);rw[xS,D0 1 i,this];cases ds<;>simp) ho]
  simp only[lb,PI.runs,PI.run,PE.ev,Env.setO]
  congr 1
  congr 1
  funext j;rw[fQ];have h0:=h 0;simp only[jB] at h0;cases ds with
  |nil=>
   have e:∀m j,oR m [] j=D.none:=λm j=>by cases m<;>rfl
   rw[h0];split<;>simp[e]
  |cons d ds=>
   simp only[oR,List.tail_cons];by_cases hj:j=x.1
   .subst hj;rw[if_pos rfl,iK,h0];rfl
   .rw[if_neg hj,eY (λe=>hj e.symm)];rfl
def axt {Z:aW}(shs:List Sh)(obs:List (Nat×Ob))(ds:List D):PI.runs Z (Dy obs shs.length) (lV ds)=some (KD shs obs ds):=by
 rw[ait obs shs.length (lV ds) (ds.drop shs.length) (λi=>by simp[lV,aL]) (λj=>rfl)];rfl
def IC (fn:Func):List Nat:=match fn.body with|some c=>cN c|none=>[]
def wY:List (Nat×Ob)->Bool
 |[]=>true
 |x::l=>(match x.2 with|.tr=>false|_=>true)&&wY l
def nA (C:Ctx)(fn:Func)(s:Sig)(ids:List Nat):Option PC:=
 match C.yl with
 |none=>
  match s.mode with
  |.ob shs obs=>bif Nat.ble shs.length fn.ntmps&&Ge (IC fn) 0 shs&&shs.all u7&&wY obs then(vU C fn s ids (Qu fn.ntmps shs obs ids)).map λpc=>.seq (.is (Dy obs shs.length)) pc else none
  |_=>bif Nat.ble s.args.length fn.ntmps then vU C fn s ids (aaV fn.ntmps s) else none
 |some _=>none
def adD:∀(ids:List Nat) (j:Nat),dG ids [] j=.dead
 |[],_=>rfl
 |_::_,_=>rfl
def Qc {C:Ctx}{Z:aW}(bo:dJ C)(hΦ:dw C Z)(gr:gY C Z){fn:Func}{s:Sig}{ids:List Nat}{S0:Snap}{pc:PC}{c:Code}(hb:fn.body=some c)(hc:vU C fn s ids S0=some pc){w0:World}{σ0:Base}(mF:σ0.fin)(hC:CtxOK C σ0)(hY:qJ C Z w0 σ0)
 {N:Nat} {O:Env} {d:D} {a:Act} {w:World} (hn:a.tmps.size=fn.ntmps) (hg:Good C w0 σ0 (S0.st ids) O (λ_=>False) a w) (he:pc.ev Z N O=some (.ret d)):
 c.wpIn (FR none) 0 C.P (λe a' w'=>(e=.normal\/e=.ret)/\sv C w0 σ0 fn s d a'.tmps a'.defers w'/\SameBut (λt=>t∈cN c) a a') a w:=by
 unfold vU at hc;rw[hb] at hc;simp only[aA] at hc;obtain⟨r,hr,hc⟩:=hc;have RX:=λx hx=>alo (fn:=fn) (s:=s) (N:=N) gr (aw0 (n:=fn.ntmps) (ids:=ids) bo hΦ) c false S0 r hr none w0 σ0 (λt=>t∈cN c) O x a w (λ_=>⟨rfl,mF⟩) hC hY (λ_ h=>h) hn hg hx;split at hc
 .rename_i ls;cases hc;refine wpIn_mono (RX (.ret d) he) λe a' w' ho=>?_;cases e with
  |normal=>obtain⟨_,_,h,_⟩:=ho;cases h
  |exit id=>obtain⟨_,_,h,_⟩:=ho;cases h
  |ret=>obtain⟨d',h,h2⟩:=ho;cases h;exact⟨.inr rfl,h2⟩
  |_=>exact ho.elim
 .rename_i S ls;simp only[aD] at hc;obtain⟨pe,wC,rfl⟩:=hc;simp only[PC.ev] at he;split at he
  .rename_i ρ1 h1;cases he;refine wpIn_mono (RX (.next ρ1) h1) λe a' w' ho=>?_;cases e with
   |normal=>
    obtain⟨O2,S2,e1,e2,nF,jM⟩:=ho;cases e1;rw[ls] at e2;cases e2;obtain⟨σ2,own,hv,hi⟩:=jM;exact⟨.inl rfl,Inv.retD hC (λ_=>rfl) mF wC _ hi rfl,nF⟩
   |exit id=>obtain⟨_,_,h,_⟩:=ho;cases h
   |ret=>obtain⟨d',h,h2⟩:=ho;cases h
   |_=>exact ho.elim
  .rename_i aF;refine wpIn_mono (RX (.ret d) he) λe a' w' ho=>?_;cases e with
   |normal=>obtain⟨_,_,h,_⟩:=ho;cases h
   |exit id=>obtain⟨_,_,h,_⟩:=ho;cases h
   |ret=>obtain⟨d',h,h2⟩:=ho;cases h;exact⟨.inr rfl,h2⟩
   |_=>exact ho.elim
def sv.leaves {C:Ctx}{w0:World}{σ0:Base}{fn:Func}{s:Sig}{d:D}{tmps:Array Value}{R:Ending->World->Prop}(hR:∀w',OQ C w0 σ0 fn s d {tmps:=tmps,defers:=[]} w'->∃v,(results fn tmps).run C.P w'=.ok v w'/\R (.returned v) w'):
 ∀(ds:List Deferred) (w:World),sv C w0 σ0 fn s d tmps ds w->LeavesInM (FR none) 0 C.P fn tmps R ds .returning w
 |[],w,h=>hR w h
 |x::ds,w,⟨D,h1,h2,h3⟩=>⟨by simp,.inl ⟨D,_,h1,run_takeDeferred h2,sv.leaves hR ds _ h3⟩⟩
def amz {C:Ctx}{V:Im}{w:World}{args:Array Value}{ds:List D}{s:Sig}{m:Nat}{ids:List Nat}(aC:V.ok w)(ha:qC C V s.args args.toList ds):
 Good C w (Base.mk0 V w.heap.size) ((aaV m s).st ids) (lV ds) (λ_=>False) {tmps:=args++Array.replicate (m-args.size) undef,defers:=[]} w:=by
 obtain⟨h1,h2,h3⟩:=ha;have aJ:args.size=s.args.length:=by simpa using h1
 refine⟨V,λ_=>none,λ_=>undef,trivial,aC,.refl V,λ_ k e=>(aC.m k _ e).lt,λ_ _ _ h=>.inl h,λ_ _ h=>.inl h,.refl _ _,bB _,(λk j h=>by cases h),λt=>?_,λj=>?_,λt gs s' e=>absurd e (Snap.noOpt _ _ t gs s'),
  .none,λ_=>False,λ_=>False,⟨⟨λ_=>id,λ_=>id⟩,(λk j h=>by cases h),λ_ _ _ _=>id,λ_ _ _=>id,λ_ _ _=>id⟩,λj hj=>?_⟩
 .show aI C _ _ V _ (cP ((s.args.map Sh.dat++List.replicate (m-s.args.length) Sh.none).getD t .none)) _ _;rw[aL];by_cases ht:t<s.args.length
  .rw[lP (by simpa using ht),cM,bL ht];simp only[ld,jc,cP];have:=h3 t _ (bL ht);have e1:(args++Array.replicate (m-args.size) undef).getD t undef=args.toList.getD t undef:=by
        simp only[eG,aL];rw[Zy (by omega)];simp
   show aI C _ _ V _ (.dat _) ((args++Array.replicate (m-args.size) undef).getD t undef) (ds.getD t .none);rw[e1];exact this
  .rw[mu (by simpa using ht),ZR];split<;>trivial
 .show cI C _ _ V _ _ w _ j (dG ids [] j);rw[adD];trivial
 .change dG ids [] j=.tr at hj;rw[adD] at hj;cases hj
def Qd {C:Ctx}{Z:aW}(bo:dJ C)(hΦ:dw C Z)(gr:gY C Z){f:Nat}{fn:Func}{s:Sig}{ids:List Nat}{pc:PC}(hf:C.P.funcs[f]?=some fn)(hc:nA C fn s ids=some pc){N:Nat}{ds:List D}{d:D}(db:rv s.mode=false)
 (he:pc.ev Z N (lV ds)=some (.ret d)):jz C f s ds d:=by
 intro V w args aC hC ha;unfold nA at hc;split at hc
 case h_2=>cases hc
 rename_i lC;split at hc
 case h_1=>rename_i e;rw[e] at db;cases db
 cases hle:Nat.ble s.args.length fn.ntmps<;>simp only[hle,zyy,zyx] at hc
 .cases hc
 have FB:=kC hle;have aJ:args.size=s.args.length:=by simpa using ha.1
 cases hb:fn.body with
 |none=>unfold vU at hc;rw[hb] at hc;cases hc
 |some c=>
 refine(callsIn_wide (n:=0)).1 (callsIn_of_wp_marks (F:=FR none) hf hb trivial ?_);have hg:=amz (C:=C) (m:=fn.ntmps) (ids:=ids) aC ha;have hn:(args++Array.replicate (fn.ntmps-args.size) undef).size=fn.ntmps:=by simp;omega
 refine wpIn_mono (Qc bo hΦ gr hb hc (σ0:=Base.mk0 V w.heap.size) trivial hC (λJ ys e=>by rw[lC] at e;cases e) hn hg he) λe a' w' ho=>?_
 have main:=sv.leaves (R:=λe w'=>∃v V',e=.returned v/\V.le V'/\V'.ok w'/\Below w.heap.size w w'/\
  (∀k o x,V'.c k o=some x->V.c k o=some x\/w.heap.size<=k)/\(∀k x,V'.m k=some x->V.m k=some x\/w.heap.size<=k)/\nr C s V' w w' v d) (λw2 FV=>by
  obtain⟨v,V',_,h2,h3,h4,h5,h6,h7,h8⟩:=FV;exact⟨v,h2,v,V',rfl,h3,h4,h5,h6,h7,h8⟩) _ _ ho.2.1
 rcases ho.1 with rfl|rfl<;>exact main
def Base.mkO (V:Im)(own:Nat->Option Nat)(w:World)(cx:Nat->Prop):Base:=
 {V with
  B:=0
  fin:=True
  F:=λ_ fx lh w'=>(∀k,fx k↔(k<w.heap.size/\own k=none))/\(∀k,lh k↔(fx k/\cx k))/\w.heap.size<=w'.heap.size/\∀k,fx k->w'.heap[k]?=w.heap[k]?
  lt:=λt' fx cx w' h k hk=>xT ((h.1 k).1 hk).1 h.2.2.1
  sub:=λt' fx cx w' h k hk=>((h.2.1 k).1 hk).1
  keep:=λt' fx cx w' lM h hb hs=>⟨h.1,h.2.1,my h.2.2.1 hb.size,λk hk=>(hs k hk).trans (h.2.2.2 k hk)⟩}
def adf {l:List Nat}:∀{shs:List Sh} {k:Nat},Ge l k shs=true->∀(t:Nat) (s:Sh),shs[t]?=some s->oO s=false->(k+t)∉l
 |[],k,_,t,s,h,_=>by simp at h
 |x::shs,k,hk,t,s,h,hd=>by
  simp only[Ge,av,gJ,jb] at hk;cases t with
  |zero=>
   simp at h;subst h;rcases hk.1 with h1|h1
   .rw[hd] at h1;cases h1
   .intro hm;rw[jB] at hm;rw[(ry _ _).2 hm] at h1;cases h1
  |succ t=>
   simp at h;have:=adf hk.2 t s h hd
   rwa [xS,D0 1 t] at this
def SH (obs:List (Nat×Ob))(j:Nat):∀ids:List Nat,dG ids (ids.map (eU obs)) j=.dead\/dG ids (ids.map (eU obs)) j=eU obs j
 |[]=>.inl rfl
 |i::is=>by
  simp only[gn,dG];cases hb:Nat.beq i j
  .exact SH obs j is
  .right;rw[aE hb];rfl
def aej:∀{l:List (Nat×Ob)},wY l=true->∀x,x∈l->x.2≠.tr
 |[],_,x,hx=>by cases hx
 |y::l,h,x,hx=>by
  simp only[wY,av] at h;rcases cQ.1 hx with rfl|hx
  .intro e;rw[e] at h;cases h.1
  .exact aej h.2 x hx
def aek:∀{l:List (Nat×Ob)},wY l=true->∀j,eU l j≠.tr
 |[],_,j,e=>by cases e
 |x::l,h,j,e=>by
  simp only[wY,av] at h;simp only[eU] at e;cases hb:Nat.beq x.1 j<;>simp only[hb,zyy,zyx] at e
  .exact aek h.2 j e
  .have h1:=h.1;rw[e] at h1;cases h1
def amy {C:Ctx}{V:Im}{own:Nat->Option Nat}{hv:Nat->Value}{w w0:World}{args:Array Value}{cx:Nat->Prop}{shs:List Sh}{obs:List (Nat×Ob)}{ds:List D}{m:Nat}{ids:List Nat}(hN:w0.heap.size<=w.heap.size)(Fj:Below 0 w0 w)(aC:V.ok w)(bz:∀k,V.m k≠some dg)(aJ:args.size=shs.length)
 (cH:∀k j,own k=some j->w0.heap.size<=k/\k<w.heap.size/\(∀o,V.c k o=none)/\V.m k=none) (lY:∀k,cx k->k<w.heap.size/\own k=none/\(∀o,V.c k o=none)/\V.m k=none) (uM:wY obs=true) (dB:shs.all u7=true)
 (h1:∀t,aI C (gE shs obs) (KD shs obs ds) V hv (shs.getD t .none) (args.getD t undef) (ds.getD t .none)) (h2:∀j,cI C (gE shs obs) (KD shs obs ds) V own hv w w0.heap.size j (eU obs j)):
 Good C w0 (Base.mkO V own w cx) ((Qu m shs obs ids).st ids) (KD shs obs ds) (λ_=>False) {tmps:=args++Array.replicate (m-args.size) undef,defers:=[]} w:=by
 have sN:Compat (gE shs obs) hv ((Qu m shs obs ids).st ids) hv:=⟨λ_=>bB _,λ_ _=>rfl⟩
 refine⟨V,own,hv,trivial,aC,.refl V,λ_ k e=>absurd e (bz k),λ_ _ _ h=>.inl h,λ_ _ h=>.inl h,Fj,om _,cH,λt=>?_,λj=>?_,λt gs s' e=>absurd e (Snap.noOpt _ _ t gs s'),
  .none,(λk=>k<w.heap.size/\own k=none),cx,⟨⟨λ_=>Iff.rfl,λk=>⟨λh=>⟨⟨(lY k h).1,(lY k h).2.1⟩,h⟩,λh=>h.2⟩,bB _,λ_ _=>rfl⟩,(λk j h hf=>by rw[hf.2] at h;cases h),(λk o x e hc=>by rw[(lY k hc).2.2.1 o] at e;cases e),(λk x e hc=>by rw[(lY k hc).2.2.2] at e;cases e),λk e=>absurd e (bz k)⟩,λj hj=>?_⟩
 .show aI C _ _ V _ (cP ((shs++List.replicate (m-shs.length) Sh.none).getD t .none)) _ _;refine Om ?_;rw[aL];by_cases ht:t<shs.length
  .rw[lP ht];have:=h1 t;rw[aL (l:=shs)] at this;have e1:(args++Array.replicate (m-args.size) undef).getD t undef=args.getD t undef:=by
        simp only[eG];rw[Zy (by omega)]
   show aI C _ _ V _ _ ((args++Array.replicate (m-args.size) undef).getD t undef) (ds.getD t .none);rw[e1];refine aI.mono' (.refl V) sN (λgs s' e=>?_) this;have hp:=bT.1 dB _ (cG ht);rw[bL ht] at e;simp only[jc] at e;rw[e] at hp;cases hp
  .rw[mu (by omega),ZR];split<;>trivial
 .show cI C _ _ V _ _ w _ j (dG ids (ids.map (eU obs)) j);rcases SH obs j ids with e|e
  .rw[e];trivial
  .rw[e];exact(h2 j).mono (.refl V) sN rfl rfl (λk hk=>⟨hk,rfl⟩)
 .change dG ids (ids.map (eU obs)) j=.tr at hj;rcases SH obs j ids with e|e
  .rw[e] at hj;cases hj
  .rw[e] at hj;exact absurd hj (aek uM j)
def Kz (w:World)(N:Nat):World:={w with heap:=w.heap.extract 0 N}
def alh {C:Ctx}{Z:aW}(bo:dJ C)(hΦ:dw C Z)(gr:gY C Z){f:Nat}{fn:Func}{s:Sig}{ids:List Nat}{pc:PC}(hf:C.P.funcs[f]?=some fn)(hc:nA C fn s ids=some pc){N:Nat}{ds:List D}{d:D}{shs:List Sh}{obs:List (Nat×Ob)}(db:s.mode=.ob shs obs)
 (he:pc.ev Z N (lV ds)=some (.ret d)):iJ C f shs obs s.res ds d:=by
 unfold nA at hc;split at hc
 case h_2=>cases hc
 rename_i lC;rw[db] at hc;simp only at hc;cases hle:(Nat.ble shs.length fn.ntmps&&Ge (IC fn) 0 shs&&shs.all u7&&wY obs)<;>simp only[hle,zyy,zyx] at hc
 .cases hc
 simp only[av] at hle;obtain⟨⟨⟨l1,l2⟩,l3⟩,l4⟩:=hle;refine iJ.of (aej l4) ?_;intro B V own hv w args cx _ aC hC bz hB aJ cH lY h1 h2;simp only[aD] at hc;obtain⟨pc,hc,rfl⟩:=hc;simp only[PC.ev,axt,ld] at he;have FB:=kC l1;cases hb:fn.body with
 |none=>unfold vU at hc;rw[hb] at hc;cases hc
 |some c=>
 have bk:IC fn=cN c:=by unfold IC;rw[hb]
 rw[bk] at l2;refine(callsIn_wide (n:=0)).1 (callsIn_of_wp_marks (F:=FR none) hf hb trivial ?_);have sW:(Kz w B).heap.size=B:=by simp[Kz];omega
 have Fj:Below 0 (Kz w B) w:=⟨rfl,rfl,rfl,by rw[sW];exact hB,λk hk=>by omega⟩
 have hg:=amy (C:=C) (m:=fn.ntmps) (ids:=ids) (w0:=Kz w B) (cx:=cx) (by rw[sW];exact hB) Fj aC bz aJ (by rw[sW];exact cH) lY l4 l3 h1 (by rw[sW];exact h2);have hn:(args++Array.replicate (fn.ntmps-args.size) undef).size=fn.ntmps:=by simp;omega
 refine wpIn_mono (Qc bo hΦ gr hb hc (σ0:=Base.mkO V own w cx) trivial hC (λJ ys e=>by rw[lC] at e;cases e) hn hg he) λe a' w' ho=>?_;obtain⟨iT,FV,jj⟩:=ho
 have main:=sv.leaves (R:=λe w'=>∃v V' own' hv' dr os,e=.returned v/\d=.tup (dr::os)/\os.length=obs.length/\V.le V'/\V'.ok w'/\Below 0 w w'/\
  (∀k,k<w.heap.size->own k=none->w'.heap[k]?=w.heap[k]?)/\
  (∀k o x,V'.c k o=some x->(V.c k o=some x\/B<=k)/\¬cx k)/\(∀k x,V'.m k=some x->(V.m k=some x\/B<=k)/\¬cx k)/\(∀k,V'.m k=some dg->B<=k->k<w.heap.size->own k≠none)/\
  (∀k j,own' k=some j->B<=k/\k<w'.heap.size/\(∀o,V'.c k o=none)/\V'.m k=none/\(k<w.heap.size->own k≠none))/\
  (∀(t:Nat) (sh:Sh),shs[t]?=some sh->oO sh=false->aI C (gE shs obs) (nM obs ds os) V' hv' sh (args.getD t undef) (ds.getD t .none))/\
  (∀j,cI C (gE shs obs) (nM obs ds os) V' own' hv' w' B j (eU obs j))/\Rep C.cap V' s.res v dr) (λw2 hr=>by
  obtain⟨v,V',⟨own',t,fx,lh,dq,_,LK⟩,ar,kK,RF,Fh,dh,cS,_⟩:=hr;obtain⟨hv',dr,os,e1,e2,e3,e4,e5,e6⟩:=LK shs obs db;obtain⟨f1,f2,f3,f4⟩:=dq.F;have abM:∀k,cx k->lh k:=λk hk=>(f2 k).2 ⟨(f1 k).2 ⟨(lY k hk).1,(lY k hk).2.1⟩,hk⟩;rw[sW] at dh cS e3 e5
  refine⟨v,ar,v,V',own',hv',dr,os,rfl,e1,e2,kK,RF,⟨Fh.os,Fh.tape,Fh.output,f3,λk hk=>by omega⟩,λk hk hn=>f4 k ((f1 k).2 ⟨hk,hn⟩),λk o x e=>⟨dh k o x e,λhk=>dq.c k o x e (abM k hk)⟩,λk x e=>⟨cS k x e,λhk=>dq.m k x e (abM k hk)⟩,
   λk e QO hk hn=>dq.d k e (by rw[sW];exact QO) ((f1 k).2 ⟨hk,hn⟩),λk j hk=>?_,λt sh hs hd=>?_,λj=>?_,e6⟩
  .obtain⟨g1,g2,g3,g4⟩:=e3 k j hk;exact⟨g1,g2,g3,g4,λao hn=>dq.own k j hk ((f1 k).2 ⟨ao,hn⟩)⟩
  .have:=e4 t sh hs hd (ds.getD t .none);have ao:t<shs.length:=(fo.1 hs).1;have oG:t∉cN c:=by have:=adf l2 t sh hs hd;simpa using this
   have cK:a'.tmps.getD t undef=args.getD t undef:=by
        rw[jj.get t oG];simp only[eG];rw[Zy (by omega)]
   simp only at this;rw[cK] at this;have hp:=bT.1 l3 _ (mw hs);exact aI.mono' (.refl V') ⟨λ_=>bB _,λ_ _=>rfl⟩ (λgs s' e=>by rw[e] at hp;cases hp) this
  .exact cI.mono (S:=gE shs obs) (S':=gE shs obs) (O:=nM obs [] os) (O':=nM obs ds os) (hv:=hv') (hv':=hv') (own:=own') (own':=own') (w:=w2) (w':=w2) (.refl V') ⟨λ_=>bB _,λ_ _=>rfl⟩ rfl rfl (λk hk=>⟨hk,rfl⟩) (e5 j)) _ _ FV
 rcases iT with rfl|rfl<;>exact main
def aaU (m:Nat)(cts:List Ty)(J:Nat)(ids:List Nat):Snap:=⟨.yv::(cts.map .dat++List.replicate (m-(cts.length+1)) .none),ids.map λj=>bif Nat.beq j J then .tr else .dead⟩
def BM (J:Nat)(ds:List D):Env:=⟨λt=>(D.none::ds).getD t .none,λj=>bif Nat.beq j J then .list [] else .none⟩
def Ev (C:Ctx)(fn:Func)(cts ys:List Ty)(J:Nat)(ids:List Nat):Option PC:=
 match C.yl,C.sig od,C.cap od with
 |none,none,none=>bif Nat.ble (cts.length+1) fn.ntmps then vU {C with yl:=some (J,ys)} fn ⟨[],.tup [],.it J⟩ ids (aaU fn.ntmps cts J ids) else none
 |_,_,_=>none
open Classical in
def yldΦ (Z:aW)(xs:List D)(m:Nat):aW:=λf ds=>
 if f=od then(match ds with|[.list l]=>if 0<l.length/\l.length<=m+1/\l=xs.take l.length then some (.v (.bool (decide (l.length<=m)))) else none|_=>none)
 else Z f ds
def yldΦ_at {Z:aW}{xs l ds:List D}{d:D}{m:Nat}(h:yldΦ Z xs m od [.list (l++[.tup ds])]=some d):l.length<=m/\l=xs.take l.length/\xs[l.length]?=some (.tup ds)/\l++[.tup ds]=xs.take (l.length+1)/\d=.v (.bool (decide (l.length<m))):=by
 simp only[yldΦ,if_true] at h;split at h
 .rename_i hc;obtain⟨h1,h2,h3⟩:=hc;simp only[jW,lQ,sq,iL] at h2 h3 h;have hx:xs[l.length]?=some (.tup ds):=by
   have:(xs.take (l.length+1))[l.length]?=some (.tup ds):=by rw[<-h3];simp
   rw[gm] at this;simpa using this
  have hl:l=xs.take l.length:=by
   have:=congrArg (List.take l.length) h3;simpa [List.take_take] using this
  refine⟨by omega,hl,hx,h3,?_⟩;cases h
  congr 2
 .cases h
def dw.yl {C:Ctx}{Z:aW}(h:dw C Z){y:Option (Nat×List Ty)}{v:Value}{xs:List D}{m:Nat}(hs:C.sig od=none):dw {C with yl:=y,yv:=v} (yldΦ Z xs m):=by
 intro f ds d e s fD;have aF:f≠od:=λe'=>by subst e';change C.sig od=some s at fD;rw[hs] at fD;cases fD
 simp only[yldΦ,if_neg aF] at e;obtain⟨h1,h2⟩:=h f ds d e s fD;exact⟨λhm V w args aC hC ha=>h1 hm V w args aC ⟨hC.glob⟩ ha,λshs obs hm=>(h2 shs obs hm).ctx rfl rfl rfl⟩
def nl.yl {C:Ctx}{y:Option (Nat×List Ty)}{v:Value}{f:Nat}{cts ys:List Ty}{ds xs:List D}(h:nl C f cts ys ds xs):nl {C with yl:=y,yv:=v} f cts ys ds xs:=
 λV w yv vs F fx cx m aC hC=>h V w yv vs F fx cx m aC ⟨hC.glob⟩
def gY.yl {C:Ctx}{Z:aW}(h:gY C Z){y:Option (Nat×List Ty)}{v:Value}{xs:List D}{m:Nat}(hs:C.cap od=none):gY {C with yl:=y,yv:=v} (yldΦ Z xs m):=by
 intro f cs ys hc hi;have aF:f≠od:=λe'=>by subst e';change C.cap od=some cs at hc;rw[hs] at hc;cases hc
 obtain⟨h1,h2⟩:=h f cs ys hc hi;refine⟨h1,λds d e=>?_⟩;simp only[yldΦ,if_neg aF] at e;obtain⟨xs,e1,e2,e3⟩:=h2 ds d e;exact⟨xs,e1,e2,e3.yl⟩
def ZJ (Z:aW)(pc:PC)(J:Nat)(ds xs:List D):Prop:=∀m,m<=xs.length->∃N,pc.ev (yldΦ Z xs m) N (BM J ds)=some (.ret (.list (xs.take (m+1))))
def amx {C:Ctx}{V:Im}{σ0:Base}{w:World}{yv:Value}{vs:List Value}{ds:List D}{cts ys:List Ty}{J m:Nat}{ids:List Nat}(aC:V.ok w)(ha:qC C V cts vs ds)(hm:cts.length+1<=m)(lC:C.yl=some (J,ys))(F6:C.yv=yv)
 (h0:σ0.toIm=V) (hB:σ0.B=0) {fx cx:Nat->Prop} (hF:σ0.F (.list []) fx cx w) (jH:∀k o x,V.c k o=some x->¬cx k) (pR:∀k x,V.m k=some x->¬cx k):
 Good C w σ0 ((aaU m cts J ids).st ids) (BM J ds) (λ_=>False) {tmps:=#[yv]++vs.toArray++Array.replicate (m-(vs.length+1)) undef,defers:=[]} w:=by
 obtain⟨h1,h2,h3⟩:=ha
 refine⟨V,λ_=>none,λ_=>undef,trivial,aC,by rw[h0];exact .refl V,λ_ k e=>by rw[h0] at e;exact(aC.m k _ e).lt,λ_ _ _ h=>by rw[h0];exact .inl h,λ_ _ h=>by rw[h0];exact .inl h,.refl _ _,by omega,(λk j h=>by cases h),λt=>?_,λj=>?_,λt gs s' e=>absurd e (Snap.noOpt _ _ t gs s'),
  .list [],fx,cx,⟨hF,(λk j h=>by cases h),jH,pR,λk e hk=>by have:=(aC.m k _ e).lt;omega⟩,λj hj=>?_⟩
 .show aI C _ _ V _ (cP ((Sh.yv::(cts.map Sh.dat++List.replicate (m-(cts.length+1)) Sh.none)).getD t .none)) ((#[yv]++vs.toArray++Array.replicate (m-(vs.length+1)) undef).getD t undef) ((D.none::ds).getD t .none);have ea:((#[yv]++vs.toArray++Array.replicate (m-(vs.length+1)) undef).getD t undef)=(yv::(vs++List.replicate (m-(vs.length+1)) undef)).getD t undef:=by
   rw[eG,<-DO,aL];simp
  rw[ea];cases t with
  |zero=>simp only[vJ,cP];exact F6.symm
  |succ t=>
   simp only[DV];rw[aL];by_cases ht:t<cts.length
   .rw[lP (by simpa using ht),cM,bL ht];simp only[ld,jc,cP];have:=h3 t _ (bL ht);have e1:(vs++List.replicate (m-(vs.length+1)) undef).getD t undef=vs.getD t undef:=by
     simp only[aL];rw[lP (by omega)]
    show aI C _ _ V _ (.dat _) _ (ds.getD t .none);rw[e1];exact this
   .rw[mu (by simpa using ht),ZR];split<;>trivial
 .show cI C _ _ V _ _ w _ j (dG ids (ids.map λj=>bif Nat.beq j J then .tr else .dead) j);refine zm _ (λob=>cI C _ _ V _ _ w _ j ob) trivial j ?_ ids;cases Nat.beq j J<;>trivial
 .change dG ids (ids.map λj=>bif Nat.beq j J then .tr else .dead) j=.tr at hj
  have hb:=zm (λj=>bif Nat.beq j J then Ob.tr else .dead) (λob=>ob=.tr->Nat.beq j J=true) (λe=>by cases e) j (λe=>by
   cases hb:Nat.beq j J
   .rw[hb] at e;cases e
   .rfl) ids hj
  have:=aE hb;subst this;refine⟨⟨ys,lC⟩,?_⟩;show(bif Nat.beq j j then D.list [] else .none)=_;rw[iK];rfl
def ali {C:Ctx}{Z:aW}(bo:dJ C)(hΦ:dw C Z)(gr:gY C Z){f:Nat}{fn:Func}{cts ys:List Ty}{J:Nat}{ids:List Nat}{pc:PC}(hf:C.P.funcs[f]?=some fn)(hc:∀yv,Ev {C with yv:=yv} fn cts ys J ids=some pc){ds xs:List D}
 (hr:ZJ Z pc J ds xs):nl C f cts ys ds xs:=by
 intro V w yv vs F fx cx m aC hC ha hm ao cq yQ hF jH pR Sm;have hc:=hc yv;unfold Ev at hc;split at hc
 case h_2=>cases hc
 rename_i lC hsy hcy;cases hle:Nat.ble (cts.length+1) fn.ntmps<;>simp only[hle,zyy,zyx] at hc
 .cases hc
 have FB:=kC hle;obtain⟨N,he⟩:=hr m hm;cases hb:fn.body with
 |none=>unfold vU at hc;rw[hb] at hc;cases hc
 |some c=>
 refine(callsIn_wide (n:=0)).1 (callsIn_of_wp_marks (F:=FR none) hf hb trivial ?_);obtain⟨σ0,hσ0⟩:∃σ0:Base,σ0={V with B:=0,fin:=True,F:=λt fx cx w=>(∃l,t=.list l)/\F t fx cx w,lt:=λt fx cx w h=>ao t fx cx w h.2,sub:=λt fx cx w h=>cq t fx cx w h.2,keep:=λt fx cx w w' h hb hs=>⟨h.1,yQ t fx cx w w' h.2 hb hs⟩}:=⟨_,rfl⟩
 have e1:σ0.toIm=V:=by rw[hσ0]
 have e2:σ0.B=0:=by rw[hσ0]
 have e3:σ0.fin:=by rw[hσ0];trivial
 have e4:∀t fx cx w,σ0.F t fx cx w↔(∃l,t=.list l)/\F t fx cx w:=λt fx cx w=>by rw[hσ0]
 have hg:=amx (C:={C with yl:=some (J,ys),yv:=yv}) (σ0:=σ0) (w:=w) (yv:=yv) (vs:=vs) (ds:=ds) (cts:=cts) (ys:=ys) (J:=J) (m:=fn.ntmps) (ids:=ids) aC ha FB rfl rfl e1 e2 ((e4 _ _ _ _).2 ⟨⟨_,rfl⟩,hF⟩) jH pR;have aJ:(#[yv]++vs.toArray).size=vs.length+1:=by simp<;>omega
 have LR:vs.length=cts.length:=ha.1;have hY:qJ {C with yl:=some (J,ys),yv:=yv} (yldΦ Z xs m) w σ0:=by
  intro J' ys' e;cases e;refine⟨e2,λt fx cx w h=>((e4 _ _ _ _).1 h).1,λkZ ds' d hd fx cx w1 σ1 args BY aqo yB wj yV dh cS=>?_⟩;obtain⟨g1,g2,g3,g4,rfl⟩:=yldΦ_at hd;rw[e1] at dh cS;have:=Sm kZ.length fx cx w1 σ1 args ds' g1 g3 (by rw[<-g2];exact((e4 _ _ _ _).1 BY).2) aqo yB wj yV dh cS;intro rd o a x aa ts K Q bV hv has hK;refine this rd o a x aa ts K Q bV hv has λu w2 hu=>hK u w2 ?_;obtain⟨u1,u2,u3,oz,lh,u4,u5,u6⟩:=hu;refine⟨_,rfl,u1,u2,u3,oz,lh,(e4 _ _ _ _).2 ⟨⟨_,rfl⟩,?_⟩,u5,u6⟩;rw[g4];exact u4
 have hn:(#[yv]++vs.toArray++Array.replicate (fn.ntmps-(vs.length+1)) undef).size=fn.ntmps:=by simp;omega
 rw[aJ];refine wpIn_mono (Qc (C:={C with yl:=some (J,ys),yv:=yv}) bo (hΦ.yl hsy) (gr.yl hcy) hb hc (σ0:=σ0) e3 (by rw[e1];exact⟨hC.glob⟩) hY hn hg he) λe a' w' ho=>?_
 have main:=sv.leaves (R:=λe w'=>(∃v,e=.returned v)/\∃fx cx,F (.list (xs.take (m+1))) fx cx w') (λw2 FV=>by
  obtain⟨v,V',⟨own,t,fx,cx,h1,ht,_⟩,h2,_⟩:=FV;refine⟨v,h2,⟨v,rfl⟩,fx,cx,?_⟩;rw[ht J rfl];exact((e4 _ _ _ _).1 h1.F).2) _ _ ho.2.1
 rcases ho.1 with rfl|rfl<;>exact main
def eH (tab:Nat->Option PC)(ext:Nat->Option (aW->List D->Option D)):Nat->aW
 |0=>λ_ _=>none
 |n+1=>λf ds=>
  match ext f with
  |some g=>g (eH tab ext n) ds
  |none=>
   match tab f with
   |some pc=>(match pc.ev (eH tab ext n) n (lV ds) with|some (.ret d)=>some d|_=>none)
   |none=>none
def jz.hint {C:Ctx}{fr nh:List Nat}{f:Nat}{s:Sig}{ds:List D}{d:D}(h:jz C f s ds d):jz {C with fr:=fr,nh:=nh} f s ds d:=
 λV w args aC hC ha=>h V w args aC ⟨hC.glob⟩ ha
def jz.unhint {C:Ctx}{fr nh:List Nat}{f:Nat}{s:Sig}{ds:List D}{d:D}(h:jz {C with fr:=fr,nh:=nh} f s ds d):jz C f s ds d:=
 λV w args aC hC ha=>h V w args aC ⟨hC.glob⟩ ha
def nl.hint {C:Ctx}{fr nh:List Nat}{f:Nat}{cts ys:List Ty}{ds xs:List D}(h:nl C f cts ys ds xs):nl {C with fr:=fr,nh:=nh} f cts ys ds xs:=
 λV w yv vs F fx cx m aC hC=>h V w yv vs F fx cx m aC ⟨hC.glob⟩
def nl.unhint {C:Ctx}{fr nh:List Nat}{f:Nat}{cts ys:List Ty}{ds xs:List D}(h:nl {C with fr:=fr,nh:=nh} f cts ys ds xs):nl C f cts ys ds xs:=
 λV w yv vs F fx cx m aC hC=>h V w yv vs F fx cx m aC ⟨hC.glob⟩
def iJ.hint {C:Ctx}{fr nh:List Nat}{f:Nat}{shs:List Sh}{obs:List (Nat×Ob)}{res:Ty}{ds:List D}{d:D}(h:iJ C f shs obs res ds d):iJ {C with fr:=fr,nh:=nh} f shs obs res ds d:=h.ctx rfl rfl rfl
def iJ.unhint {C:Ctx}{fr nh:List Nat}{f:Nat}{shs:List Sh}{obs:List (Nat×Ob)}{res:Ty}{ds:List D}{d:D}(h:iJ {C with fr:=fr,nh:=nh} f shs obs res ds d):iJ C f shs obs res ds d:=iJ.ctx (C':=C) h rfl rfl rfl
def dw.hint {C:Ctx}{fr nh:List Nat}{Z:aW}(h:dw C Z):dw {C with fr:=fr,nh:=nh} Z:=
 λf ds d e s hs=>⟨λhm=>((h f ds d e s hs).1 hm).hint,λshs obs hm=>((h f ds d e s hs).2 shs obs hm).hint⟩
def gY.hint {C:Ctx}{fr nh:List Nat}{Z:aW}(h:gY C Z):gY {C with fr:=fr,nh:=nh} Z:=
 λf cs ys hc hi=>let⟨h1,h2⟩:=h f cs ys hc hi;⟨h1,λds d e=>let⟨xs,e1,e2,e3⟩:=h2 ds d e;⟨xs,e1,e2,e3.hint⟩⟩
def dJ.hint {C:Ctx}{fr nh:List Nat}(h:dJ C):dJ {C with fr:=fr,nh:=nh}:=h
def Ot (C:Ctx)(f:Nat)(s:Sig)(ds:List D)(d:D):Prop:=(rv s.mode=false->jz C f s ds d)/\∀shs obs,s.mode=.ob shs obs->iJ C f shs obs s.res ds d
structure TabOK (C:Ctx) (tab:Nat->Option PC) (ext:Nat->Option (aW->List D->Option D)):Prop where
 clos:dJ C
 its:∀f cs ys,C.cap f=some cs->nI cs.args cs.res=some ys->tab f=none/\∃fn,C.P.funcs[f]?=some fn/\fn.body.isSome=true/\(fn.name== "runtime.NumGoroutine")=false
 tab:∀f pc,ext f=none->tab f=some pc->∃fn s ids fr nh,C.P.funcs[f]?=some fn/\C.sig f=some s/\nA {C with fr:=fr,nh:=nh} fn s ids=some pc
 ext:∀f g,ext f=some g->∀Z,dw C Z->gY C Z->∀ds d,g Z ds=some d->(∀s,C.sig f=some s->Ot C f s ds d)/\
  ∀cs ys,C.cap f=some cs->nI cs.args cs.res=some ys->∃xs,d=.list xs/\(∀x,x∈xs->∃ds',x=.tup ds'/\ds'.length=ys.length)/\nl C f cs.caps ys ds xs
def ZY {C:Ctx}{tab:Nat->Option PC}{ext:Nat->Option (aW->List D->Option D)}(h:TabOK C tab ext):∀n,dw C (eH tab ext n)/\gY C (eH tab ext n)
 |0=>⟨λf ds d e=>by simp[eH] at e,λf cs ys hc hi=>⟨(h.its f cs ys hc hi).2,λds d e=>by simp[eH] at e⟩⟩
 |n+1=>by
  obtain⟨ih,kP⟩:=ZY h n;refine⟨λf ds d e=>?_,λf cs ys hc hi=>⟨(h.its f cs ys hc hi).2,λds d e=>?_⟩⟩
  .simp only[eH] at e;split at e
   .rename_i g hg;exact(h.ext f g hg _ ih kP ds d e).1
   .rename_i hx;split at e
    .rename_i pc ae;split at e
     .rename_i d' he;cases e;obtain⟨fn,s,ids,fr,nh,h1,h2,h3⟩:=h.tab f pc hx ae;intro s' fD;rw[h2] at fD;cases fD
      exact⟨λhm=>(Qd (C:={C with fr:=fr,nh:=nh}) (dJ.hint h.clos) (dw.hint ih) (gY.hint kP) h1 h3 hm he).unhint,
       λshs obs hm=>(alh (C:={C with fr:=fr,nh:=nh}) (dJ.hint h.clos) (dw.hint ih) (gY.hint kP) h1 h3 hm he).unhint⟩
     .cases e
    .cases e
  .simp only[eH] at e;split at e
   .rename_i g hg;exact(h.ext f g hg _ ih kP ds d e).2 cs ys hc hi
   .rw[(h.its f cs ys hc hi).1] at e;cases e
def ajU (Z:aW)(pc:PC)(J k:Nat)(ds xs:List D):Prop:=ZJ Z pc J ds xs/\∀x,x∈xs->∃ds',x=.tup ds'/\ds'.length=k
open Classical in
def Ga (pc:PC)(J k:Nat)(spec:List D->List D):aW->List D->Option D:=λZ ds=>if ajU Z pc J k ds (spec ds) then some (.list (spec ds)) else none
def arA {C:Ctx}{Z:aW}(bo:dJ C)(hΦ:dw C Z)(gr:gY C Z){f:Nat}{fn:Func}{cts ys:List Ty}{J k:Nat}{ids fr nh:List Nat}{pc:PC}(hf:C.P.funcs[f]?=some fn)(hc:∀yv,Ev {C with fr:=fr,nh:=nh,yv:=yv} fn cts ys J ids=some pc){spec:List D->List D}
 {ds:List D} {d:D} (h:Ga pc J k spec Z ds=some d) (hk:k=ys.length):∃xs,d=.list xs/\(∀x,x∈xs->∃ds',x=.tup ds'/\ds'.length=ys.length)/\nl C f cts ys ds xs:=by
 unfold Ga at h;split at h
 .rename_i hs;cases h;subst hk;exact⟨_,rfl,hs.2,(ali (C:={C with fr:=fr,nh:=nh}) (dJ.hint bo) (dw.hint hΦ) (gY.hint gr) hf hc hs.1).unhint⟩
 .cases h
def bS {α:Type}:List (Nat×α)->Nat->Option α
 |[],_=>none
 |x::l,f=>bif Nat.beq x.1 f then some x.2 else bS l f
def Ih {α:Type}(R:Nat->α->Prop):List (Nat×α)->Prop
 |[]=>True
 |x::l=>R x.1 x.2/\Ih R l
def SI {α:Type}{R:Nat->α->Prop}:∀{l:List (Nat×α)},Ih R l->∀f x,bS l f=some x->R f x
 |[],_,f,x,h=>by cases h
 |y::l,⟨h1,h2⟩,f,x,h=>by
  simp only[bS] at h;cases hb:Nat.beq y.1 f<;>simp only[hb,zyy,zyx] at h
  .exact SI h2 f x h
  .cases h;rw[<-df hb];exact h1
def Wj (P:Program):List (Nat×Sig)->Bool
 |[]=>true
 |x::l=>(match P.funcs[x.1]? with|some fn=>fn.body.isSome&& !(fn.name== "runtime.NumGoroutine")|none=>false)&&Wj P l
def aiP {P:Program}:∀{l:List (Nat×Sig)},Wj P l=true->∀f s,bS l f=some s->∃fn,P.funcs[f]?=some fn/\fn.body.isSome=true/\(fn.name== "runtime.NumGoroutine")=false
 |[],_,f,s,h=>by cases h
 |y::l,hl,f,s,h=>by
  simp only[Wj,av] at hl;simp only[bS] at h;cases hb:Nat.beq y.1 f<;>simp only[hb,zyy,zyx] at h
  .exact aiP hl.2 f s h
  .rw[<-df hb];have h1:=hl.1;split at h1
   .rename_i fn e;simp only[av,jb] at h1;exact⟨fn,e,h1.1,h1.2⟩
   .cases h1
def Wa (a b:Sig):Bool:=Ty.beqs a.args b.args&&Ty.beq a.res b.res&&(match a.mode,b.mode with|.dat,.dat=>true|_,_=>false)
def axx {a b:Sig}(h:Wa a b=true):a=b:=by
 obtain⟨a1,a2,a3⟩:=a;obtain⟨b1,b2,b3⟩:=b;simp only[Wa,av] at h;rw[Ty.beqs_eq _ _ h.1.1,Ty.beq_eq _ _ h.1.2];cases a3<;>cases b3<;>first|rfl|(have:=h.2;cases this)
def H7 (P:Program)(f:Nat):Bool:=match P.funcs[f]? with|some fn=>fn.body.isSome&& !(fn.name== "runtime.NumGoroutine")|none=>false
def axY {P:Program}{f:Nat}(h:H7 P f=true):∃fn,P.funcs[f]?=some fn/\fn.body.isSome=true/\(fn.name== "runtime.NumGoroutine")=false:=by
 unfold H7 at h;split at h
 .rename_i fn e;simp only[av,jb] at h;exact⟨fn,e,h.1,h.2⟩
 .cases h
def P6 (P:Program)(sig:List (Nat×Sig))(pcs:List Nat):List (Nat×CSig)->Bool
 |[]=>true
 |x::l=>(match nI x.2.args x.2.res with
   |none=>(match bS sig x.1 with|some s=>Wa s ⟨x.2.args++x.2.caps,x.2.res,.dat⟩|none=>false)
   |some _=> !fX pcs x.1&&H7 P x.1)&&P6 P sig pcs l
def aaq {P:Program}{sig:List (Nat×Sig)}{pcs:List Nat}:∀{l:List (Nat×CSig)},P6 P sig pcs l=true->∀f cs,bS l f=some cs->
 (nI cs.args cs.res=none->bS sig f=some ⟨cs.args++cs.caps,cs.res,.dat⟩)/\∀ys,nI cs.args cs.res=some ys->fX pcs f=false/\H7 P f=true
 |[],_,f,cs,h=>by cases h
 |x::l,hl,f,cs,h=>by
  simp only[P6,av] at hl;simp only[bS] at h;cases hb:Nat.beq x.1 f<;>simp only[hb,zyy,zyx] at h
  .exact aaq hl.2 f cs h
  .cases h;rw[<-df hb];have h1:=hl.1;refine⟨λe=>?_,λys e=>?_⟩
   .rw[e] at h1;simp only at h1;split at h1
    .rename_i s hs;rw[hs,axx h1]
    .cases h1
   .rw[e] at h1;simpa using h1
def adA {α:Type}:∀{l:List (Nat×α)} {f:Nat},fX (l.map (·.1)) f=false->bS l f=none
 |[],f,_=>rfl
 |x::l,f,h=>by
  simp only[gn,fX,List.any_cons,ZD] at h;simp only[bS];have hb:Nat.beq x.1 f=false:=by
   cases e:Nat.beq x.1 f
   .rfl
   .rw[aE e,iK] at h;cases h.1
  rw[hb];exact adA (l:=l) h.2
def ajZ (Z:aW)(pa pb:PC)(ds:List D)(d:D):Prop:=(∃N xs,pa.ev Z N (lV ds)=some (.ret (.list xs))/\xs≠[]/\d=.list xs)\/∃N,pb.ev Z N (lV ds)=some (.ret (.list []))/\d=.list []
open Classical in
def Cw (pa pb:PC)(spec:List D->D):aW->List D->Option D:=λZ ds=>if ajZ Z pa pb ds (spec ds) then some (spec ds) else none
def aui {C:Ctx}{Z:aW}(bo:dJ C)(hΦ:dw C Z)(gr:gY C Z){f:Nat}{fn:Func}{args:List Ty}{e:Ty}{ids ars fr nh frb nhb:List Nat}{pa pb:PC}(hf:C.P.funcs[f]?=some fn)(ha:nA {C with fr:=fr,nh:=nh} fn ⟨args,.slice e,.dat⟩ ids=some pa)
 (hb:nA {C with fr:=frb,nh:=nhb} fn ⟨args,.nils .bool,.dat⟩ ars=some pb) {spec:List D->D} {ds:List D} {d:D} (h:Cw pa pb spec Z ds=some d):jz C f ⟨args,.nsl e,.dat⟩ ds d:=by
 unfold Cw at h;split at h
 case isFalse=>cases h
 rename_i hs;cases h;rcases hs with⟨N,xs,h1,h2,h3⟩|⟨N,h1,h2⟩
 .rw[h3];have:=(Qd (C:={C with fr:=fr,nh:=nh}) (dJ.hint bo) (dw.hint hΦ) (gY.hint gr) hf ha (N:=N) rfl h1).unhint;intro V w aa aC hC jG;refine(this V w aa aC hC jG).mono λen w' hh=>?_;obtain⟨v,V',g1,g2,g3,g4,g5,g6,g7⟩:=hh;refine⟨v,V',g1,g2,g3,g4,g5,g6,?_⟩;change Rep C.cap V' (.slice e) v (.list xs) at g7;show Rep C.cap V' (.nsl e) v (.list xs);generalize hd:D.list xs=dd at g7;cases g7 with
  |nil=>injection hd with hd;exact absurd hd h2
  |emp=>injection hd with hd;exact absurd hd h2
  |slice _ k o n c kZ vs a1 a2 a3 a4 a5=>exact .nsl e k o n c kZ (.slice e k o n c kZ vs a1 a2 a3 a4 a5) (by injection hd with hd;rw[<-hd];exact h2)
 .rw[h2];have:=(Qd (C:={C with fr:=frb,nh:=nhb}) (dJ.hint bo) (dw.hint hΦ) (gY.hint gr) hf hb (N:=N) rfl h1).unhint;intro V w aa aC hC jG;refine(this V w aa aC hC jG).mono λen w' hh=>?_;obtain⟨v,V',g1,g2,g3,g4,g5,g6,g7⟩:=hh;refine⟨v,V',g1,g2,g3,g4,g5,g6,?_⟩;change Rep C.cap V' (.nils .bool) v (.list []) at g7;show Rep C.cap V' (.nsl e) v (.list []);generalize D.list []=dd at g7;cases g7;exact .nsl0 e
end Cx
namespace Cx
open Go Go.RowKit Go.ChangeShapes Go.WideShapes
def oN (w:World):Im:=
 ⟨λk o=>w.cell? ⟨k,o,none⟩,λ_=>none⟩
def aru (w:World):(oN w).ok w:=by
 exact⟨λk o v h=>h,λk es h=>by cases h⟩
def Dt (P:Program)(r:TypeId->Option Ty):List Field->Nat->Option (List Ty)
 |[],_=>some []
 |f::fs,off=>(r f.type).bind λft=>
  bif Nat.beq f.offset off&&Nat.beq (P.cellsOf f.type) ft.flat.length then(Dt P r fs (off+ft.flat.length)).map (ft.flat++·) else none
def gU (P:Program):Nat->TypeId->Option Ty
 |0,_=>none
 |n+1,t=>
  match P.underlying t with
  |some .bool=>some .bool
  |some (.int k)=>some (.int k)
  |some .string=>some .str
  |some (.slice e)=>bif uU P e then some (.slice .trm) else(gU P n e).bind λte=>bif Nat.beq (P.cellsOf e) te.flat.length&&Nat.ble 1 te.flat.length then some (.slice te) else none
  |some (.struct fs)=>(Dt P (gU P n) fs.toList 0).bind λts=>bif Nat.beq (P.cellsOf t) ts.length then some (.agg ts) else none
  |_=>none
def arz {P:Program}{e:TypeId}(h:uU P e=true)(n:Nat):gU P (n+2) e=some .trmA/\P.cellsOf e=3:=by
 unfold uU at h;split at h
 case h_2=>cases h
 rename_i fs hu;split at h
 case h_2=>cases h
 rename_i f0 f1 f2 yL;simp only[av] at h;obtain⟨⟨⟨⟨⟨⟨⟨⟨⟨h0,h1⟩,h2⟩,o0⟩,o1⟩,o2⟩,c0⟩,c1⟩,c2⟩,c3⟩:=h;split at h0
 case h_2=>cases h0
 rename_i u0;split at h1
 case h_2=>cases h1
 rename_i u1;split at h2
 case h_2=>cases h2
 rename_i e' u2;obtain rfl:=aE h2;have r0:gU P (n+1) f0.type=some (.int .i64):=by simp[gU,u0]
 have r1:gU P (n+1) f1.type=some (.int .i64):=by simp[gU,u1]
 have ht:uU P e'=true:=by
  unfold uU;rw[hu];simp only[yL];simp[u0,u1,u2,aE o0,aE o1,aE o2,aE c0,aE c1,aE c2,aE c3]
 have r2:gU P (n+1) f2.type=some (.slice .trm):=by simp[gU,u2,ht]
 refine⟨?_,aE c3⟩;show gU P (n+1+1) e'=_;rw[gU,hu];simp only[yL,Dt,r0,r1,r2,lb,Ty.flat,lQ,sq,o0,c0,Bool.and_self,zyy];simp[aE o1,aE o2,aE c1,aE c2,aE c3,Ty.trmA]
def VV {P:Program}{n:Nat}{t:TypeId}{ty:Ty}(h:gU P n t=some ty):ty.rowT=true\/ty.one=true:=by
 cases n with
 |zero=>simp[gU] at h
 |succ n=>
  simp only[gU] at h;split at h
  .cases h;exact .inr rfl
  .cases h;exact .inr rfl
  .cases h;exact .inr rfl
  .rename_i e _;cases ht:uU P e<;>simp only[ht,zyy,zyx] at h
   .simp only[aA] at h;obtain⟨te,_,h⟩:=h;cases hb:(Nat.beq (P.cellsOf e) te.flat.length&&Nat.ble 1 te.flat.length)<;>simp only[hb,zyy,zyx] at h
    .cases h
    .cases h;exact .inr rfl
   .cases h;exact .inr rfl
  .rename_i fs _;simp only[aA] at h;obtain⟨ts,_,h⟩:=h;cases hb:Nat.beq (P.cellsOf t) ts.length<;>simp only[hb,zyy,zyx] at h
   .cases h
   .cases h;exact .inl rfl
  .cases h
def oo (cap:Nat->Option CSig)(V:Im)(ts:List Ty)(cs:List Value)(ds:List D):Prop:=
 cs.length=ts.length/\ds.length=ts.length/\∀(i:Nat) (u:Ty),ts[i]?=some u->Rep cap V u (cs.getD i undef) (ds.getD i .none)/\u.one=true
def oo.one {cap:Nat->Option CSig}{V:Im}{t:Ty}{v:Value}{d:D}(h:Rep cap V t v d)(ht:t.one=true):oo cap V [t] [v] [d]:=
 ⟨rfl,rfl,λi u hu=>by
   cases i with
   |zero=>simp at hu;subst hu;exact⟨h,ht⟩
   |succ i=>simp at hu⟩
def oo.append {cap:Nat->Option CSig}{V:Im}{ts us:List Ty}{cs vs:List Value}{ds es:List D}(h:oo cap V ts cs ds)(k:oo cap V us vs es):oo cap V (ts++us) (cs++vs) (ds++es):=by
 obtain⟨h1,h2,h3⟩:=h;obtain⟨k1,k2,k3⟩:=k;refine⟨by simp[h1,k1],by simp[h2,k2],λi u hu=>?_⟩;by_cases hi:i<ts.length
 .rw[lP hi] at hu;have:=h3 i u hu;rw[aL,aL,lP (by omega),lP (by omega)];rw[aL,aL] at this;exact this
 .rw[mu (by omega)] at hu;have:=k3 _ u hu;rw[aL,aL,mu (by omega),mu (by omega),h1,h2];rw[aL,aL] at this;exact this
def aaE (ag:Bool)(ds:List D):D:=if ag then .agg ds else ds.getD 0 .none
def am0 (t:Ty):t.flat.length=t.size:=by cases t<;>rfl
def Rep.ofRow {cap:Nat->Option CSig}{V:Im}{t:Ty}{cs:List Value}{ds:List D}(ji:t.rowT=true\/t.one=true)(h:oo cap V t.flat cs ds):Rep cap V t (Cx.rowOf t.rowT cs) (aaE t.rowT ds):=by
 obtain⟨h1,h2,h3⟩:=h;cases t with
 |agg ts=>exact .agg ts cs ds h1 h2 (λi u hu=>(h3 i u hu).1) (λi u hu=>(h3 i u hu).2)
 |trm=>simp[Ty.rowT,Ty.one] at ji
 |_=>exact(h3 0 _ rfl).1
def axe {cap:Nat->Option CSig}{V:Im}{t:Ty}{cs:List Value}{ds:List D}(ji:t.rowT=true\/t.one=true)(h:oo cap V t.flat cs ds){j:Nat}{u:Value}(hj:(rowOf t.rowT cs).cells[j]?=some u):cs[j]?=some u:=by
 obtain⟨h1,h2,h3⟩:=h;cases t with
 |agg ts=>simpa [rowOf,Ty.rowT,Value.cells] using hj
 |trm=>simp[Ty.rowT,Ty.one] at ji
 |_=>
  have h4:=h3 0 _ rfl;have h5:=(h4.1.oneCell h4.2).1;simp only[rowOf,Ty.rowT,xL,if_false] at hj;rw[h5] at hj;cases j with
  |zero=>
   simp only[Is,OB,aZ] at hj
   match cs,h1 with
   |[c],_=>simpa using hj
  |succ j=>simp at hj
section
variable {H:Type} {enc:TypeId×Value->H} {P:Program} {w:World} {base:Nat} {held:Bool} {cap:Nat->Option CSig}
def ajC {k:IntKind}{n:Int}(h:(Lit.int k n).wf=true):k.min<=n/\n<=k.max:=by
 simpa [Lit.wf] using h
def ahZ {n m:Nat}(ih:∀(t:TypeId) (cs:List Value) (x:DataW H×List MemPlace) (ty:Ty),DataW.trod enc P w base (λ_=>true) held n t cs=some x->gU P m t=some ty->∃ds,oo cap (oN w) ty.flat cs ds):
 ∀(fs:List Field) (off:Nat) (cs:List Value) (ts:List Ty),Dt P (gU P m) fs off=some ts->cs.length=off+ts.length->
  (∀f,f∈fs->∃x,DataW.trod enc P w base (λ_=>true) held n f.type ((cs.drop f.offset).take (P.cellsOf f.type))=some x)->∃ds,oo cap (oN w) ts (cs.drop off) ds
 |[],off,cs,ts,h,hl,_=>by
  simp only[Dt,aZ] at h;subst h;have:cs.drop off=[]:=by simp at hl ⊢;omega
  rw[this];exact⟨[],rfl,rfl,λi u hu=>by simp at hu⟩
 |f::fs,off,cs,ts,h,hl,hx=>by
  simp only[Dt,aA] at h;obtain⟨ft,hft,h⟩:=h;cases hb:(Nat.beq f.offset off&&Nat.beq (P.cellsOf f.type) ft.flat.length)<;>simp only[hb,zyy,zyx] at h
  .cases h
  simp only[aD] at h;obtain⟨us,hus,rfl⟩:=h;simp only[av] at hb;have e1:=df hb.1;have e2:=df hb.2;obtain⟨x,oM⟩:=hx f (dS ..);rw[e1,e2] at oM;obtain⟨EA,jN⟩:=ih _ _ _ _ oM hft;simp only[jW] at hl;obtain⟨ds2,nG⟩:=ahZ ih fs (off+ft.flat.length) cs us hus (by omega) λg hg=>hx g (dK _ hg);refine⟨EA++ds2,?_⟩;have:=jN.append nG;rw[<-List.drop_drop,OI] at this;exact this
def aAW:∀(n m:Nat) (t:TypeId) (cs:List Value) (x:DataW H×List MemPlace) (ty:Ty),DataW.trod enc P w base (λ_=>true) held n t cs=some x->gU P m t=some ty->∃ds,oo cap (oN w) ty.flat cs ds:=by
 intro n
 induction n with
 |zero=>intro m t cs x ty h;simp[DataW.trod] at h
 |succ n ih=>
  intro m t cs x ty h br;cases m with
  |zero=>simp[gU] at br
  |succ m=>
   simp only[gU] at br;split at br
   .rename_i hu;cases br;obtain⟨b,rfl,_⟩:=DataW.trod_bool hu h;exact⟨_,.one (.bool b) rfl⟩
   .rename_i k hu;cases br;obtain⟨z,rfl,_,hw⟩:=DataW.trod_int hu h;exact⟨_,.one (.int k z (ajC hw).1 (ajC hw).2) rfl⟩
   .rename_i hu;cases br;obtain⟨s,rfl,_,hs⟩:=DataW.trod_string hu h;exact⟨_,.one (.str s hs) rfl⟩
   .rename_i e hu;have y6:∃(m':Nat) (te xy:Ty),gU P m' e=some te/\P.cellsOf e=te.flat.length/\1<=te.flat.length/\ty=.slice xy/\xy.unf=te:=by
     cases ht:uU P e<;>simp only[ht,zyy,zyx] at br
     .simp only[aA] at br;obtain⟨te,y6,br⟩:=br;cases hb:(Nat.beq (P.cellsOf e) te.flat.length&&Nat.ble 1 te.flat.length)<;>simp only[hb,zyy,zyx] at br
      .cases br
      cases br;simp only[av] at hb;exact⟨m,te,te,y6,df hb.1,kC hb.2,rfl,Ty.unf_ro (VV y6)⟩
     .cases br;obtain⟨k1,k2⟩:=arz ht 0;exact⟨2,.trmA,.trm,k1,k2,by decide,rfl,rfl⟩
    obtain⟨m',te,xy,y6,e1,e2,rfl,oL⟩:=y6;have ji:=VV y6;rcases DataW.trod_slice hu h with⟨rfl,_⟩|⟨a,len,cp,elems,rest,n',iV,rfl,_,hba,hl,hm,hlen,jK,wJ,_⟩
    .exact⟨_,.one (.nil xy) rfl⟩
    .cases iV;obtain⟨hrl,wF⟩:=wJ rfl
     have re:∀i,i<cp->∃ci y,w.cells? base (a.add (i*P.cellsOf e)) (P.cellsOf e)=some ci/\DataW.trod enc P w base (λ_=>true) held n e ci=some y:=by
      intro i hi
      have eR:∃y,(w.cells? base (a.add (i*P.cellsOf e)) (P.cellsOf e)).bind (DataW.trod enc P w base (λ_=>true) held n e)=some y:=by
           by_cases yP:i<len
           .rw[jK i yP];exact⟨_,bL (by omega)⟩
           .have:=wF (i-len) (by omega);rw[show len+(i-len)=i by omega] at this;rw[this];exact⟨_,bL (by omega)⟩
      obtain⟨y,hy⟩:=eR;rw[aA] at hy;obtain⟨ci,h1,h2⟩:=hy;exact⟨ci,y,h1,h2⟩
     by_cases Fk:cp=0
     .subst Fk;have:len=0:=by omega
      subst this;exact⟨_,.one (.emp xy a) rfl⟩
     .have acJ:a.spot=none:=by
           obtain⟨ci,y,h1,_⟩:=re 0 (by omega);obtain⟨_,_,h3⟩:=World.cells?_some h1;have:=h3 0 (by omega);simp only[Nat.zero_mul,Addr.add,if_true] at this;unfold World.cell? at this;cases hs:a.spot with
           |none=>rfl
           |some s=>
            exfalso;have hl:ci.length=P.cellsOf e:=(World.cells?_some h1).2.1;split at this
            .rw[hs] at this;simp at this;subst this;simp at hl;omega
            .rw[eq_comm,List.getElem?_eq_none_iff] at this;omega
      obtain⟨k,o,s⟩:=a;simp only at acJ;subst acJ;have aU:∀i,∃p:List Value×List D,i<len->w.cells? base ((⟨k,o,none⟩:Addr).add (i*P.cellsOf e)) (P.cellsOf e)=some p.1/\oo cap (oN w) te.flat p.1 p.2:=by
           intro i;by_cases hi:i<len
           .obtain⟨ci,y,h1,h2⟩:=re i (by omega);obtain⟨ds,hr⟩:=ih m' _ _ _ _ h2 y6;exact⟨(ci,ds),λ_=>⟨h1,hr⟩⟩
           .exact⟨([],[]),λh=>absurd h hi⟩
      obtain⟨f,hf⟩:=Classical.axiomOfChoice aU;refine⟨_,.one (.slice xy k o len cp ((List.range len).map λi=>aaE te.rowT (f i).2) (λi=>rowOf te.rowT (f i).1) (by simp) hl hm (λi x hx=>?_) (λi j u hi hj=>?_)) rfl⟩
      .rw[cM,aD] at hx;obtain⟨i',dx,rfl⟩:=hx;have ao:i<len:=by have:=(fo.1 dx).1;simpa using this
       rw[sn ao] at dx;cases dx;rw[oL];exact Rep.ofRow ji (hf i ao).2
      .obtain⟨h1,h2⟩:=hf i hi;have dL:=axe ji h2 hj;obtain⟨_,h4,h5⟩:=World.cells?_some h1;have gO:j<P.cellsOf e:=by rw[<-h4];exact(fo.1 dL).1
       have:=h5 j gO;rw[dL] at this;show w.cell? ⟨k,o+i*xy.size+j,none⟩=some u;rw[<-xy.unf_size,oL,<-am0,<-e1,<-this]
       congr 1
       simp only[Addr.add];split<;>split<;>simp_all
   .rename_i fs hu;simp only[aA] at br;obtain⟨ts,R3,br⟩:=br;cases hb:Nat.beq (P.cellsOf t) ts.length<;>simp only[hb,zyy,zyx] at br
    .cases br
    cases br;obtain⟨xs,n',iV,_,hl,ze,hf⟩:=DataW.trod_struct hu h;cases iV
    have:=ahZ (ih m) fs.toList 0 cs ts R3 (by rw[hl,df hb];omega) (λf hm=>by
     obtain⟨i,hi⟩:=Al hm;have dx:fs[i]?=some f:=by simpa using hi
     have h1:=hf i f dx;have ao:i<fs.size:=(gX.1 dx).1;exact⟨_,h1.trans (bL (by omega))⟩)
    show ∃ds,oo cap (oN w) ts cs ds;simpa using this
   .cases br
def Ep {base:Nat}{t:TypeId}{v:Value}(h:Cell.okWide P w .any base t v):v.cells=#[v]:=by
 cases v<;>first|rfl|(exfalso;simp only[Cell.okWide,Cell.ok] at h;revert h;cases P.underlying t with|none=>simp|some T=>cases T<;>simp)
def akn {base base':Nat}{m:Nat}{t:TypeId}{v:Value}{d:DataW H}{ps:List MemPlace}{ty:Ty}(aC:Value.okWide P w .any base' t v)(h:DataW.Trod enc P w base (λ_=>true) held t v d ps)(br:gU P m t=some ty):∃d,Rep cap (oN w) ty v d:=by
 obtain⟨fuel,h⟩:=h;obtain⟨ds,hr⟩:=aAW (cap:=cap) fuel m t _ _ _ h br;have cw:=Rep.ofRow (VV br) hr;cases m with
 |zero=>simp[gU] at br
 |succ m=>
  suffices hs:rowOf ty.rowT v.cells.toList=v by rw[hs] at cw;exact⟨_,cw⟩
  simp only[gU] at br;unfold Value.okWide at aC;split at br
  .rename_i hu;cases br;rw[hu] at aC;simp only at aC;rw[Ep aC];rfl
  .rename_i hu;cases br;rw[hu] at aC;simp only at aC;rw[Ep aC];rfl
  .rename_i hu;cases br;rw[hu] at aC;simp only at aC;rw[Ep aC];rfl
  .rename_i e hu;cases ht:uU P e<;>simp only[ht,zyy,zyx] at br
   .simp only[aA] at br;obtain⟨te,_,br⟩:=br;cases hb:(Nat.beq (P.cellsOf e) te.flat.length&&Nat.ble 1 te.flat.length)<;>simp only[hb,zyy,zyx] at br
    .cases br
    cases br;rw[hu] at aC;simp only at aC;rw[Ep aC];rfl
   .cases br;rw[hu] at aC;simp only at aC;rw[Ep aC];rfl
  .rename_i fs hu;simp only[aA] at br;obtain⟨ts,_,br⟩:=br;cases hb:Nat.beq (P.cellsOf t) ts.length<;>simp only[hb,zyy,zyx] at br
   .cases br
   cases br;rw[hu] at aC;obtain⟨cs,rfl,_⟩:=aC;simp[rowOf,Ty.rowT,Value.cells]
  .cases br
def HQ (P:Program)(m:Nat):List TypeId->Option (List Ty)
 |[]=>some []
 |t::ts=>(gU P m t).bind λx=>(HQ P m ts).map (x::·)
def Z7 {base base' m:Nat}:∀(ts:List TypeId) (vs:List Value) (ds:List (DataW H)) (ps:List MemPlace) (gi:List Ty),DataW.TrodAll enc P w base (λ_=>true) held ts vs ds ps->HQ P m ts=some gi->
 (∀(j:Nat) t v,ts[j]?=some t->vs[j]?=some v->Value.okWide P w .any base' t v)->
 ∃es:List D,vs.length=gi.length/\es.length=gi.length/\∀(i:Nat) (t:Ty),gi[i]?=some t->Rep cap (oN w) t (vs.getD i undef) (es.getD i .none)
 |[],vs,ds,ps,gi,h,br,_=>by
  simp only[HQ,aZ] at br;subst br;cases vs with
  |nil=>exact⟨[],rfl,rfl,λi t h=>by simp at h⟩
  |cons=>cases ds<;>exact h.elim
 |t::ts,vs,ds,ps,gi,h,br,aC=>by
  simp only[HQ,aA,aD] at br;obtain⟨ty,aq7,aA2,aq8,rfl⟩:=br;cases vs with
  |nil=>cases ds<;>exact h.elim
  |cons v vs=>
   cases ds with
   |nil=>exact h.elim
   |cons d ds=>
    obtain⟨p,q,h1,h2,_⟩:=h;obtain⟨e,he⟩:=akn (cap:=cap) (aC 0 t v rfl rfl) h1 aq7;obtain⟨es,k1,k2,k3⟩:=Z7 ts vs ds q aA2 h2 aq8 (λj t' v' hj hv=>aC (j+1) t' v' hj hv);refine⟨e::es,by simp[k1],by simp[k2],λi u hu=>?_⟩;cases i with
    |zero=>simp at hu;subst hu;exact he
    |succ i=>simpa using k3 i u (by simpa using hu)
end
mutual
inductive DTy:Ty->D->Prop where
 |int (k:IntKind) (n:Int) (h1:k.min<=n) (h2:n<=k.max):DTy (.int k) (.v (.int k n))
 |bool (b:Bool):DTy .bool (.v (.bool b))
 |str (s:ByteArray) (h:s.size<=maxLen):DTy .str (.v (.string s))
 |slice (e:Ty) (xs:List D) (hm:xs.length<=maxLen) (h:∀x,x∈xs->DTy e.unf x):DTy (.slice e) (.list xs)
 |agg (ts:List Ty) (ds:List D) (h:DTys ts ds):DTy (.agg ts) (.agg ds)
 |other (t:Ty) (d:D) (h:match t with|.int _|.bool|.str|.slice _|.agg _=>False|_=>True):DTy t d
inductive DTys:List Ty->List D->Prop where
 |nil:DTys [] []
 |cons {t:Ty} {d:D} {ts:List Ty} {ds:List D} (h:DTy t d) (hs:DTys ts ds):DTys (t::ts) (d::ds)
end
def DTys.of_get:∀{ts:List Ty} {ds:List D},ds.length=ts.length->(∀(i:Nat) (t:Ty),ts[i]?=some t->DTy t (ds.getD i .none))->DTys ts ds
 |[],[],_,_=>.nil
 |t::ts,d::ds,hl,h=>.cons (h 0 t rfl) (DTys.of_get (by simpa using hl) λi u hu=>by simpa using h (i+1) u (by simpa using hu))
 |[],_::_,hl,_=>by simp at hl
 |_::_,[],hl,_=>by simp at hl
def Rep.dty {cap:Nat->Option CSig}{V:Im}{t:Ty}{v:Value}{d:D}(h:Rep cap V t v d):DTy t d:=by
 induction h with
 |int k n h1 h2=>exact .int k n h1 h2
 |bool b=>exact .bool b
 |str s h=>exact .str s h
 |agg ts vs ds h1 h2 _ ho ih=>exact .agg ts ds (.of_get h2 ih)
 |nil e=>exact .slice e [] (by decide) (λx hx=>by cases hx)
 |emp e a=>exact .slice e [] (by decide) (λx hx=>by cases hx)
 |slice e k o n c xs vs hn hc hm _ hv ih=>
  refine .slice e xs (by omega) λx hx=>?_;obtain⟨i,hi⟩:=Al hx;exact ih i x hi
 |_=>exact .other _ _ trivial
def arL {H:Type}{enc:TypeId×Value->H}{C:Ctx}{f:Nat}{fn:Func}{sg:Sig}{spec:ChangeSpec}{tb:TypeId}{apart fresh handsOn again:Bool}(hl:laidOutB C.P=true)
 (ly:HQ C.P 12 fn.params.toList=some sg.args) (aqG:fn.params.toList.all (λt=>C.P.readableRec t&&decide (t<C.P.types.size))=true) (R9:spec.vars=[])
 (aqW:∀ds:List (DataW H),ds.length=fn.params.size->(spec.fn H ds).results=[.lit (.bool true)]/\(spec.fn H ds).args=ds/\(spec.fn H ds).vars=[])
 (gy:fn.resultTypes=#[tb]) (hub:C.P.underlying tb=some .bool) (l5:sg.mode=.dat) (wG:sg.res=.bool)
 (Rq:∀ds,DTys sg.args ds->jz C f sg ds (.v (.bool true)))
 (W:World) (wu:CtxOK C (oN W)) (base:Nat) (args:Array Value) (ds gs:List (DataW H)) (before:List MemPlace)
 (cK:∀(j:Nat) t v,fn.params[j]?=some t->args[j]?=some v->Value.okWide C.P W .any base t v)
 (hW:DataW.Whole enc C.P fn.params.toList spec.vars apart W args.toList ds gs before):
 Calls C.P f args W λe W'=>∃v,e=.returned v/\spec.post enc C.P fn apart fresh handsOn again W args v W':=by
 have K0:=hW;have ao:∀p∈before,p.block<W.heap.size:=λp hp=>K0.lt p hp;obtain⟨p,q,hA,hV,rfl,Fu,bz⟩:=hW;rw[R9] at hV;obtain⟨rfl,rfl⟩:=trodVars_none hV;obtain⟨es,k1,k2,k3⟩:=Z7 (cap:=C.cap) (base':=base) fn.params.toList args.toList ds p sg.args hA ly (λj t v hj hv=>cK j t v (by simpa using hj) (by simpa using hv));have br:DTys sg.args es:=.of_get k2 λi t ht=>(k3 i t ht).dty
 have hlen:∀(ts:List TypeId) (vs:List Value) (ds:List (DataW H)) (ps:List MemPlace),DataW.TrodAll enc C.P W 0 (λ_=>true) true ts vs ds ps->ds.length=ts.length:=by
  intro ts
  induction ts with
  |nil=>intro vs ds ps h;cases vs<;>cases ds<;>first|rfl|exact h.elim
  |cons t ts ih=>
   intro vs ds ps h;cases vs with
   |nil=>cases ds<;>exact h.elim
   |cons v vs=>cases ds with
    |nil=>exact h.elim
    |cons d ds=>obtain⟨p,q,_,h2,_⟩:=h;simp[ih vs ds q h2]
 have Q7:ds.length=fn.params.size:=by simpa using hlen _ _ _ _ hA
 obtain⟨s1,s2,s3⟩:=aqW (ds++[]) (by simpa using Q7);refine(Rq es br (oN W) W args (aru W) wu ⟨k1,k2,k3⟩).mono λe W' hh=>?_;obtain⟨v,V',rfl,_,_,hb,_,_,hr⟩:=hh;refine⟨v,rfl,?_⟩;simp only[nr,l5,wG] at hr;obtain⟨b,rfl,yD⟩:=hr.bool_inv;cases yD
 have stays:∀(sp:Nat->Bool) (ts:List TypeId) (vs:List Value) (ds:List (DataW H)) (ps:List MemPlace),ts.all (λt=>C.P.readableRec t&&decide (t<C.P.types.size))=true->(∀x∈ps,x.block<W.heap.size)->(∀x∈ps,sp x.block=true)->
  DataW.TrodAll enc C.P W 0 (λ_=>true) true ts vs ds ps->DataW.TrodAll enc C.P W' 0 sp true ts vs ds ps:=by
  intro sp ts
  induction ts with
  |nil=>intro vs ds ps _ _ _ h;cases vs<;>cases ds<;>first|exact h|exact h.elim
  |cons t ts ih=>
   intro vs ds ps ha uK wJ h;cases vs with
   |nil=>cases ds<;>exact h.elim
   |cons v vs=>cases ds with
    |nil=>exact h.elim
    |cons d ds=>
     obtain⟨p,q,h1,h2,rfl⟩:=h;simp only[sl,av,decide_eq_true_eq] at ha
     exact⟨p,q,WideElems.Trod_stays hl ha.1.1 ha.1.2 h1 (λx hx=>hb.same (uK x (kB _ hx))) (λx hx=>wJ x (kB _ hx)),
      ih vs ds q (by simpa using ha.2) (λx hx=>uK x (la _ hx)) (λx hx=>wJ x (la _ hx)) h2,rfl⟩
 have acd:∀x∈p,x.block<W.heap.size:=λx hx=>ao x (kB _ hx);have jG:=λsp (h:∀x∈p,sp x.block=true)=>stays sp _ _ _ _ aqG acd h hA;have wF:∀(b:Nat) (sp:Nat->Bool) (hd:Bool),DataW.TrodAll enc C.P W' b sp hd fn.resultTypes.toList ((Value.bool true).resultList fn.resultTypes.size) [.lit (.bool true)] []:=by
  intro b sp hd;rw[gy];exact trodAll_mk1 (shut_bool hub true)
 refine⟨ds,[],p++[],[],p,[],K0,?_,?_,?_,World.keptBut_mono (λx hx=>⟨hx,?_⟩) (hb.frame (·∈p++[])),λ_=>?_⟩
 .rw[s1];exact wF _ _ _
 .rw[s2];simpa using jG _ (λx hx=>by simpa using acd x hx)
 .rw[s3,R9];rfl
 .simpa using hx
 .refine⟨ok_one gy rfl (okWide_bool_mk hub true),_,[],([]++p)++[],⟨[]++p,[],trodAll_append (jG _ (λ_ _=>rfl)) (wF _ _ _),by rw[R9];exact rfl,rfl,?_,?_⟩,?_⟩
  .intro b off hp;have bE:MemPlace.cell b off∈p++[]:=by simpa using hp
   rw[hb.frozen (ao _ bE)];exact Fu b off bE
  .intro ha;simpa using bz ha
  .intro x hx _;simpa using hx
end Cx
namespace Cx
open Go Go.RowKit
abbrev cV:=Nat->aW
def aq (T:cV)(f:Nat)(ds:List D)(d:D):Prop:=∃n0,∀n,n0<=n->T n f ds=some d
def Aj (T:cV)(l:List PI)(O:Env)(Q:Env->Prop):Prop:=∃O',Q O'/\∃n0,∀n,n0<=n->PI.runs (T n) l O=some O'
def aN (T:cV)(c:PC)(O:Env)(Q:Out->Prop):Prop:=∃x,Q x/\∃n0,∀n,n0<=n->c.ev (T n) n O=some x
def aN.mono {T:cV}{c:PC}{O:Env}{Q Q':Out->Prop}(h:aN T c O Q)(hq:∀x,Q x->Q' x):aN T c O Q':=by
 obtain⟨x,hx,n0,hn⟩:=h;exact⟨x,hq x hx,n0,hn⟩
def Aj.nil {T:cV}{O:Env}{Q:Env->Prop}(h:Q O):Aj T [] O Q:=⟨O,h,0,λ_ _=>rfl⟩
def Aj.cons {T:cV}{p:PI}{l:List PI}{O ρ1:Env}{Q:Env->Prop}{n0:Nat}(h:∀n,n0<=n->p.run (T n) O=some ρ1)(k:Aj T l ρ1 Q):Aj T (p::l) O Q:=by
 obtain⟨O',hQ,n1,h1⟩:=k;exact⟨O',hQ,max n0 n1,λn hn=>by simp[PI.runs,h n (by omega),h1 n (by omega)]⟩
def iZ (T:cV):List PI->Env->(Env->Prop)->Prop
 |[],O,Q=>Q O
 |.setR t e::l,O,Q=>iZ T l (O.setR t (e.ev O)) Q
 |.setO t e::l,O,Q=>iZ T l (O.setO t (e.ev O)) Q
 |.chk e::l,O,Q=>(e.ev O).b=true/\iZ T l O Q
 |.call gs dst f args::l,O,Q=>if holds gs O=true then ∃d,aq T f (PE.evs O args) d/\iZ T l (O.setR dst d) Q else iZ T l O Q
 |.callc gs dst e args::l,O,Q=>if holds gs O=true then ∃f caps d,e.ev O=.clo f caps/\aq T f (PE.evs O args++caps) d/\iZ T l (O.setR dst d) Q else iZ T l O Q
 |.mcall j f args::l,O,Q=>∃d,aq T f (PE.evs O args) d/\iZ T l (O.setO j d) Q
def vE {T:cV}:∀{l:List PI} {O:Env} {Q:Env->Prop},iZ T l O Q->Aj T l O Q
 |[],O,Q,h=>.nil h
 |.setR t e::l,O,Q,h=>.cons (n0:=0) (λ_ _=>rfl) (vE h)
 |.setO t e::l,O,Q,h=>.cons (n0:=0) (λ_ _=>rfl) (vE h)
 |.chk e::l,O,Q,h=>.cons (n0:=0) (λn _=>by simp[PI.run,h.1]) (vE h.2)
 |.call gs dst f args::l,O,Q,h=>by
  unfold iZ at h;split at h
  .rename_i hg;obtain⟨d,⟨n0,hn⟩,h⟩:=h;exact .cons (n0:=n0) (λn hle=>by simp[PI.run,hg,hn n hle]) (vE h)
  .rename_i hg;exact .cons (n0:=0) (λn hle=>by simp[PI.run,hg]) (vE h)
 |.callc gs dst e args::l,O,Q,h=>by
  unfold iZ at h;split at h
  .rename_i hg;obtain⟨f,caps,d,he,⟨n0,hn⟩,h⟩:=h;exact .cons (n0:=n0) (λn hle=>by simp[PI.run,hg,he,hn n hle]) (vE h)
  .rename_i hg;exact .cons (n0:=0) (λn hle=>by simp[PI.run,hg]) (vE h)
 |.mcall j f args::l,O,Q,h=>by
  obtain⟨d,⟨n0,hn⟩,h⟩:=h;exact .cons (n0:=n0) (λn hle=>by simp[PI.run,hn n hle]) (vE h)
def ma (O:Env)(lr lo:List Nat)(Q:Out->Prop):Out->Prop
 |.next O'=>Q (.next (O.join lr lo O'))
 |x=>Q x
def ny (O:Env)(id:Nat)(lr lo:List Nat)(Q:Out->Prop):Out->Prop
 |.next O'=>Q (.next (O.join lr lo O'))
 |.exit cg O'=>if cg=id then Q (.next (O.join lr lo O')) else Q (.exit cg O')
 |.ret d=>Q (.ret d)
def iy (K:Env->Prop)(Q:Out->Prop):Out->Prop
 |.next O'=>K O'
 |.exit id O'=>Q (.exit id O')
 |.ret d=>Q (.ret d)
def aN.is {T:cV}{l:List PI}{O:Env}{Q:Out->Prop}(h:iZ T l O λO'=>Q (.next O')):aN T (.is l) O Q:=by
 obtain⟨O',hQ,n0,hn⟩:=vE h;exact⟨.next O',hQ,n0,λn hle=>by simp[PC.ev,hn n hle]⟩
def aN.skip {T:cV}{O:Env}{Q:Out->Prop}(h:Q (.next O)):aN T .skip O Q:=⟨_,h,0,λ_ _=>rfl⟩
def aN.exit {T:cV}{O:Env}{id:Nat}{Q:Out->Prop}(h:Q (.exit id O)):aN T (.exit id) O Q:=⟨_,h,0,λ_ _=>rfl⟩
def aN.ret {T:cV}{O:Env}{e:PE}{Q:Out->Prop}(h:Q (.ret (e.ev O))):aN T (.ret e) O Q:=⟨_,h,0,λ_ _=>rfl⟩
def aN.seq {T:cV}{a b:PC}{O:Env}{Q:Out->Prop}(h:aN T a O (iy (λO'=>aN T b O' Q) Q)):aN T (.seq a b) O Q:=by
 obtain⟨x,hx,n0,hn⟩:=h;cases x with
 |next O'=>
  obtain⟨y,hy,n1,h1⟩:=hx;exact⟨y,hy,max n0 n1,λn hle=>by simp[PC.ev,hn n (by omega),h1 n (by omega)]⟩
 |exit id O'=>exact⟨_,hx,n0,λn hle=>by simp[PC.ev,hn n hle]⟩
 |ret d=>exact⟨_,hx,n0,λn hle=>by simp[PC.ev,hn n hle]⟩
def aN.ite {T:cV}{c:PE}{lr lo:List Nat}{a b:PC}{O:Env}{Q:Out->Prop}(h:if(c.ev O).b=true then aN T a O (ma O lr lo Q) else aN T b O (ma O lr lo Q)):aN T (.ite c lr lo a b) O Q:=by
 split at h
 all_goals
  rename_i hc;obtain⟨x,hx,n0,hn⟩:=h;cases x with
  |next O'=>exact⟨_,hx,n0,λn hle=>by simp[PC.ev,hc,hn n hle]⟩
  |exit id O'=>exact⟨_,hx,n0,λn hle=>by simp[PC.ev,hc,hn n hle]⟩
  |ret d=>exact⟨_,hx,n0,λn hle=>by simp[PC.ev,hc,hn n hle]⟩
def aN.block {T:cV}{id:Nat}{lr lo:List Nat}{a:PC}{O:Env}{Q:Out->Prop}(h:aN T a O (ny O id lr lo Q)):aN T (.block id lr lo a) O Q:=by
 obtain⟨x,hx,n0,hn⟩:=h;cases x with
 |next O'=>exact⟨_,hx,n0,λn hle=>by simp[PC.ev,hn n hle]⟩
 |exit cg O'=>
  simp only[ny] at hx;split at hx
  .rename_i e;subst e;exact⟨_,hx,n0,λn hle=>by simp[PC.ev,hn n hle]⟩
  .rename_i e;exact⟨_,hx,n0,λn hle=>by simp[PC.ev,hn n hle,eY e]⟩
 |ret d=>exact⟨_,hx,n0,λn hle=>by simp[PC.ev,hn n hle]⟩
def aN.loop {T:cV}{lr lo:List Nat}{a:PC}{O:Env}{Q:Out->Prop}{α:Type}(inv:α->List D->List D->Prop)(wW:α->Nat)(s0:α)(h0:inv s0 (lr.map O.r) (lo.map O.o))
 (step:∀s vr vo,inv s vr vo->aN T a (O.put lr vr lo vo) (iy (λO'=>∃s',wW s'<wW s/\inv s' (lr.map O'.r) (lo.map O'.o)) Q)):aN T (.loop lr lo a) O Q:=by
 have key:∀(m:Nat) (s:α) (vr vo:List D),wW s<=m->inv s vr vo->∃x,Q x/\∃n0,∀n k,n0<=n->n0<=k->gC (a.ev (T n) n) O lr lo k vr vo=some x:=by
  intro m
  induction m with
  |zero=>
   intro s vr vo hm hi;obtain⟨x,hx,n0,hn⟩:=step s vr vo hi;cases x with
   |next O'=>obtain⟨s',ao,_⟩:=hx;omega
   |exit id O'=>
    refine⟨_,hx,n0+1,λn k hle hk=>?_⟩;obtain⟨k',rfl⟩:∃k',k=k'+1:=⟨k-1,by omega⟩
    simp[gC,hn n (by omega)]
   |ret d=>
    refine⟨_,hx,n0+1,λn k hle hk=>?_⟩;obtain⟨k',rfl⟩:∃k',k=k'+1:=⟨k-1,by omega⟩
    simp[gC,hn n (by omega)]
  |succ m ih=>
   intro s vr vo hm hi;obtain⟨x,hx,n0,hn⟩:=step s vr vo hi;cases x with
   |next O'=>
    obtain⟨s',ao,dx⟩:=hx;obtain⟨y,hy,n1,h1⟩:=ih s' _ _ (by omega) dx;refine⟨y,hy,max n0 n1+1,λn k hle hk=>?_⟩;obtain⟨k',rfl⟩:∃k',k=k'+1:=⟨k-1,by omega⟩
    simp[gC,hn n (by omega),h1 n k' (by omega) (by omega)]
   |exit id O'=>
    refine⟨_,hx,n0+1,λn k hle hk=>?_⟩;obtain⟨k',rfl⟩:∃k',k=k'+1:=⟨k-1,by omega⟩
    simp[gC,hn n (by omega)]
   |ret d=>
    refine⟨_,hx,n0+1,λn k hle hk=>?_⟩;obtain⟨k',rfl⟩:∃k',k=k'+1:=⟨k-1,by omega⟩
    simp[gC,hn n (by omega)]
 obtain⟨x,hx,n0,hn⟩:=key (wW s0) s0 _ _ (bB _) h0;exact⟨x,hx,n0,λn hle=>by simp only[PC.ev];exact hn n n hle hle⟩
def ud (O:Env)(lo:List Nat)(rt:Option PE)(K:List D->Prop)(Q:Out->Prop):Out->Prop
 |.next O'=>K (lo.map O'.o)
 |.exit id O'=>if id=cY then ∃e,rt=some e/\Q (.ret (e.ev (O.put [] [] lo (lo.map O'.o)))) else Q (.exit id (O.put [] [] lo (lo.map O'.o)))
 |.ret _=>False
def aN.each {T:cV}{e:PE}{ps lo:List Nat}{rt:Option PE}{a:PC}{O:Env}{Q:Out->Prop}(xs:List D)(he:(e.ev O).l=xs)(inv:Nat->List D->Prop)(h0:inv 0 (lo.map O.o))
 (step:∀k x vo,xs[k]?=some x->inv k vo->aN T a (O.put ps (partsOf ps x) lo vo) (ud O lo rt (inv (k+1)) Q)) (done:∀vo,inv xs.length vo->Q (.next (O.put [] [] lo vo))):aN T (.each e ps lo rt a) O Q:=by
 have key:∀(r k:Nat) (vo:List D),k+r=xs.length->inv k vo->∃x,Q x/\∃n0,∀n,n0<=n->ia (a.ev (T n) n) O ps lo rt (xs.drop k) vo=some x:=by
  intro r
  induction r with
  |zero=>
   intro k vo hk hi;have:xs.drop k=[]:=by rw[Ow];omega
   obtain rfl:k=xs.length:=by omega
   exact⟨_,done vo hi,0,λn _=>by rw[this];rfl⟩
  |succ r ih=>
   intro k vo hk hi;have ao:k<xs.length:=by omega
   rw[Ip ao];obtain⟨y,hy,n0,hn⟩:=step k xs[k] vo (bL ao) hi;cases y with
   |next O'=>
    obtain⟨z,hz,n1,h1⟩:=ih (k+1) _ (by omega) hy;exact⟨z,hz,max n0 n1,λn hle=>by simp only[ia,hn n (by omega)];exact h1 n (by omega)⟩
   |exit id O'=>
    simp only[ud] at hy;split at hy
    .rename_i cR;obtain⟨e,h1,h2⟩:=hy;exact⟨_,h2,n0,λn hle=>by subst cR;simp[ia,hn n hle,h1]⟩
    .rename_i cR;exact⟨_,hy,n0,λn hle=>by simp[ia,hn n hle,eY cR]⟩
   |ret d=>exact hy.elim
 obtain⟨x,hx,n0,hn⟩:=key xs.length 0 _ (by omega) h0;exact⟨x,hx,n0,λn hle=>by simp only[PC.ev,he];exact hn n hle⟩
def agx {α:Type}:∀(l:List α),∃L:List (List α),∀ys,ys∈L↔ys.Perm l
 |[]=>⟨[[]],λys=>by simp⟩
 |x::l=>by
  obtain⟨L,hL⟩:=agx l;refine⟨L.flatMap λys=>(List.range (ys.length+1)).map λi=>ys.take i++x::ys.drop i,λzs=>?_⟩;simp only[nq,fq,cu];constructor
  .rintro⟨ys,hy,i,_,rfl⟩;have h1:=(hL ys).1 hy;refine(List.perm_middle).trans (.cons x ?_);rw[OI];exact h1
  .intro h;have hx:x∈zs:=h.symm.subset (dS ..);obtain⟨s,t,rfl⟩:=ZK hx;refine⟨s++t,(hL _).2 ?_,s.length,by simp;omega,by simp⟩;exact(List.perm_cons x).1 ((List.perm_middle).symm.trans h)
def aN.meach {T:cV}{J:Nat}{ps cZ lo:List Nat}{a:PC}{O:Env}{Q:Out->Prop}(es:List (D×D))(he:O.o J=.tup [.list [],.map es])(inv:List D->List D->Prop)(h0:inv [] (lo.map O.o))
 (step:∀done x rest vo,(done++x::rest).Perm (jt (.map es))->inv done vo->aN T a ((O.put ps (cZ.map x.tget) lo vo).setO J (.tup [.list (done++[x]),.map es])) (λy=>∃O',y=.next O'/\inv (done++[x]) (lo.map O'.o)))
 (last:∃vo,(∀done,done.Perm (jt (.map es))->∀oa,inv done oa->oa=vo)/\Q (.next (O.put [] [] lo vo))):aN T (.meach J ps cZ lo a) O Q:=by
 obtain⟨vo,hl,hQ⟩:=last;have key:∀(xs done:List D) (vs:List D),(done++xs).Perm (jt (.map es))->inv done vs->∃n0,∀n,n0<=n->mQ (a.ev (T n) n) O J (.map es) ps cZ lo xs done vs=some vo:=by
  intro xs
  induction xs with
  |nil=>intro done vs hp hi;exact⟨0,λn _=>by rw[hl done (by simpa using hp) vs hi];rfl⟩
  |cons x xs ih=>
   intro done vs hp hi;obtain⟨y,⟨O',rfl,dx⟩,n0,hn⟩:=step done x xs vs hp hi;obtain⟨n1,h1⟩:=ih (done++[x]) _ (by simpa using hp) dx;exact⟨max n0 n1,λn hle=>by simp only[mQ,hn n (by omega)];exact h1 n (by omega)⟩
 have mF:∀(L:List (List D)),(∀ys,ys∈L->ys.Perm (jt (.map es)))->∃n0,∀n,n0<=n->∀ys,ys∈L->mQ (a.ev (T n) n) O J (.map es) ps cZ lo ys [] (lo.map O.o)=some vo:=by
  intro L
  induction L with
  |nil=>intro _;exact⟨0,λn _ ys hy=>by cases hy⟩
  |cons y L ih=>
   intro hL;obtain⟨n0,fA⟩:=ih λys hy=>hL ys (dK _ hy);obtain⟨n1,h1⟩:=key y [] _ (by simpa using hL y (dS ..)) h0;refine⟨max n0 n1,λn hle ys hy=>?_⟩;rcases cQ.1 hy with e|hy
   .subst e;exact h1 n (by omega)
   .exact fA n (by omega) ys hy
 obtain⟨L,hL⟩:=agx (jt (.map es));obtain⟨n0,hn⟩:=mF L λys hy=>(hL ys).1 hy;refine⟨_,hQ,n0,λn hle=>?_⟩;simp only[PC.ev,zB];refine⟨vo,⟨by rw[he];rfl,λys hy=>?_⟩,rfl⟩;rw[he] at hy ⊢;exact hn n hle ys ((hL ys).2 hy)
def bounded {Q:Nat->Nat->Prop}:∀(L:Nat),(∀m,m<=L->∃n0,∀n,n0<=n->Q m n)->∃n0,∀n,n0<=n->∀m,m<=L->Q m n
 |0,h=>by
  obtain⟨n0,hn⟩:=h 0 (bB _)
  exact⟨n0,λn hle m hm=>by (obtain rfl:m=0:=by omega);exact hn n hle⟩
 |L+1,h=>by
  obtain⟨n0,hn⟩:=bounded L λm hm=>h m (by omega);obtain⟨n1,h1⟩:=h (L+1) (bB _);refine⟨max n0 n1,λn hle m hm=>?_⟩;by_cases e:m=L+1
  .subst e;exact h1 n (by omega)
  .exact hn n (by omega) m (by omega)
def aq.of_pc {tab:Nat->Option PC}{ext:Nat->Option (aW->List D->Option D)}{f:Nat}{pc:PC}{ds:List D}{d:D}(hx:ext f=none)(ht:tab f=some pc)(h:aN (eH tab ext) pc (lV ds) (λx=>x=.ret d)):aq (eH tab ext) f ds d:=by
 obtain⟨x,rfl,n0,hn⟩:=h;refine⟨n0+1,λn hle=>?_⟩;obtain⟨k,rfl⟩:∃k,n=k+1:=⟨n-1,by omega⟩
 simp[eH,hx,ht,hn k (by omega)]
def aq.of_ext {tab:Nat->Option PC}{ext:Nat->Option (aW->List D->Option D)}{f:Nat}{g:aW->List D->Option D}{ds:List D}{d:D}(hx:ext f=some g)(h:∃n0,∀n,n0<=n->g (eH tab ext n) ds=some d):aq (eH tab ext) f ds d:=by
 obtain⟨n0,hn⟩:=h;refine⟨n0+1,λn hle=>?_⟩;obtain⟨k,rfl⟩:∃k,n=k+1:=⟨n-1,by omega⟩
 simp[eH,hx,hn k (by omega)]
def If (T:cV)(xs:List D)(m:Nat):cV:=λn=>yldΦ (T n) xs m
def aq.yld {T:cV}{xs:List D}{m f:Nat}{ds:List D}{d:D}(h:aq T f ds d)(hf:f≠od):aq (If T xs m) f ds d:=by
 obtain⟨n0,hn⟩:=h;exact⟨n0,λn hle=>by simp[If,yldΦ,hf,hn n hle]⟩
def aq.answer {T:cV}{xs l:List D}{m i:Nat}(hl:l=xs.take (i+1))(hi:i<xs.length)(hm:i<=m):aq (If T xs m) od [.list l] (.v (.bool (decide (i<m)))):=by
 subst hl;refine⟨0,λn _=>?_⟩;have h1:(xs.take (i+1)).length=i+1:=by rw[ed];omega
 simp only[If,yldΦ,if_true,h1];rw[if_pos ⟨by omega,by omega,trivial⟩];rfl
def aq.of_it {tab:Nat->Option PC}{ext:Nat->Option (aW->List D->Option D)}{f:Nat}{pc:PC}{J k:Nat}{spec:List D->List D}{ds:List D}(hx:ext f=some (Ga pc J k spec))(hk:∀x,x∈spec ds->∃ds',x=.tup ds'/\ds'.length=k)
 (h:∀m,m<=(spec ds).length->aN (If (eH tab ext) (spec ds) m) pc (BM J ds) (λx=>x=.ret (.list ((spec ds).take (m+1))))):aq (eH tab ext) f ds (.list (spec ds)):=by
 refine aq.of_ext hx ?_
 obtain⟨n0,hn⟩:=bounded (Q:=λm n=>pc.ev (yldΦ (eH tab ext n) (spec ds) m) n (BM J ds)=some (.ret (.list ((spec ds).take (m+1))))) (spec ds).length (λm hm=>by
  obtain⟨x,rfl,n0,hn⟩:=h m hm;exact⟨n0,hn⟩)
 refine⟨n0,λn hle=>?_⟩;unfold Ga;rw[if_pos];exact⟨λm hm=>⟨n,hn n hle m hm⟩,hk⟩
def aq.fnOK {C:Ctx}{tab:Nat->Option PC}{ext:Nat->Option (aW->List D->Option D)}(h:TabOK C tab ext){f:Nat}{s:Sig}{ds:List D}{d:D}(hs:C.sig f=some s)(hr:aq (eH tab ext) f ds d)(hm:rv s.mode=false:=by rfl):jz C f s ds d:=by
 obtain⟨n0,hn⟩:=hr;exact((ZY h n0).1 f ds d (hn n0 (bB _)) s hs).1 hm
def Le (Z Ψ:aW):Prop:=∀f ds d,Z f ds=some d->Ψ f ds=some d
def PI.run_mono {Z Ψ:aW}(h:Le Z Ψ){p:PI}{O O':Env}(hr:p.run Z O=some O'):p.run Ψ O=some O':=by
 cases p with
 |setR t e=>exact hr
 |setO t e=>exact hr
 |chk e=>exact hr
 |call gs d f aa=>
  simp only[PI.run] at hr ⊢;cases hg:holds gs O<;>simp only[hg,zyy,zyx] at hr ⊢
  .exact hr
  .simp only[aD] at hr ⊢;obtain⟨x,hx,e⟩:=hr;exact⟨x,h _ _ _ hx,e⟩
 |callc gs d f aa=>
  simp only[PI.run] at hr ⊢;cases hg:holds gs O<;>simp only[hg,zyy,zyx] at hr ⊢
  .exact hr
  .split at hr
   .simp only[aD] at hr ⊢;obtain⟨x,hx,e⟩:=hr;exact⟨x,h _ _ _ hx,e⟩
   .cases hr
 |mcall j f aa=>
  simp only[PI.run,aD] at hr ⊢;obtain⟨x,hx,e⟩:=hr;exact⟨x,h _ _ _ hx,e⟩
def PI.runs_mono {Z Ψ:aW}(h:Le Z Ψ):∀{l:List PI} {O O':Env},PI.runs Z l O=some O'->PI.runs Ψ l O=some O'
 |[],O,O',hr=>hr
 |p::l,O,O',hr=>by
  simp only[PI.runs,aA] at hr ⊢;obtain⟨x,hx,e⟩:=hr;exact⟨x,PI.run_mono h hx,PI.runs_mono h e⟩
def adL {b c:Env->Option Out}(h:∀O x,b O=some x->c O=some x){O:Env}{lr lo:List Nat}:∀{n m:Nat} {vr vo:List D} {x:Out},n<=m->gC b O lr lo n vr vo=some x->gC c O lr lo m vr vo=some x
 |0,m,vr,vo,x,_,hr=>by simp[gC] at hr
 |n+1,m,vr,vo,x,hle,hr=>by
  obtain⟨m,rfl⟩:∃k,m=k+1:=⟨m-1,by omega⟩
  simp only[gC] at hr ⊢;cases hb:b (O.put lr vr lo vo) with
  |none=>rw[hb] at hr;cases hr
  |some y=>
   rw[h _ _ hb];rw[hb] at hr;cases y with
   |next O'=>exact adL h (by omega) hr
   |exit id O'=>exact hr
   |ret d=>exact hr
def aaP {b c:Env->Option Out}(h:∀O x,b O=some x->c O=some x){O:Env}{ps lo:List Nat}{rt:Option PE}:∀{xs vo:List D} {x:Out},ia b O ps lo rt xs vo=some x->ia c O ps lo rt xs vo=some x
 |[],vo,x,hr=>hr
 |y::xs,vo,x,hr=>by
  simp only[ia] at hr ⊢;cases hb:b (O.put ps (partsOf ps y) lo vo) with
  |none=>rw[hb] at hr;cases hr
  |some z=>
   rw[h _ _ hb];rw[hb] at hr;cases z with
   |next O'=>exact aaP h hr
   |exit id O'=>exact hr
   |ret d=>cases hr
def agw {b c:Env->Option Out}(h:∀O x,b O=some x->c O=some x){O:Env}{J:Nat}{es:D}{ps cZ lo:List Nat}:∀{xs done vo oa:List D},mQ b O J es ps cZ lo xs done vo=some oa->mQ c O J es ps cZ lo xs done vo=some oa
 |[],_,_,_,hr=>hr
 |x::xs,done,vo,oa,hr=>by
  simp only[mQ] at hr ⊢;split at hr
  .rename_i O' hb;rw[h _ _ hb];exact agw h hr
  .cases hr
def PC.ev_mono {Z Ψ:aW}(h:Le Z Ψ){n m:Nat}(hle:n<=m):∀{c:PC} {O:Env} {x:Out},c.ev Z n O=some x->c.ev Ψ m O=some x:=by
 intro c
 induction c with
 |skip=>intro O x hr;exact hr
 |is l=>
  intro O x hr;simp only[PC.ev,aD] at hr ⊢;obtain⟨y,hy,e⟩:=hr;exact⟨y,PI.runs_mono h hy,e⟩
 |seq a b bC dQ=>
  intro O x hr;simp only[PC.ev] at hr ⊢;cases ha:a.ev Z n O with
  |none=>rw[ha] at hr;cases hr
  |some y=>rw[bC ha];rw[ha] at hr;cases y<;>first|exact dQ hr|exact hr
 |ite c lr lo a b bC dQ=>
  intro O x hr;simp only[PC.ev] at hr ⊢;cases hc:(c.ev O).b<;>simp only[hc,zyy,zyx] at hr ⊢
  .cases ha:b.ev Z n O with
   |none=>rw[ha] at hr;cases hr
   |some y=>rw[dQ ha];rw[ha] at hr;exact hr
  .cases ha:a.ev Z n O with
   |none=>rw[ha] at hr;cases hr
   |some y=>rw[bC ha];rw[ha] at hr;exact hr
 |block id lr lo a bC=>
  intro O x hr;simp only[PC.ev] at hr ⊢;cases ha:a.ev Z n O with
  |none=>rw[ha] at hr;cases hr
  |some y=>rw[bC ha];rw[ha] at hr;exact hr
 |loop lr lo a bC=>intro O x hr;exact adL (λO x=>bC) hle hr
 |exit id=>intro O x hr;exact hr
 |ret e=>intro O x hr;exact hr
 |each e ps lo rt a bC=>intro O x hr;exact aaP (λO x=>bC) hr
 |meach J ps cZ lo a bC=>
  intro O x hr;simp only[PC.ev,zB] at hr ⊢;obtain⟨vo,⟨h1,h2⟩,rfl⟩:=hr;exact⟨vo,⟨h1,λys hy=>agw (λO x=>bC) (h2 ys hy)⟩,rfl⟩
def Env.setR_r (O:Env)(t u:Nat)(d:D):(O.setR t d).r u=if u=t then d else O.r u:=by simp only[Env.setR,fQ]
def Env.setO_o (O:Env)(t u:Nat)(d:D):(O.setO t d).o u=if u=t then d else O.o u:=by simp only[Env.setO,fQ]
def Env.join_r (O O':Env)(lr lo:List Nat)(u:Nat):(O.join lr lo O').r u=if u∈lr then O'.r u else O.r u:=by simp only[Env.join,Env.put,va]
def Env.join_o (O O':Env)(lr lo:List Nat)(u:Nat):(O.join lr lo O').o u=if u∈lo then O'.o u else O.o u:=by simp only[Env.join,Env.put,va]
def MG (f:Nat->D)(i:Nat)(is:List Nat)(x:D)(xs:List D)(u:Nat):putL f (i::is) (x::xs) u=if u=i then x else putL f is xs u:=by simp only[putL,fQ]
def MH (f:Nat->D)(xs:List D)(u:Nat):putL f [] xs u=f u:=by cases xs<;>rfl
def aqp (g:Nat×Bool)(gs:List (Nat×Bool))(O:Env):holds (g::gs) O=((O.r g.1).b==g.2&&holds gs O):=rfl
def D.cells_none:D.none.cells=[.none]:=rfl
def D.tget_tup (x:List D)(i:Nat):(D.tup x).tget i=x.getD i .none:=rfl
def D.c_agg (x:List D)(i:Nat):(D.agg x).c i=x.getD i .none:=rfl
end Cx
