/-
  Shared texts of this claim.
-/
import Derived.Test.YtefchokhgdmamaaGreatDoorMAH
import Derived.Below
import Derived.ChangeSame
import Derived.WalkKit
import Derived.ProofKit
import Derived.OpenShut
import Derived.Carry
import Derived.JoinedCond
set_option linter.defProp false
set_option linter.unusedSimpArgs false
set_option linter.unusedVariables false
noncomputable section
namespace Cx
open Go Go.RowKit
def YY (m:Nat)(s:Sig):Snap:=⟨s.args.map .dat++List.replicate (m-s.args.length) .none,[]⟩
def mE (ds:List D):Env:=⟨λt=>ds.getD t .none,λ_=>.none⟩
def A6 (C:Ctx)(fn:Func)(s:Sig)(ids:List Nat)(S0:Snap):Option PC:=
 match fn.body with
 |some c=>
  (comp C fn s fn.ntmps ids (MZ C fn.ntmps ids) false c S0).bind λr=>
    match r.out with
    |none=>some r.pc
    |some S=>(zw C fn s (S.st ids)).map λe=>.seq r.pc (.ret e)
 |none=>none
def Px (m:Nat)(shs:List Sh)(obs:List (Nat×Ob))(ids:List Nat):Snap:=⟨shs++List.replicate (m-shs.length) .none,ids.map (fh obs)⟩
def JX (shs:List Sh)(obs:List (Nat×Ob))(ds:List D):Env:=nK obs ds (ds.drop shs.length)
def FC (l:List Nat):Nat->List Sh->Bool
 |_,[]=>true
 |t,s::ss=>(oJ s|| !gB l t)&&FC l (t+1) ss
def CX:List (Nat×Ob)->Nat->List PI
 |[],_=>[]
 |x::l,k=>CX l (k+1)++[.setO x.1 (.r k)]
def agb {Z:aV}:∀(l:List (Nat×Ob)) (k:Nat) (O:Env) (ds:List D),(∀i,O.r (k+i)=ds.getD i .none)->(∀j,O.o j=.none)->PI.runs Z (CX l k) O=some ⟨O.r,λj=>oM l ds j⟩
 |[],k,O,ds,h,ho=>by
  simp only[CX,PI.runs]
  congr 1
  cases O with|mk r o=>congr 1;funext j;exact ho j
 |x::l,k,O,ds,h,ho=>by
  simp only[CX,p9]
  rw[agb l (k+1) O ds.tail (λi=>by
   have:=h (i+1);rw[vu,Dl 1 i,this];cases ds<;>simp) ho]
  simp only[lh,PI.runs,PI.run,PE.ev,Env.setO]
  congr 1
  congr 1
  funext j;rw[gm];have h0:=h 0;simp only[iZ] at h0;cases ds with
  |nil=>
   have e:∀m j,oM m [] j=D.none:=λm j=>by cases m<;>rfl
   rw[h0];split<;>simp[e]
  |cons d ds=>
   simp only[oM,List.tail_cons];by_cases hj:j=x.1
   .subst hj;rw[if_pos rfl,ja,h0];rfl
   .rw[if_neg hj,fS (λe=>hj e.symm)];rfl
def aui {Z:aV}(shs:List Sh)(obs:List (Nat×Ob))(ds:List D):PI.runs Z (CX obs shs.length) (mE ds)=some (JX shs obs ds):=by
 rw[agb obs shs.length (mE ds) (ds.drop shs.length) (λi=>by simp[mE,aN]) (λj=>rfl)];rfl
def Ig (fn:Func):List Nat:=match fn.body with|some c=>cT c|none=>[]
def wJ:List (Nat×Ob)->Bool
 |[]=>true
 |x::l=>(match x.2 with|.tr=>false|_=>true)&&wJ l
def nu (C:Ctx)(fn:Func)(s:Sig)(ids:List Nat):Option PC:=
 match C.yl with
 |none=>
  match s.mode with
  |.ob shs obs=>bif Nat.ble shs.length fn.ntmps&&FC (Ig fn) 0 shs&&shs.all uM&&wJ obs then(A6 C fn s ids (Px fn.ntmps shs obs ids)).map λpc=>.seq (.is (CX obs shs.length)) pc else none
  |_=>bif Nat.ble s.args.length fn.ntmps then A6 C fn s ids (YY fn.ntmps s) else none
 |some _=>none
def abU:∀(ids:List Nat) (j:Nat),eF ids [] j=.dead
 |[],_=>rfl
 |_::_,_=>rfl
def YH {C:Ctx}{Z:aV}(aR:eU C)(hΦ:ei C Z)(jG:la C Z){fn:Func}{s:Sig}{ids:List Nat}{S0:Snap}{pc:PC}{c:Code}(hb:fn.body=some c)(hc:A6 C fn s ids S0=some pc){w0:World}{σ0:Base}(lu:σ0.fin)(hC:CtxOK C σ0)(hY:rL C Z w0 σ0)
 {N:Nat} {O:Env} {d:D} {a:Act} {w:World} (hn:a.tmps.size=fn.ntmps) (hg:Good C w0 σ0 (S0.st ids) O (λ_=>False) a w) (he:pc.ev Z N O=some (.ret d)):
 c.wpIn (FR none) 0 C.P (λe a' w'=>(e=.normal\/e=.ret)/\tI C w0 σ0 fn s d a'.tmps a'.defers w'/\SameBut (λt=>t∈cT c) a a') a w:=by
 unfold A6 at hc;rw[hb] at hc;simp only[aw] at hc;obtain⟨r,hr,hc⟩:=hc;have Ri:=λx hx=>ajl (fn:=fn) (s:=s) (N:=N) jG (atG (n:=fn.ntmps) (ids:=ids) aR hΦ) c false S0 r hr none w0 σ0 (λt=>t∈cT c) O x a w (λ_=>⟨rfl,lu⟩) hC hY (λ_ h=>h) hn hg hx;split at hc
 .rename_i lx;cases hc;refine wpIn_mono (Ri (.ret d) he) λe a' w' ho=>?_;cases e with
  |normal=>obtain⟨_,_,h,_⟩:=ho;cases h
  |exit id=>obtain⟨_,_,h,_⟩:=ho;cases h
  |ret=>obtain⟨d',h,h2⟩:=ho;cases h;exact⟨.inr rfl,h2⟩
  |_=>exact ho.elim
 .rename_i S lx;simp only[aC] at hc;obtain⟨pe,v8,rfl⟩:=hc;simp only[PC.ev] at he;split at he
  .rename_i ρ1 h1;cases he;refine wpIn_mono (Ri (.next ρ1) h1) λe a' w' ho=>?_;cases e with
   |normal=>
    obtain⟨ρ2,S2,e1,e2,qM,dx⟩:=ho;cases e1;rw[lx] at e2;cases e2;obtain⟨σ2,own,hv,hi⟩:=dx;exact⟨.inl rfl,Inv.retD hC (λ_=>rfl) lu v8 _ hi rfl,qM⟩
   |exit id=>obtain⟨_,_,h,_⟩:=ho;cases h
   |ret=>obtain⟨d',h,h2⟩:=ho;cases h
   |_=>exact ho.elim
  .rename_i aB;refine wpIn_mono (Ri (.ret d) he) λe a' w' ho=>?_;cases e with
   |normal=>obtain⟨_,_,h,_⟩:=ho;cases h
   |exit id=>obtain⟨_,_,h,_⟩:=ho;cases h
   |ret=>obtain⟨d',h,h2⟩:=ho;cases h;exact⟨.inr rfl,h2⟩
   |_=>exact ho.elim
def tI.leaves {C:Ctx}{w0:World}{σ0:Base}{fn:Func}{s:Sig}{d:D}{tmps:Array Value}{R:Ending->World->Prop}(hR:∀w',N8 C w0 σ0 fn s d {tmps:=tmps,defers:=[]} w'->∃v,(results fn tmps).run C.P w'=.ok v w'/\R (.returned v) w'):
 ∀(ds:List Deferred) (w:World),tI C w0 σ0 fn s d tmps ds w->LeavesInM (FR none) 0 C.P fn tmps R ds .returning w
 |[],w,h=>hR w h
 |x::ds,w,⟨D,h1,h2,h3⟩=>⟨by simp,.inl ⟨D,_,h1,run_takeDeferred h2,tI.leaves hR ds _ h3⟩⟩
def ako {C:Ctx}{V:Im}{w:World}{args:Array Value}{ds:List D}{s:Sig}{m:Nat}{ids:List Nat}(az:V.ok w)(ha:rE C V s.args args.toList ds):
 Good C w (Base.mk0 V w.heap.size) ((YY m s).st ids) (mE ds) (λ_=>False) {tmps:=args++Array.replicate (m-args.size) undef,defers:=[]} w:=by
 obtain⟨h1,h2,h3⟩:=ha;have aH:args.size=s.args.length:=by simpa using h1
 refine⟨V,λ_=>none,λ_=>undef,trivial,az,.refl V,λ_ k e=>(az.m k _ e).lt,λ_ _ _ h=>.inl h,λ_ _ h=>.inl h,.refl _ _,aY _,(λk j h=>by cases h),λt=>?_,λj=>?_,λt gs s' e=>absurd e (Snap.noOpt _ _ t gs s'),
  .none,λ_=>False,λ_=>False,⟨⟨λ_=>id,λ_=>id⟩,(λk j h=>by cases h),λ_ _ _ _=>id,λ_ _ _=>id,λ_ _ _=>id⟩,λj hj=>?_⟩
 .show aK C _ _ V _ (db ((s.args.map Sh.dat++List.replicate (m-s.args.length) Sh.none).getD t .none)) _ _;rw[aN];by_cases ht:t<s.args.length
  .rw[lT (by simpa using ht),cV,bE ht];simp only[lU,nZ,db];have:=h3 t _ (bE ht);have e1:(args++Array.replicate (m-args.size) undef).getD t undef=args.toList.getD t undef:=by
        simp only[fb,aN];rw[Xv (by omega)];simp
   show aK C _ _ V _ (.dat _) ((args++Array.replicate (m-args.size) undef).getD t undef) (ds.getD t .none);rw[e1];exact this
  .rw[jX (by simpa using ht),ahL];split<;>trivial
 .show cR C _ _ V _ _ w _ j (eF ids [] j);rw[abU];trivial
 .change eF ids [] j=.tr at hj;rw[abU] at hj;cases hj
def Ph {C:Ctx}{Z:aV}(aR:eU C)(hΦ:ei C Z)(jG:la C Z){f:Nat}{fn:Func}{s:Sig}{ids:List Nat}{pc:PC}(hf:C.P.funcs[f]?=some fn)(hc:nu C fn s ids=some pc){N:Nat}{ds:List D}{d:D}(de:qX s.mode=false)
 (he:pc.ev Z N (mE ds)=some (.ret d)):jA C f s ds d:=by
 intro V w args az hC ha;unfold nu at hc;split at hc
 case h_2=>cases hc
 rename_i nD;split at hc
 case h_1=>rename_i e;rw[e] at de;cases de
 cases hle:Nat.ble s.args.length fn.ntmps<;>simp only[hle,zyx,zyw] at hc
 .cases hc
 have QC:=lg hle;have aH:args.size=s.args.length:=by simpa using ha.1
 cases hb:fn.body with
 |none=>unfold A6 at hc;rw[hb] at hc;cases hc
 |some c=>
 refine(callsIn_wide (n:=0)).1 (callsIn_of_wp_marks (F:=FR none) hf hb trivial ?_);have hg:=ako (C:=C) (m:=fn.ntmps) (ids:=ids) az ha;have hn:(args++Array.replicate (fn.ntmps-args.size) undef).size=fn.ntmps:=by simp;omega
 refine wpIn_mono (YH aR hΦ jG hb hc (σ0:=Base.mk0 V w.heap.size) trivial hC (λJ ys e=>by rw[nD] at e;cases e) hn hg he) λe a' w' ho=>?_
 have main:=tI.leaves (R:=λe w'=>∃v V',e=.returned v/\V.le V'/\V'.ok w'/\Below w.heap.size w w'/\
  (∀k o x,V'.c k o=some x->V.c k o=some x\/w.heap.size<=k)/\(∀k x,V'.m k=some x->V.m k=some x\/w.heap.size<=k)/\nk C s V' w w' v d) (λw2 Rc=>by
  obtain⟨v,V',_,h2,h3,h4,h5,h6,h7,h8⟩:=Rc;exact⟨v,h2,v,V',rfl,h3,h4,h5,h6,h7,h8⟩) _ _ ho.2.1
 rcases ho.1 with rfl|rfl<;>exact main
def Base.mkO (V:Im)(own:Nat->Option Nat)(w:World)(cx:Nat->Prop):Base:=
 {V with
  B:=0
  fin:=True
  F:=λ_ fx mD w'=>(∀k,fx k↔(k<w.heap.size/\own k=none))/\(∀k,mD k↔(fx k/\cx k))/\w.heap.size<=w'.heap.size/\∀k,fx k->w'.heap[k]?=w.heap[k]?
  lt:=λt' fx cx w' h k hk=>xG ((h.1 k).1 hk).1 h.2.2.1
  sub:=λt' fx cx w' h k hk=>((h.2.1 k).1 hk).1
  keep:=λt' fx cx w' lO h hb hs=>⟨h.1,h.2.1,cn h.2.2.1 hb.size,λk hk=>(hs k hk).trans (h.2.2.2 k hk)⟩}
def abB {l:List Nat}:∀{shs:List Sh} {k:Nat},FC l k shs=true->∀(t:Nat) (s:Sh),shs[t]?=some s->oJ s=false->(k+t)∉l
 |[],k,_,t,s,h,_=>by simp at h
 |x::shs,k,hk,t,s,h,hd=>by
  simp only[FC,aq,fQ,iY] at hk;cases t with
  |zero=>
   simp at h;subst h;rcases hk.1 with h1|h1
   .rw[hd] at h1;cases h1
   .intro hm;rw[iZ] at hm;rw[(qY _ _).2 hm] at h1;cases h1
  |succ t=>
   simp at h;have:=abB hk.2 t s h hd
   rwa [vu,Dl 1 t] at this
def RX (obs:List (Nat×Ob))(j:Nat):∀ids:List Nat,eF ids (ids.map (fh obs)) j=.dead\/eF ids (ids.map (fh obs)) j=fh obs j
 |[]=>.inl rfl
 |i::is=>by
  simp only[gq,eF];cases hb:Nat.beq i j
  .exact RX obs j is
  .right;rw[aA hb];rfl
def acA:∀{l:List (Nat×Ob)},wJ l=true->∀x,x∈l->x.2≠.tr
 |[],_,x,hx=>by cases hx
 |y::l,h,x,hx=>by
  simp only[wJ,aq] at h;rcases cZ.1 hx with rfl|hx
  .intro e;rw[e] at h;cases h.1
  .exact acA h.2 x hx
def acB:∀{l:List (Nat×Ob)},wJ l=true->∀j,fh l j≠.tr
 |[],_,j,e=>by cases e
 |x::l,h,j,e=>by
  simp only[wJ,aq] at h;simp only[fh] at e;cases hb:Nat.beq x.1 j<;>simp only[hb,zyx,zyw] at e
  .exact acB h.2 j e
  .have h1:=h.1;rw[e] at h1;cases h1
def akn {C:Ctx}{V:Im}{own:Nat->Option Nat}{hv:Nat->Value}{w w0:World}{args:Array Value}{cx:Nat->Prop}{shs:List Sh}{obs:List (Nat×Ob)}{ds:List D}{m:Nat}{ids:List Nat}(hN:w0.heap.size<=w.heap.size)(EB:Below 0 w0 w)(az:V.ok w)(bn:∀k,V.m k≠some dw)(aH:args.size=shs.length)
 (be:∀k j,own k=some j->w0.heap.size<=k/\k<w.heap.size/\(∀o,V.c k o=none)/\V.m k=none) (l7:∀k,cx k->k<w.heap.size/\own k=none/\(∀o,V.c k o=none)/\V.m k=none) (yN:wJ obs=true) (dO:shs.all uM=true)
 (h1:∀t,aK C (gO shs obs) (JX shs obs ds) V hv (shs.getD t .none) (args.getD t undef) (ds.getD t .none)) (h2:∀j,cR C (gO shs obs) (JX shs obs ds) V own hv w w0.heap.size j (fh obs j)):
 Good C w0 (Base.mkO V own w cx) ((Px m shs obs ids).st ids) (JX shs obs ds) (λ_=>False) {tmps:=args++Array.replicate (m-args.size) undef,defers:=[]} w:=by
 have sl:Compat (gO shs obs) hv ((Px m shs obs ids).st ids) hv:=⟨λ_=>aY _,λ_ _=>rfl⟩
 refine⟨V,own,hv,trivial,az,.refl V,λ_ k e=>absurd e (bn k),λ_ _ _ h=>.inl h,λ_ _ h=>.inl h,EB,pf _,be,λt=>?_,λj=>?_,λt gs s' e=>absurd e (Snap.noOpt _ _ t gs s'),
  .none,(λk=>k<w.heap.size/\own k=none),cx,⟨⟨λ_=>Iff.rfl,λk=>⟨λh=>⟨⟨(l7 k h).1,(l7 k h).2.1⟩,h⟩,λh=>h.2⟩,aY _,λ_ _=>rfl⟩,(λk j h hf=>by rw[hf.2] at h;cases h),(λk o x e hc=>by rw[(l7 k hc).2.2.1 o] at e;cases e),(λk x e hc=>by rw[(l7 k hc).2.2.2] at e;cases e),λk e=>absurd e (bn k)⟩,λj hj=>?_⟩
 .show aK C _ _ V _ (db ((shs++List.replicate (m-shs.length) Sh.none).getD t .none)) _ _;refine NF ?_;rw[aN];by_cases ht:t<shs.length
  .rw[lT ht];have:=h1 t;rw[aN (l:=shs)] at this;have e1:(args++Array.replicate (m-args.size) undef).getD t undef=args.getD t undef:=by
        simp only[fb];rw[Xv (by omega)]
   show aK C _ _ V _ _ ((args++Array.replicate (m-args.size) undef).getD t undef) (ds.getD t .none);rw[e1];refine aK.mono' (.refl V) sl (λgs s' e=>?_) this;have hp:=bJ.1 dO _ (cY ht);rw[bE ht] at e;simp only[nZ] at e;rw[e] at hp;cases hp
  .rw[jX (by omega),ahL];split<;>trivial
 .show cR C _ _ V _ _ w _ j (eF ids (ids.map (fh obs)) j);rcases RX obs j ids with e|e
  .rw[e];trivial
  .rw[e];exact(h2 j).mono (.refl V) sl rfl rfl (λk hk=>⟨hk,rfl⟩)
 .change eF ids (ids.map (fh obs)) j=.tr at hj;rcases RX obs j ids with e|e
  .rw[e] at hj;cases hj
  .rw[e] at hj;exact absurd hj (acB yN j)
def JT (w:World)(N:Nat):World:={w with heap:=w.heap.extract 0 N}
def ajg {C:Ctx}{Z:aV}(aR:eU C)(hΦ:ei C Z)(jG:la C Z){f:Nat}{fn:Func}{s:Sig}{ids:List Nat}{pc:PC}(hf:C.P.funcs[f]?=some fn)(hc:nu C fn s ids=some pc){N:Nat}{ds:List D}{d:D}{shs:List Sh}{obs:List (Nat×Ob)}(de:s.mode=.ob shs obs)
 (he:pc.ev Z N (mE ds)=some (.ret d)):iL C f shs obs s.res ds d:=by
 unfold nu at hc;split at hc
 case h_2=>cases hc
 rename_i nD;rw[de] at hc;simp only at hc;cases hle:(Nat.ble shs.length fn.ntmps&&FC (Ig fn) 0 shs&&shs.all uM&&wJ obs)<;>simp only[hle,zyx,zyw] at hc
 .cases hc
 simp only[aq] at hle;obtain⟨⟨⟨l1,l2⟩,l3⟩,l4⟩:=hle;refine iL.of (acA l4) ?_;intro B V own hv w args cx _ az hC bn hB aH be l7 h1 h2;simp only[aC] at hc;obtain⟨pc,hc,rfl⟩:=hc;simp only[PC.ev,aui,lU] at he;have QC:=lg l1;cases hb:fn.body with
 |none=>unfold A6 at hc;rw[hb] at hc;cases hc
 |some c=>
 have bI:Ig fn=cT c:=by unfold Ig;rw[hb]
 rw[bI] at l2;refine(callsIn_wide (n:=0)).1 (callsIn_of_wp_marks (F:=FR none) hf hb trivial ?_);have nC:(JT w B).heap.size=B:=by simp[JT];omega
 have EB:Below 0 (JT w B) w:=⟨rfl,rfl,rfl,by rw[nC];exact hB,λk hk=>by omega⟩
 have hg:=akn (C:=C) (m:=fn.ntmps) (ids:=ids) (w0:=JT w B) (cx:=cx) (by rw[nC];exact hB) EB az bn aH (by rw[nC];exact be) l7 l4 l3 h1 (by rw[nC];exact h2);have hn:(args++Array.replicate (fn.ntmps-args.size) undef).size=fn.ntmps:=by simp;omega
 refine wpIn_mono (YH aR hΦ jG hb hc (σ0:=Base.mkO V own w cx) trivial hC (λJ ys e=>by rw[nD] at e;cases e) hn hg he) λe a' w' ho=>?_;obtain⟨kL,Rc,gz⟩:=ho
 have main:=tI.leaves (R:=λe w'=>∃v V' own' hv' dr os,e=.returned v/\d=.tup (dr::os)/\os.length=obs.length/\V.le V'/\V'.ok w'/\Below 0 w w'/\
  (∀k,k<w.heap.size->own k=none->w'.heap[k]?=w.heap[k]?)/\
  (∀k o x,V'.c k o=some x->(V.c k o=some x\/B<=k)/\¬cx k)/\(∀k x,V'.m k=some x->(V.m k=some x\/B<=k)/\¬cx k)/\(∀k,V'.m k=some dw->B<=k->k<w.heap.size->own k≠none)/\
  (∀k j,own' k=some j->B<=k/\k<w'.heap.size/\(∀o,V'.c k o=none)/\V'.m k=none/\(k<w.heap.size->own k≠none))/\
  (∀(t:Nat) (sh:Sh),shs[t]?=some sh->oJ sh=false->aK C (gO shs obs) (nK obs ds os) V' hv' sh (args.getD t undef) (ds.getD t .none))/\
  (∀j,cR C (gO shs obs) (nK obs ds os) V' own' hv' w' B j (fh obs j))/\Rep C.cap V' s.res v dr) (λw2 hr=>by
  obtain⟨v,V',⟨own',t,fx,mD,dC,_,hor⟩,ao,kO,QV,EA,dD,dp,_⟩:=hr;obtain⟨hv',dr,os,e1,e2,e3,e4,e5,e6⟩:=hor shs obs de;obtain⟨f1,f2,f3,f4⟩:=dC.F;have aaa:∀k,cx k->mD k:=λk hk=>(f2 k).2 ⟨(f1 k).2 ⟨(l7 k hk).1,(l7 k hk).2.1⟩,hk⟩;rw[nC] at dD dp e3 e5
  refine⟨v,ao,v,V',own',hv',dr,os,rfl,e1,e2,kO,QV,⟨EA.os,EA.tape,EA.output,f3,λk hk=>by omega⟩,λk hk hn=>f4 k ((f1 k).2 ⟨hk,hn⟩),λk o x e=>⟨dD k o x e,λhk=>dC.c k o x e (aaa k hk)⟩,λk x e=>⟨dp k x e,λhk=>dC.m k x e (aaa k hk)⟩,
   λk e mJ hk hn=>dC.d k e (by rw[nC];exact mJ) ((f1 k).2 ⟨hk,hn⟩),λk j hk=>?_,λt sh hs hd=>?_,λj=>?_,e6⟩
  .obtain⟨g1,g2,g3,g4⟩:=e3 k j hk;exact⟨g1,g2,g3,g4,λah hn=>dC.own k j hk ((f1 k).2 ⟨ah,hn⟩)⟩
  .have:=e4 t sh hs hd (ds.getD t .none);have ah:t<shs.length:=(eV.1 hs).1;have oD:t∉cT c:=by have:=abB l2 t sh hs hd;simpa using this
   have cO:a'.tmps.getD t undef=args.getD t undef:=by
        rw[gz.get t oD];simp only[fb];rw[Xv (by omega)]
   simp only at this;rw[cO] at this;have hp:=bJ.1 l3 _ (lf hs);exact aK.mono' (.refl V') ⟨λ_=>aY _,λ_ _=>rfl⟩ (λgs s' e=>by rw[e] at hp;cases hp) this
  .exact cR.mono (S:=gO shs obs) (S':=gO shs obs) (O:=nK obs [] os) (O':=nK obs ds os) (hv:=hv') (hv':=hv') (own:=own') (own':=own') (w:=w2) (w':=w2) (.refl V') ⟨λ_=>aY _,λ_ _=>rfl⟩ rfl rfl (λk hk=>⟨hk,rfl⟩) (e5 j)) _ _ Rc
 rcases kL with rfl|rfl<;>exact main
open Classical in
def gr (tab:Nat->Option PC)(ext:Nat->Option (aV->List D->Option D)):Nat->aV
 |0=>λ_ _=>none
 |n+1=>λf ds=>
  match ext f with
  |some g=>g (gr tab ext n) ds
  |none=>
   match tab f with
   |some pc=>(match pc.ev (gr tab ext n) n (mE ds) with|some (.ret d)=>some d|_=>none)
   |none=>none
def jA.hint {C:Ctx}{fr nh:List Nat}{f:Nat}{s:Sig}{ds:List D}{d:D}(h:jA C f s ds d):jA {C with fr:=fr,nh:=nh} f s ds d:=
 λV w args az hC ha=>h V w args az ⟨hC.glob⟩ ha
def jA.unhint {C:Ctx}{fr nh:List Nat}{f:Nat}{s:Sig}{ds:List D}{d:D}(h:jA {C with fr:=fr,nh:=nh} f s ds d):jA C f s ds d:=
 λV w args az hC ha=>h V w args az ⟨hC.glob⟩ ha
def zK.hint {C:Ctx}{fr nh:List Nat}{f:Nat}{JS ys:List Ty}{ds xs:List D}(h:zK C f JS ys ds xs):zK {C with fr:=fr,nh:=nh} f JS ys ds xs:=
 λV w yv vs F fx cx m az hC=>h V w yv vs F fx cx m az ⟨hC.glob⟩
def iL.hint {C:Ctx}{fr nh:List Nat}{f:Nat}{shs:List Sh}{obs:List (Nat×Ob)}{res:Ty}{ds:List D}{d:D}(h:iL C f shs obs res ds d):iL {C with fr:=fr,nh:=nh} f shs obs res ds d:=h.ctx rfl rfl rfl
def iL.unhint {C:Ctx}{fr nh:List Nat}{f:Nat}{shs:List Sh}{obs:List (Nat×Ob)}{res:Ty}{ds:List D}{d:D}(h:iL {C with fr:=fr,nh:=nh} f shs obs res ds d):iL C f shs obs res ds d:=iL.ctx (C':=C) h rfl rfl rfl
def ei.hint {C:Ctx}{fr nh:List Nat}{Z:aV}(h:ei C Z):ei {C with fr:=fr,nh:=nh} Z:=
 λf ds d e s hs=>⟨λhm=>((h f ds d e s hs).1 hm).hint,λshs obs hm=>((h f ds d e s hs).2 shs obs hm).hint⟩
def la.hint {C:Ctx}{fr nh:List Nat}{Z:aV}(h:la C Z):la {C with fr:=fr,nh:=nh} Z:=
 λf cs ys hc hi=>let⟨h1,h2⟩:=h f cs ys hc hi;⟨h1,λds d e=>let⟨xs,e1,e2,e3⟩:=h2 ds d e;⟨xs,e1,e2,e3.hint⟩⟩
def eU.hint {C:Ctx}{fr nh:List Nat}(h:eU C):eU {C with fr:=fr,nh:=nh}:=h
def HJ (C:Ctx)(f:Nat)(s:Sig)(ds:List D)(d:D):Prop:=(qX s.mode=false->jA C f s ds d)/\∀shs obs,s.mode=.ob shs obs->iL C f shs obs s.res ds d
structure TabOK (C:Ctx) (tab:Nat->Option PC) (ext:Nat->Option (aV->List D->Option D)):Prop where
 clos:eU C
 its:∀f cs ys,C.cap f=some cs->nF cs.args cs.res=some ys->tab f=none/\∃fn,C.P.funcs[f]?=some fn/\fn.body.isSome=true/\(fn.name== "runtime.NumGoroutine")=false
 tab:∀f pc,ext f=none->tab f=some pc->∃fn s ids fr nh,C.P.funcs[f]?=some fn/\C.sig f=some s/\nu {C with fr:=fr,nh:=nh} fn s ids=some pc
 ext:∀f g,ext f=some g->∀Z,ei C Z->la C Z->∀ds d,g Z ds=some d->(∀s,C.sig f=some s->HJ C f s ds d)/\
  ∀cs ys,C.cap f=some cs->nF cs.args cs.res=some ys->∃xs,d=.list xs/\(∀x,x∈xs->∃ds',x=.tup ds'/\ds'.length=ys.length)/\zK C f cs.caps ys ds xs
def XY {C:Ctx}{tab:Nat->Option PC}{ext:Nat->Option (aV->List D->Option D)}(h:TabOK C tab ext):∀n,ei C (gr tab ext n)/\la C (gr tab ext n)
 |0=>⟨λf ds d e=>by simp[gr] at e,λf cs ys hc hi=>⟨(h.its f cs ys hc hi).2,λds d e=>by simp[gr] at e⟩⟩
 |n+1=>by
  obtain⟨ih,kT⟩:=XY h n;refine⟨λf ds d e=>?_,λf cs ys hc hi=>⟨(h.its f cs ys hc hi).2,λds d e=>?_⟩⟩
  .simp only[gr] at e;split at e
   .rename_i g hg;exact(h.ext f g hg _ ih kT ds d e).1
   .rename_i hx;split at e
    .rename_i pc ae;split at e
     .rename_i d' he;cases e;obtain⟨fn,s,ids,fr,nh,h1,h2,h3⟩:=h.tab f pc hx ae;intro s' qQ;rw[h2] at qQ;cases qQ
      exact⟨λhm=>(Ph (C:={C with fr:=fr,nh:=nh}) (eU.hint h.clos) (ei.hint ih) (la.hint kT) h1 h3 hm he).unhint,
       λshs obs hm=>(ajg (C:={C with fr:=fr,nh:=nh}) (eU.hint h.clos) (ei.hint ih) (la.hint kT) h1 h3 hm he).unhint⟩
     .cases e
    .cases e
  .simp only[gr] at e;split at e
   .rename_i g hg;exact(h.ext f g hg _ ih kT ds d e).2 cs ys hc hi
   .rw[(h.its f cs ys hc hi).1] at e;cases e
open Classical in
def bS {α:Type}:List (Nat×α)->Nat->Option α
 |[],_=>none
 |x::l,f=>bif Nat.beq x.1 f then some x.2 else bS l f
def Hz {α:Type}(R:Nat->α->Prop):List (Nat×α)->Prop
 |[]=>True
 |x::l=>R x.1 x.2/\Hz R l
def RY {α:Type}{R:Nat->α->Prop}:∀{l:List (Nat×α)},Hz R l->∀f x,bS l f=some x->R f x
 |[],_,f,x,h=>by cases h
 |y::l,⟨h1,h2⟩,f,x,h=>by
  simp only[bS] at h;cases hb:Nat.beq y.1 f<;>simp only[hb,zyx,zyw] at h
  .exact RY h2 f x h
  .cases h;rw[<-dq hb];exact h1
def UZ (P:Program):List (Nat×Sig)->Bool
 |[]=>true
 |x::l=>(match P.funcs[x.1]? with|some fn=>fn.body.isSome&& !(fn.name== "runtime.NumGoroutine")|none=>false)&&UZ P l
def agw {P:Program}:∀{l:List (Nat×Sig)},UZ P l=true->∀f s,bS l f=some s->∃fn,P.funcs[f]?=some fn/\fn.body.isSome=true/\(fn.name== "runtime.NumGoroutine")=false
 |[],_,f,s,h=>by cases h
 |y::l,hl,f,s,h=>by
  simp only[UZ,aq] at hl;simp only[bS] at h;cases hb:Nat.beq y.1 f<;>simp only[hb,zyx,zyw] at h
  .exact agw hl.2 f s h
  .rw[<-dq hb];have h1:=hl.1;split at h1
   .rename_i fn e;simp only[aq,iY] at h1;exact⟨fn,e,h1.1,h1.2⟩
   .cases h1
def UR (a b:Sig):Bool:=Ty.beqs a.args b.args&&Ty.beq a.res b.res&&(match a.mode,b.mode with|.dat,.dat=>true|_,_=>false)
def auq {a b:Sig}(h:UR a b=true):a=b:=by
 obtain⟨a1,a2,a3⟩:=a;obtain⟨b1,b2,b3⟩:=b;simp only[UR,aq] at h;rw[Ty.beqs_eq _ _ h.1.1,Ty.beq_eq _ _ h.1.2];cases a3<;>cases b3<;>first|rfl|(have:=h.2;cases this)
def Hn (P:Program)(f:Nat):Bool:=match P.funcs[f]? with|some fn=>fn.body.isSome&& !(fn.name== "runtime.NumGoroutine")|none=>false
def auN {P:Program}{f:Nat}(h:Hn P f=true):∃fn,P.funcs[f]?=some fn/\fn.body.isSome=true/\(fn.name== "runtime.NumGoroutine")=false:=by
 unfold Hn at h;split at h
 .rename_i fn e;simp only[aq,iY] at h;exact⟨fn,e,h.1,h.2⟩
 .cases h
def Pb (P:Program)(sig:List (Nat×Sig))(pcs:List Nat):List (Nat×CSig)->Bool
 |[]=>true
 |x::l=>(match nF x.2.args x.2.res with
   |none=>(match bS sig x.1 with|some s=>UR s ⟨x.2.args++x.2.caps,x.2.res,.dat⟩|none=>false)
   |some _=> !gB pcs x.1&&Hn P x.1)&&Pb P sig pcs l
def Yt {P:Program}{sig:List (Nat×Sig)}{pcs:List Nat}:∀{l:List (Nat×CSig)},Pb P sig pcs l=true->∀f cs,bS l f=some cs->
 (nF cs.args cs.res=none->bS sig f=some ⟨cs.args++cs.caps,cs.res,.dat⟩)/\∀ys,nF cs.args cs.res=some ys->gB pcs f=false/\Hn P f=true
 |[],_,f,cs,h=>by cases h
 |x::l,hl,f,cs,h=>by
  simp only[Pb,aq] at hl;simp only[bS] at h;cases hb:Nat.beq x.1 f<;>simp only[hb,zyx,zyw] at h
  .exact Yt hl.2 f cs h
  .cases h;rw[<-dq hb];have h1:=hl.1;refine⟨λe=>?_,λys e=>?_⟩
   .rw[e] at h1;simp only at h1;split at h1
    .rename_i s hs;rw[hs,auq h1]
    .cases h1
   .rw[e] at h1;simpa using h1
def abS {α:Type}:∀{l:List (Nat×α)} {f:Nat},gB (l.map (·.1)) f=false->bS l f=none
 |[],f,_=>rfl
 |x::l,f,h=>by
  simp only[gq,gB,List.any_cons,XB] at h;simp only[bS];have hb:Nat.beq x.1 f=false:=by
   cases e:Nat.beq x.1 f
   .rfl
   .rw[aA e,ja] at h;cases h.1
  rw[hb];exact abS (l:=l) h.2
def ahO (Z:aV)(pa pb:PC)(ds:List D)(d:D):Prop:=(∃N xs,pa.ev Z N (mE ds)=some (.ret (.list xs))/\xs≠[]/\d=.list xs)\/∃N,pb.ev Z N (mE ds)=some (.ret (.list []))/\d=.list []
open Classical in
def B4 (pa pb:PC)(spec:List D->D):aV->List D->Option D:=λZ ds=>if ahO Z pa pb ds (spec ds) then some (spec ds) else none
def arn {C:Ctx}{Z:aV}(aR:eU C)(hΦ:ei C Z)(jG:la C Z){f:Nat}{fn:Func}{args:List Ty}{e:Ty}{ids ao4 fr nh Zz nhb:List Nat}{pa pb:PC}(hf:C.P.funcs[f]?=some fn)(ha:nu {C with fr:=fr,nh:=nh} fn ⟨args,.slice e,.dat⟩ ids=some pa)
 (hb:nu {C with fr:=Zz,nh:=nhb} fn ⟨args,.nils .bool,.dat⟩ ao4=some pb) {spec:List D->D} {ds:List D} {d:D} (h:B4 pa pb spec Z ds=some d):jA C f ⟨args,.nsl e,.dat⟩ ds d:=by
 unfold B4 at h;split at h
 case isFalse=>cases h
 rename_i hs;cases h;rcases hs with⟨N,xs,h1,h2,h3⟩|⟨N,h1,h2⟩
 .rw[h3];have:=(Ph (C:={C with fr:=fr,nh:=nh}) (eU.hint aR) (ei.hint hΦ) (la.hint jG) hf ha (N:=N) rfl h1).unhint;intro V w aa az hC jI;refine(this V w aa az hC jI).mono λen w' hh=>?_;obtain⟨v,V',g1,g2,g3,g4,g5,g6,g7⟩:=hh;refine⟨v,V',g1,g2,g3,g4,g5,g6,?_⟩;change Rep C.cap V' (.slice e) v (.list xs) at g7;show Rep C.cap V' (.nsl e) v (.list xs);generalize hd:D.list xs=dd at g7;cases g7 with
  |nil=>injection hd with hd;exact absurd hd h2
  |emp=>injection hd with hd;exact absurd hd h2
  |slice _ k o n c lQ vs a1 a2 a3 a4 a5=>exact .nsl e k o n c lQ (.slice e k o n c lQ vs a1 a2 a3 a4 a5) (by injection hd with hd;rw[<-hd];exact h2)
 .rw[h2];have:=(Ph (C:={C with fr:=Zz,nh:=nhb}) (eU.hint aR) (ei.hint hΦ) (la.hint jG) hf hb (N:=N) rfl h1).unhint;intro V w aa az hC jI;refine(this V w aa az hC jI).mono λen w' hh=>?_;obtain⟨v,V',g1,g2,g3,g4,g5,g6,g7⟩:=hh;refine⟨v,V',g1,g2,g3,g4,g5,g6,?_⟩;change Rep C.cap V' (.nils .bool) v (.list []) at g7;show Rep C.cap V' (.nsl e) v (.list []);generalize D.list []=dd at g7;cases g7;exact .nsl0 e
end Cx
namespace Cx
open Go Go.RowKit Go.ChangeShapes Go.WideShapes
def oI (w:World):Im:=
 ⟨λk o=>w.cell? ⟨k,o,none⟩,λ_=>none⟩
def ao6 (w:World):(oI w).ok w:=by
 exact⟨λk o v h=>h,λk es h=>by cases h⟩
def CS (P:Program)(r:TypeId->Option Ty):List Field->Nat->Option (List Ty)
 |[],_=>some []
 |f::fs,off=>(r f.type).bind λft=>
  bif Nat.beq f.offset off&&Nat.beq (P.cellsOf f.type) ft.flat.length then(CS P r fs (off+ft.flat.length)).map (ft.flat++·) else none
def hZ (P:Program):Nat->TypeId->Option Ty
 |0,_=>none
 |n+1,t=>
  match P.underlying t with
  |some .bool=>some .bool
  |some (.int k)=>some (.int k)
  |some .string=>some .str
  |some (.slice e)=>bif uB P e then some (.slice .trm) else(hZ P n e).bind λte=>bif Nat.beq (P.cellsOf e) te.flat.length&&Nat.ble 1 te.flat.length then some (.slice te) else none
  |some (.struct fs)=>(CS P (hZ P n) fs.toList 0).bind λts=>bif Nat.beq (P.cellsOf t) ts.length then some (.agg ts) else none
  |_=>none
def apf {P:Program}{e:TypeId}(h:uB P e=true)(n:Nat):hZ P (n+2) e=some .trmA/\P.cellsOf e=3:=by
 unfold uB at h;split at h
 case h_2=>cases h
 rename_i fs hu;split at h
 case h_2=>cases h
 rename_i f0 f1 f2 yn;simp only[aq] at h;obtain⟨⟨⟨⟨⟨⟨⟨⟨⟨h0,h1⟩,h2⟩,o0⟩,o1⟩,o2⟩,c0⟩,c1⟩,c2⟩,c3⟩:=h;split at h0
 case h_2=>cases h0
 rename_i u0;split at h1
 case h_2=>cases h1
 rename_i u1;split at h2
 case h_2=>cases h2
 rename_i e' u2;obtain rfl:=aA h2;have r0:hZ P (n+1) f0.type=some (.int .i64):=by simp[hZ,u0]
 have r1:hZ P (n+1) f1.type=some (.int .i64):=by simp[hZ,u1]
 have ht:uB P e'=true:=by
  unfold uB;rw[hu];simp only[yn];simp[u0,u1,u2,aA o0,aA o1,aA o2,aA c0,aA c1,aA c2,aA c3]
 have r2:hZ P (n+1) f2.type=some (.slice .trm):=by simp[hZ,u2,ht]
 refine⟨?_,aA c3⟩;show hZ P (n+1+1) e'=_;rw[hZ,hu];simp only[yn,CS,r0,r1,r2,lh,Ty.flat,mA,tE,o0,c0,Bool.and_self,zyx];simp[aA o1,aA o2,aA c1,aA c2,aA c3,Ty.trmA]
def UA {P:Program}{n:Nat}{t:TypeId}{ty:Ty}(h:hZ P n t=some ty):ty.rowT=true\/ty.one=true:=by
 cases n with
 |zero=>simp[hZ] at h
 |succ n=>
  simp only[hZ] at h;split at h
  .cases h;exact .inr rfl
  .cases h;exact .inr rfl
  .cases h;exact .inr rfl
  .rename_i e _;cases ht:uB P e<;>simp only[ht,zyx,zyw] at h
   .simp only[aw] at h;obtain⟨te,_,h⟩:=h;cases hb:(Nat.beq (P.cellsOf e) te.flat.length&&Nat.ble 1 te.flat.length)<;>simp only[hb,zyx,zyw] at h
    .cases h
    .cases h;exact .inr rfl
   .cases h;exact .inr rfl
  .rename_i fs _;simp only[aw] at h;obtain⟨ts,_,h⟩:=h;cases hb:Nat.beq (P.cellsOf t) ts.length<;>simp only[hb,zyx,zyw] at h
   .cases h
   .cases h;exact .inl rfl
  .cases h
def oa (cap:Nat->Option CSig)(V:Im)(ts:List Ty)(cs:List Value)(ds:List D):Prop:=
 cs.length=ts.length/\ds.length=ts.length/\∀(i:Nat) (u:Ty),ts[i]?=some u->Rep cap V u (cs.getD i undef) (ds.getD i .none)/\u.one=true
def oa.one {cap:Nat->Option CSig}{V:Im}{t:Ty}{v:Value}{d:D}(h:Rep cap V t v d)(ht:t.one=true):oa cap V [t] [v] [d]:=
 ⟨rfl,rfl,λi u hu=>by
   cases i with
   |zero=>simp at hu;subst hu;exact⟨h,ht⟩
   |succ i=>simp at hu⟩
def oa.append {cap:Nat->Option CSig}{V:Im}{ts us:List Ty}{cs vs:List Value}{ds es:List D}(h:oa cap V ts cs ds)(k:oa cap V us vs es):oa cap V (ts++us) (cs++vs) (ds++es):=by
 obtain⟨h1,h2,h3⟩:=h;obtain⟨k1,k2,k3⟩:=k;refine⟨by simp[h1,k1],by simp[h2,k2],λi u hu=>?_⟩;by_cases hi:i<ts.length
 .rw[lT hi] at hu;have:=h3 i u hu;rw[aN,aN,lT (by omega),lT (by omega)];rw[aN,aN] at this;exact this
 .rw[jX (by omega)] at hu;have:=k3 _ u hu;rw[aN,aN,jX (by omega),jX (by omega),h1,h2];rw[aN,aN] at this;exact this
def YL (ag:Bool)(ds:List D):D:=if ag then .agg ds else ds.getD 0 .none
def akP (t:Ty):t.flat.length=t.size:=by cases t<;>rfl
def Rep.ofRow {cap:Nat->Option CSig}{V:Im}{t:Ty}{cs:List Value}{ds:List D}(jj:t.rowT=true\/t.one=true)(h:oa cap V t.flat cs ds):Rep cap V t (Cx.rowOf t.rowT cs) (YL t.rowT ds):=by
 obtain⟨h1,h2,h3⟩:=h;cases t with
 |agg ts=>exact .agg ts cs ds h1 h2 (λi u hu=>(h3 i u hu).1) (λi u hu=>(h3 i u hu).2)
 |trm=>simp[Ty.rowT,Ty.one] at jj
 |_=>exact(h3 0 _ rfl).1
def atX {cap:Nat->Option CSig}{V:Im}{t:Ty}{cs:List Value}{ds:List D}(jj:t.rowT=true\/t.one=true)(h:oa cap V t.flat cs ds){j:Nat}{u:Value}(hj:(rowOf t.rowT cs).cells[j]?=some u):cs[j]?=some u:=by
 obtain⟨h1,h2,h3⟩:=h;cases t with
 |agg ts=>simpa [rowOf,Ty.rowT,Value.cells] using hj
 |trm=>simp[Ty.rowT,Ty.one] at jj
 |_=>
  have h4:=h3 0 _ rfl;have h5:=(h4.1.oneCell h4.2).1;simp only[rowOf,Ty.rowT,xA,if_false] at hj;rw[h5] at hj;cases j with
  |zero=>
   simp only[HS,NV,aS] at hj
   match cs,h1 with
   |[c],_=>simpa using hj
  |succ j=>simp at hj
section
variable {zyz:Type} {enc:TypeId×Value->zyz} {P:Program} {w:World} {base:Nat} {held:Bool} {cap:Nat->Option CSig}
def ahk {k:IntKind}{n:Int}(h:(Lit.int k n).wf=true):k.min<=n/\n<=k.max:=by
 simpa [Lit.wf] using h
def afG {n m:Nat}(ih:∀(t:TypeId) (cs:List Value) (x:DataW zyz×List MemPlace) (ty:Ty),DataW.trod enc P w base (λ_=>true) held n t cs=some x->hZ P m t=some ty->∃ds,oa cap (oI w) ty.flat cs ds):
 ∀(fs:List Field) (off:Nat) (cs:List Value) (ts:List Ty),CS P (hZ P m) fs off=some ts->cs.length=off+ts.length->
  (∀f,f∈fs->∃x,DataW.trod enc P w base (λ_=>true) held n f.type ((cs.drop f.offset).take (P.cellsOf f.type))=some x)->∃ds,oa cap (oI w) ts (cs.drop off) ds
 |[],off,cs,ts,h,hl,_=>by
  simp only[CS,aS] at h;subst h;have:cs.drop off=[]:=by simp at hl ⊢;omega
  rw[this];exact⟨[],rfl,rfl,λi u hu=>by simp at hu⟩
 |f::fs,off,cs,ts,h,hl,hx=>by
  simp only[CS,aw] at h;obtain⟨ft,hft,h⟩:=h;cases hb:(Nat.beq f.offset off&&Nat.beq (P.cellsOf f.type) ft.flat.length)<;>simp only[hb,zyx,zyw] at h
  .cases h
  simp only[aC] at h;obtain⟨us,hus,rfl⟩:=h;simp only[aq] at hb;have e1:=dq hb.1;have e2:=dq hb.2;obtain⟨x,cg⟩:=hx f (er ..);rw[e1,e2] at cg;obtain⟨DQ,jO⟩:=ih _ _ _ _ cg hft;simp only[jY] at hl;obtain⟨ds2,nA⟩:=afG ih fs (off+ft.flat.length) cs us hus (by omega) λg hg=>hx g (dW _ hg);refine⟨DQ++ds2,?_⟩;have:=jO.append nA;rw[<-List.drop_drop,vq] at this;exact this
def aw8:∀(n m:Nat) (t:TypeId) (cs:List Value) (x:DataW zyz×List MemPlace) (ty:Ty),DataW.trod enc P w base (λ_=>true) held n t cs=some x->hZ P m t=some ty->∃ds,oa cap (oI w) ty.flat cs ds:=by
 intro n
 induction n with
 |zero=>intro m t cs x ty h;simp[DataW.trod] at h
 |succ n ih=>
  intro m t cs x ty h bj;cases m with
  |zero=>simp[hZ] at bj
  |succ m=>
   simp only[hZ] at bj;split at bj
   .rename_i hu;cases bj;obtain⟨b,rfl,_⟩:=DataW.trod_bool hu h;exact⟨_,.one (.bool b) rfl⟩
   .rename_i k hu;cases bj;obtain⟨z,rfl,_,hw⟩:=DataW.trod_int hu h;exact⟨_,.one (.int k z (ahk hw).1 (ahk hw).2) rfl⟩
   .rename_i hu;cases bj;obtain⟨s,rfl,_,hs⟩:=DataW.trod_string hu h;exact⟨_,.one (.str s hs) rfl⟩
   .rename_i e hu;have yL:∃(m':Nat) (te xj:Ty),hZ P m' e=some te/\P.cellsOf e=te.flat.length/\1<=te.flat.length/\ty=.slice xj/\xj.unf=te:=by
     cases ht:uB P e<;>simp only[ht,zyx,zyw] at bj
     .simp only[aw] at bj;obtain⟨te,yL,bj⟩:=bj;cases hb:(Nat.beq (P.cellsOf e) te.flat.length&&Nat.ble 1 te.flat.length)<;>simp only[hb,zyx,zyw] at bj
      .cases bj
      cases bj;simp only[aq] at hb;exact⟨m,te,te,yL,dq hb.1,lg hb.2,rfl,Ty.unf_ro (UA yL)⟩
     .cases bj;obtain⟨k1,k2⟩:=apf ht 0;exact⟨2,.trmA,.trm,k1,k2,by decide,rfl,rfl⟩
    obtain⟨m',te,xj,yL,e1,e2,rfl,oG⟩:=yL;have jj:=UA yL;rcases DataW.trod_slice hu h with⟨rfl,_⟩|⟨a,len,cp,elems,rest,n',ir,rfl,_,hba,hl,hm,hlen,jL,jP,_⟩
    .exact⟨_,.one (.nil xj) rfl⟩
    .cases ir;obtain⟨hrl,wg⟩:=jP rfl
     have fp:∀i,i<cp->∃ci y,w.cells? base (a.add (i*P.cellsOf e)) (P.cellsOf e)=some ci/\DataW.trod enc P w base (λ_=>true) held n e ci=some y:=by
      intro i hi
      have eA:∃y,(w.cells? base (a.add (i*P.cellsOf e)) (P.cellsOf e)).bind (DataW.trod enc P w base (λ_=>true) held n e)=some y:=by
           by_cases yr:i<len
           .rw[jL i yr];exact⟨_,bE (by omega)⟩
           .have:=wg (i-len) (by omega);rw[show len+(i-len)=i by omega] at this;rw[this];exact⟨_,bE (by omega)⟩
      obtain⟨y,hy⟩:=eA;rw[aw] at hy;obtain⟨ci,h1,h2⟩:=hy;exact⟨ci,y,h1,h2⟩
     by_cases qD:cp=0
     .subst qD;have:len=0:=by omega
      subst this;exact⟨_,.one (.emp xj a) rfl⟩
     .have aa3:a.spot=none:=by
           obtain⟨ci,y,h1,_⟩:=fp 0 (by omega);obtain⟨_,_,h3⟩:=World.cells?_some h1;have:=h3 0 (by omega);simp only[Nat.zero_mul,Addr.add,if_true] at this;unfold World.cell? at this;cases hs:a.spot with
           |none=>rfl
           |some s=>
            exfalso;have hl:ci.length=P.cellsOf e:=(World.cells?_some h1).2.1;split at this
            .rw[hs] at this;simp at this;subst this;simp at hl;omega
            .rw[eq_comm,List.getElem?_eq_none_iff] at this;omega
      obtain⟨k,o,s⟩:=a;simp only at aa3;subst aa3;have aI:∀i,∃p:List Value×List D,i<len->w.cells? base ((⟨k,o,none⟩:Addr).add (i*P.cellsOf e)) (P.cellsOf e)=some p.1/\oa cap (oI w) te.flat p.1 p.2:=by
           intro i;by_cases hi:i<len
           .obtain⟨ci,y,h1,h2⟩:=fp i (by omega);obtain⟨ds,hr⟩:=ih m' _ _ _ _ h2 yL;exact⟨(ci,ds),λ_=>⟨h1,hr⟩⟩
           .exact⟨([],[]),λh=>absurd h hi⟩
      obtain⟨f,hf⟩:=Classical.axiomOfChoice aI;refine⟨_,.one (.slice xj k o len cp ((List.range len).map λi=>YL te.rowT (f i).2) (λi=>rowOf te.rowT (f i).1) (by simp) hl hm (λi x hx=>?_) (λi j u hi hj=>?_)) rfl⟩
      .rw[cV,aC] at hx;obtain⟨i',cN,rfl⟩:=hx;have ah:i<len:=by have:=(eV.1 cN).1;simpa using this
       rw[rH ah] at cN;cases cN;rw[oG];exact Rep.ofRow jj (hf i ah).2
      .obtain⟨h1,h2⟩:=hf i hi;have dY:=atX jj h2 hj;obtain⟨_,h4,h5⟩:=World.cells?_some h1;have fX:j<P.cellsOf e:=by rw[<-h4];exact(eV.1 dY).1
       have:=h5 j fX;rw[dY] at this;show w.cell? ⟨k,o+i*xj.size+j,none⟩=some u;rw[<-xj.unf_size,oG,<-akP,<-e1,<-this]
       congr 1
       simp only[Addr.add];split<;>split<;>simp_all
   .rename_i fs hu;simp only[aw] at bj;obtain⟨ts,Rp,bj⟩:=bj;cases hb:Nat.beq (P.cellsOf t) ts.length<;>simp only[hb,zyx,zyw] at bj
    .cases bj
    cases bj;obtain⟨xs,n',ir,_,hl,yS,hf⟩:=DataW.trod_struct hu h;cases ir
    have:=afG (ih m) fs.toList 0 cs ts Rp (by rw[hl,dq hb];omega) (λf hm=>by
     obtain⟨i,hi⟩:=zN hm;have cN:fs[i]?=some f:=by simpa using hi
     have h1:=hf i f cN;have ah:i<fs.size:=(dV.1 cN).1;exact⟨_,h1.trans (bE (by omega))⟩)
    show ∃ds,oa cap (oI w) ts cs ds;simpa using this
   .cases bj
def DG {base:Nat}{t:TypeId}{v:Value}(h:Cell.okWide P w .any base t v):v.cells=#[v]:=by
 cases v<;>first|rfl|(exfalso;simp only[Cell.okWide,Cell.ok] at h;revert h;cases P.underlying t with|none=>simp|some T=>cases T<;>simp)
def aic {base base':Nat}{m:Nat}{t:TypeId}{v:Value}{d:DataW zyz}{ps:List MemPlace}{ty:Ty}(az:Value.okWide P w .any base' t v)(h:DataW.Trod enc P w base (λ_=>true) held t v d ps)(bj:hZ P m t=some ty):∃d,Rep cap (oI w) ty v d:=by
 obtain⟨fuel,h⟩:=h;obtain⟨ds,hr⟩:=aw8 (cap:=cap) fuel m t _ _ _ h bj;have bY:=Rep.ofRow (UA bj) hr;cases m with
 |zero=>simp[hZ] at bj
 |succ m=>
  suffices hs:rowOf ty.rowT v.cells.toList=v by rw[hs] at bY;exact⟨_,bY⟩
  simp only[hZ] at bj;unfold Value.okWide at az;split at bj
  .rename_i hu;cases bj;rw[hu] at az;simp only at az;rw[DG az];rfl
  .rename_i hu;cases bj;rw[hu] at az;simp only at az;rw[DG az];rfl
  .rename_i hu;cases bj;rw[hu] at az;simp only at az;rw[DG az];rfl
  .rename_i e hu;cases ht:uB P e<;>simp only[ht,zyx,zyw] at bj
   .simp only[aw] at bj;obtain⟨te,_,bj⟩:=bj;cases hb:(Nat.beq (P.cellsOf e) te.flat.length&&Nat.ble 1 te.flat.length)<;>simp only[hb,zyx,zyw] at bj
    .cases bj
    cases bj;rw[hu] at az;simp only at az;rw[DG az];rfl
   .cases bj;rw[hu] at az;simp only at az;rw[DG az];rfl
  .rename_i fs hu;simp only[aw] at bj;obtain⟨ts,_,bj⟩:=bj;cases hb:Nat.beq (P.cellsOf t) ts.length<;>simp only[hb,zyx,zyw] at bj
   .cases bj
   cases bj;rw[hu] at az;obtain⟨cs,rfl,_⟩:=az;simp[rowOf,Ty.rowT,Value.cells]
  .cases bj
def G5 (P:Program)(m:Nat):List TypeId->Option (List Ty)
 |[]=>some []
 |t::ts=>(hZ P m t).bind λx=>(G5 P m ts).map (x::·)
def X9 {base base' m:Nat}:∀(ts:List TypeId) (vs:List Value) (ds:List (DataW zyz)) (ps:List MemPlace) (gF:List Ty),DataW.TrodAll enc P w base (λ_=>true) held ts vs ds ps->G5 P m ts=some gF->
 (∀(j:Nat) t v,ts[j]?=some t->vs[j]?=some v->Value.okWide P w .any base' t v)->
 ∃es:List D,vs.length=gF.length/\es.length=gF.length/\∀(i:Nat) (t:Ty),gF[i]?=some t->Rep cap (oI w) t (vs.getD i undef) (es.getD i .none)
 |[],vs,ds,ps,gF,h,bj,_=>by
  simp only[G5,aS] at bj;subst bj;cases vs with
  |nil=>exact⟨[],rfl,rfl,λi t h=>by simp at h⟩
  |cons=>cases ds<;>exact h.elim
 |t::ts,vs,ds,ps,gF,h,bj,az=>by
  simp only[G5,aw,aC] at bj;obtain⟨ty,aoL,axh,aoM,rfl⟩:=bj;cases vs with
  |nil=>cases ds<;>exact h.elim
  |cons v vs=>
   cases ds with
   |nil=>exact h.elim
   |cons d ds=>
    obtain⟨p,q,h1,h2,_⟩:=h;obtain⟨e,he⟩:=aic (cap:=cap) (az 0 t v rfl rfl) h1 aoL;obtain⟨es,k1,k2,k3⟩:=X9 ts vs ds q axh h2 aoM (λj t' v' hj hv=>az (j+1) t' v' hj hv);refine⟨e::es,by simp[k1],by simp[k2],λi u hu=>?_⟩;cases i with
    |zero=>simp at hu;subst hu;exact he
    |succ i=>simpa using k3 i u (by simpa using hu)
end
mutual
inductive DTy:Ty->D->Prop where
 |int (k:IntKind) (n:Int) (h1:k.min<=n) (h2:n<=k.max):DTy (.int k) (.v (.int k n))
 |bool (b:Bool):DTy .bool (.v (.bool b))
 |str (s:ByteArray) (h:s.size<=maxLen):DTy .str (.v (.string s))
 |slice (e:Ty) (xs:List D) (hm:xs.length<=maxLen) (h:∀x,x∈xs->DTy e.unf x):DTy (.slice e) (.list xs)
 |agg (ts:List Ty) (ds:List D) (h:DTys ts ds):DTy (.agg ts) (.agg ds)
 |other (t:Ty) (d:D) (h:match t with|.int _|.bool|.str|.slice _|.agg _=>False|_=>True):DTy t d
inductive DTys:List Ty->List D->Prop where
 |nil:DTys [] []
 |cons {t:Ty} {d:D} {ts:List Ty} {ds:List D} (h:DTy t d) (hs:DTys ts ds):DTys (t::ts) (d::ds)
end
def DTys.of_get:∀{ts:List Ty} {ds:List D},ds.length=ts.length->(∀(i:Nat) (t:Ty),ts[i]?=some t->DTy t (ds.getD i .none))->DTys ts ds
 |[],[],_,_=>.nil
 |t::ts,d::ds,hl,h=>.cons (h 0 t rfl) (DTys.of_get (by simpa using hl) λi u hu=>by simpa using h (i+1) u (by simpa using hu))
 |[],_::_,hl,_=>by simp at hl
 |_::_,[],hl,_=>by simp at hl
def Rep.dty {cap:Nat->Option CSig}{V:Im}{t:Ty}{v:Value}{d:D}(h:Rep cap V t v d):DTy t d:=by
 induction h with
 |int k n h1 h2=>exact .int k n h1 h2
 |bool b=>exact .bool b
 |str s h=>exact .str s h
 |agg ts vs ds h1 h2 _ ho ih=>exact .agg ts ds (.of_get h2 ih)
 |nil e=>exact .slice e [] (by decide) (λx hx=>by cases hx)
 |emp e a=>exact .slice e [] (by decide) (λx hx=>by cases hx)
 |slice e k o n c xs vs hn hc hm _ hv ih=>
  refine .slice e xs (by omega) λx hx=>?_;obtain⟨i,hi⟩:=zN hx;exact ih i x hi
 |_=>exact .other _ _ trivial
def apm {zyz:Type}{enc:TypeId×Value->zyz}{C:Ctx}{f:Nat}{fn:Func}{sg:Sig}{spec:ChangeSpec}{tb:TypeId}{apart fresh handsOn again:Bool}(hl:laidOutB C.P=true)
 (kj:G5 C.P 12 fn.params.toList=some sg.args) (aom:fn.params.toList.all (λt=>C.P.readableRec t&&decide (t<C.P.types.size))=true) (Rt:spec.vars=[])
 (aoC:∀ds:List (DataW zyz),ds.length=fn.params.size->(spec.fn zyz ds).results=[.lit (.bool true)]/\(spec.fn zyz ds).args=ds/\(spec.fn zyz ds).vars=[])
 (fu:fn.resultTypes=#[tb]) (hub:C.P.underlying tb=some .bool) (mc:sg.mode=.dat) (wh:sg.res=.bool)
 (QG:∀ds,DTys sg.args ds->jA C f sg ds (.v (.bool true)))
 (W:World) (vV:CtxOK C (oI W)) (base:Nat) (args:Array Value) (ds gs:List (DataW zyz)) (before:List MemPlace)
 (cO:∀(j:Nat) t v,fn.params[j]?=some t->args[j]?=some v->Value.okWide C.P W .any base t v)
 (hW:DataW.Whole enc C.P fn.params.toList spec.vars apart W args.toList ds gs before):
 Calls C.P f args W λe W'=>∃v,e=.returned v/\spec.post enc C.P fn apart fresh handsOn again W args v W':=by
 have Ko:=hW;have ah:∀p∈before,p.block<W.heap.size:=λp hp=>Ko.lt p hp;obtain⟨p,q,hA,hV,rfl,ui,bn⟩:=hW;rw[Rt] at hV;obtain⟨rfl,rfl⟩:=trodVars_none hV;obtain⟨es,k1,k2,k3⟩:=X9 (cap:=C.cap) (base':=base) fn.params.toList args.toList ds p sg.args hA kj (λj t v hj hv=>cO j t v (by simpa using hj) (by simpa using hv));have bj:DTys sg.args es:=.of_get k2 λi t ht=>(k3 i t ht).dty
 have hlen:∀(ts:List TypeId) (vs:List Value) (ds:List (DataW zyz)) (ps:List MemPlace),DataW.TrodAll enc C.P W 0 (λ_=>true) true ts vs ds ps->ds.length=ts.length:=by
  intro ts
  induction ts with
  |nil=>intro vs ds ps h;cases vs<;>cases ds<;>first|rfl|exact h.elim
  |cons t ts ih=>
   intro vs ds ps h;cases vs with
   |nil=>cases ds<;>exact h.elim
   |cons v vs=>cases ds with
    |nil=>exact h.elim
    |cons d ds=>obtain⟨p,q,_,h2,_⟩:=h;simp[ih vs ds q h2]
 have Qm:ds.length=fn.params.size:=by simpa using hlen _ _ _ _ hA
 obtain⟨s1,s2,s3⟩:=aoC (ds++[]) (by simpa using Qm);refine(QG es bj (oI W) W args (ao6 W) vV ⟨k1,k2,k3⟩).mono λe W' hh=>?_;obtain⟨v,V',rfl,_,_,hb,_,_,hr⟩:=hh;refine⟨v,rfl,?_⟩;simp only[nk,mc,wh] at hr;obtain⟨b,rfl,yg⟩:=hr.bool_inv;cases yg
 have stays:∀(sp:Nat->Bool) (ts:List TypeId) (vs:List Value) (ds:List (DataW zyz)) (ps:List MemPlace),ts.all (λt=>C.P.readableRec t&&decide (t<C.P.types.size))=true->(∀x∈ps,x.block<W.heap.size)->(∀x∈ps,sp x.block=true)->
  DataW.TrodAll enc C.P W 0 (λ_=>true) true ts vs ds ps->DataW.TrodAll enc C.P W' 0 sp true ts vs ds ps:=by
  intro sp ts
  induction ts with
  |nil=>intro vs ds ps _ _ _ h;cases vs<;>cases ds<;>first|exact h|exact h.elim
  |cons t ts ih=>
   intro vs ds ps ha ur jP h;cases vs with
   |nil=>cases ds<;>exact h.elim
   |cons v vs=>cases ds with
    |nil=>exact h.elim
    |cons d ds=>
     obtain⟨p,q,h1,h2,rfl⟩:=h;simp only[rG,aq,decide_eq_true_eq] at ha
     exact⟨p,q,WideElems.Trod_stays hl ha.1.1 ha.1.2 h1 (λx hx=>hb.same (ur x (kE _ hx))) (λx hx=>jP x (kE _ hx)),
      ih vs ds q (by simpa using ha.2) (λx hx=>ur x (ld _ hx)) (λx hx=>jP x (ld _ hx)) h2,rfl⟩
 have aay:∀x∈p,x.block<W.heap.size:=λx hx=>ah x (kE _ hx);have jI:=λsp (h:∀x∈p,sp x.block=true)=>stays sp _ _ _ _ aom aay h hA;have wg:∀(b:Nat) (sp:Nat->Bool) (hd:Bool),DataW.TrodAll enc C.P W' b sp hd fn.resultTypes.toList ((Value.bool true).resultList fn.resultTypes.size) [.lit (.bool true)] []:=by
  intro b sp hd;rw[fu];exact trodAll_mk1 (shut_bool hub true)
 refine⟨ds,[],p++[],[],p,[],Ko,?_,?_,?_,World.keptBut_mono (λx hx=>⟨hx,?_⟩) (hb.frame (·∈p++[])),λ_=>?_⟩
 .rw[s1];exact wg _ _ _
 .rw[s2];simpa using jI _ (λx hx=>by simpa using aay x hx)
 .rw[s3,Rt];rfl
 .simpa using hx
 .refine⟨ok_one fu rfl (okWide_bool_mk hub true),_,[],([]++p)++[],⟨[]++p,[],trodAll_append (jI _ (λ_ _=>rfl)) (wg _ _ _),by rw[Rt];exact rfl,rfl,?_,?_⟩,?_⟩
  .intro b off hp;have bp:MemPlace.cell b off∈p++[]:=by simpa using hp
   rw[hb.frozen (ah _ bp)];exact ui b off bp
  .intro ha;simpa using bn ha
  .intro x hx _;simpa using hx
end Cx
namespace Cx
open Go Go.RowKit
abbrev dI:=Nat->aV
def au (T:dI)(f:Nat)(ds:List D)(d:D):Prop:=∃n0,∀n,n0<=n->T n f ds=some d
def zJ (T:dI)(l:List PI)(O:Env)(Q:Env->Prop):Prop:=∃O',Q O'/\∃n0,∀n,n0<=n->PI.runs (T n) l O=some O'
def aP (T:dI)(c:PC)(O:Env)(Q:Out->Prop):Prop:=∃x,Q x/\∃n0,∀n,n0<=n->c.ev (T n) n O=some x
def aP.mono {T:dI}{c:PC}{O:Env}{Q Q':Out->Prop}(h:aP T c O Q)(hq:∀x,Q x->Q' x):aP T c O Q':=by
 obtain⟨x,hx,n0,hn⟩:=h;exact⟨x,hq x hx,n0,hn⟩
def zJ.nil {T:dI}{O:Env}{Q:Env->Prop}(h:Q O):zJ T [] O Q:=⟨O,h,0,λ_ _=>rfl⟩
def zJ.cons {T:dI}{p:PI}{l:List PI}{O ρ1:Env}{Q:Env->Prop}{n0:Nat}(h:∀n,n0<=n->p.run (T n) O=some ρ1)(k:zJ T l ρ1 Q):zJ T (p::l) O Q:=by
 obtain⟨O',hQ,n1,h1⟩:=k;exact⟨O',hQ,max n0 n1,λn hn=>by simp[PI.runs,h n (by omega),h1 n (by omega)]⟩
def iW (T:dI):List PI->Env->(Env->Prop)->Prop
 |[],O,Q=>Q O
 |.setR t e::l,O,Q=>iW T l (O.setR t (e.ev O)) Q
 |.setO t e::l,O,Q=>iW T l (O.setO t (e.ev O)) Q
 |.chk e::l,O,Q=>(e.ev O).b=true/\iW T l O Q
 |.call gs dst f args::l,O,Q=>if holds gs O=true then ∃d,au T f (PE.evs O args) d/\iW T l (O.setR dst d) Q else iW T l O Q
 |.callc gs dst e args::l,O,Q=>if holds gs O=true then ∃f caps d,e.ev O=.clo f caps/\au T f (PE.evs O args++caps) d/\iW T l (O.setR dst d) Q else iW T l O Q
 |.mcall j f args::l,O,Q=>∃d,au T f (PE.evs O args) d/\iW T l (O.setO j d) Q
def vf {T:dI}:∀{l:List PI} {O:Env} {Q:Env->Prop},iW T l O Q->zJ T l O Q
 |[],O,Q,h=>.nil h
 |.setR t e::l,O,Q,h=>.cons (n0:=0) (λ_ _=>rfl) (vf h)
 |.setO t e::l,O,Q,h=>.cons (n0:=0) (λ_ _=>rfl) (vf h)
 |.chk e::l,O,Q,h=>.cons (n0:=0) (λn _=>by simp[PI.run,h.1]) (vf h.2)
 |.call gs dst f args::l,O,Q,h=>by
  unfold iW at h;split at h
  .rename_i hg;obtain⟨d,⟨n0,hn⟩,h⟩:=h;exact .cons (n0:=n0) (λn hle=>by simp[PI.run,hg,hn n hle]) (vf h)
  .rename_i hg;exact .cons (n0:=0) (λn hle=>by simp[PI.run,hg]) (vf h)
 |.callc gs dst e args::l,O,Q,h=>by
  unfold iW at h;split at h
  .rename_i hg;obtain⟨f,caps,d,he,⟨n0,hn⟩,h⟩:=h;exact .cons (n0:=n0) (λn hle=>by simp[PI.run,hg,he,hn n hle]) (vf h)
  .rename_i hg;exact .cons (n0:=0) (λn hle=>by simp[PI.run,hg]) (vf h)
 |.mcall j f args::l,O,Q,h=>by
  obtain⟨d,⟨n0,hn⟩,h⟩:=h;exact .cons (n0:=n0) (λn hle=>by simp[PI.run,hn n hle]) (vf h)
def mh (O:Env)(lr lo:List Nat)(Q:Out->Prop):Out->Prop
 |.next O'=>Q (.next (O.join lr lo O'))
 |x=>Q x
def ns (O:Env)(id:Nat)(lr lo:List Nat)(Q:Out->Prop):Out->Prop
 |.next O'=>Q (.next (O.join lr lo O'))
 |.exit cA O'=>if cA=id then Q (.next (O.join lr lo O')) else Q (.exit cA O')
 |.ret d=>Q (.ret d)
def iV (K:Env->Prop)(Q:Out->Prop):Out->Prop
 |.next O'=>K O'
 |.exit id O'=>Q (.exit id O')
 |.ret d=>Q (.ret d)
def aP.is {T:dI}{l:List PI}{O:Env}{Q:Out->Prop}(h:iW T l O λO'=>Q (.next O')):aP T (.is l) O Q:=by
 obtain⟨O',hQ,n0,hn⟩:=vf h;exact⟨.next O',hQ,n0,λn hle=>by simp[PC.ev,hn n hle]⟩
def aP.skip {T:dI}{O:Env}{Q:Out->Prop}(h:Q (.next O)):aP T .skip O Q:=⟨_,h,0,λ_ _=>rfl⟩
def aP.exit {T:dI}{O:Env}{id:Nat}{Q:Out->Prop}(h:Q (.exit id O)):aP T (.exit id) O Q:=⟨_,h,0,λ_ _=>rfl⟩
def aP.ret {T:dI}{O:Env}{e:PE}{Q:Out->Prop}(h:Q (.ret (e.ev O))):aP T (.ret e) O Q:=⟨_,h,0,λ_ _=>rfl⟩
def aP.seq {T:dI}{a b:PC}{O:Env}{Q:Out->Prop}(h:aP T a O (iV (λO'=>aP T b O' Q) Q)):aP T (.seq a b) O Q:=by
 obtain⟨x,hx,n0,hn⟩:=h;cases x with
 |next O'=>
  obtain⟨y,hy,n1,h1⟩:=hx;exact⟨y,hy,max n0 n1,λn hle=>by simp[PC.ev,hn n (by omega),h1 n (by omega)]⟩
 |exit id O'=>exact⟨_,hx,n0,λn hle=>by simp[PC.ev,hn n hle]⟩
 |ret d=>exact⟨_,hx,n0,λn hle=>by simp[PC.ev,hn n hle]⟩
def aP.ite {T:dI}{c:PE}{lr lo:List Nat}{a b:PC}{O:Env}{Q:Out->Prop}(h:if(c.ev O).b=true then aP T a O (mh O lr lo Q) else aP T b O (mh O lr lo Q)):aP T (.ite c lr lo a b) O Q:=by
 split at h
 all_goals
  rename_i hc;obtain⟨x,hx,n0,hn⟩:=h;cases x with
  |next O'=>exact⟨_,hx,n0,λn hle=>by simp[PC.ev,hc,hn n hle]⟩
  |exit id O'=>exact⟨_,hx,n0,λn hle=>by simp[PC.ev,hc,hn n hle]⟩
  |ret d=>exact⟨_,hx,n0,λn hle=>by simp[PC.ev,hc,hn n hle]⟩
def aP.block {T:dI}{id:Nat}{lr lo:List Nat}{a:PC}{O:Env}{Q:Out->Prop}(h:aP T a O (ns O id lr lo Q)):aP T (.block id lr lo a) O Q:=by
 obtain⟨x,hx,n0,hn⟩:=h;cases x with
 |next O'=>exact⟨_,hx,n0,λn hle=>by simp[PC.ev,hn n hle]⟩
 |exit cA O'=>
  simp only[ns] at hx;split at hx
  .rename_i e;subst e;exact⟨_,hx,n0,λn hle=>by simp[PC.ev,hn n hle]⟩
  .rename_i e;exact⟨_,hx,n0,λn hle=>by simp[PC.ev,hn n hle,fS e]⟩
 |ret d=>exact⟨_,hx,n0,λn hle=>by simp[PC.ev,hn n hle]⟩
def aP.loop {T:dI}{lr lo:List Nat}{a:PC}{O:Env}{Q:Out->Prop}{α:Type}(inv:α->List D->List D->Prop)(wG:α->Nat)(s0:α)(h0:inv s0 (lr.map O.r) (lo.map O.o))
 (step:∀s vr vo,inv s vr vo->aP T a (O.put lr vr lo vo) (iV (λO'=>∃s',wG s'<wG s/\inv s' (lr.map O'.r) (lo.map O'.o)) Q)):aP T (.loop lr lo a) O Q:=by
 have key:∀(m:Nat) (s:α) (vr vo:List D),wG s<=m->inv s vr vo->∃x,Q x/\∃n0,∀n k,n0<=n->n0<=k->jo (a.ev (T n) n) O lr lo k vr vo=some x:=by
  intro m
  induction m with
  |zero=>
   intro s vr vo hm hi;obtain⟨x,hx,n0,hn⟩:=step s vr vo hi;cases x with
   |next O'=>obtain⟨s',ah,_⟩:=hx;omega
   |exit id O'=>
    refine⟨_,hx,n0+1,λn k hle hk=>?_⟩;obtain⟨k',rfl⟩:∃k',k=k'+1:=⟨k-1,by omega⟩
    simp[jo,hn n (by omega)]
   |ret d=>
    refine⟨_,hx,n0+1,λn k hle hk=>?_⟩;obtain⟨k',rfl⟩:∃k',k=k'+1:=⟨k-1,by omega⟩
    simp[jo,hn n (by omega)]
  |succ m ih=>
   intro s vr vo hm hi;obtain⟨x,hx,n0,hn⟩:=step s vr vo hi;cases x with
   |next O'=>
    obtain⟨s',ah,cN⟩:=hx;obtain⟨y,hy,n1,h1⟩:=ih s' _ _ (by omega) cN;refine⟨y,hy,max n0 n1+1,λn k hle hk=>?_⟩;obtain⟨k',rfl⟩:∃k',k=k'+1:=⟨k-1,by omega⟩
    simp[jo,hn n (by omega),h1 n k' (by omega) (by omega)]
   |exit id O'=>
    refine⟨_,hx,n0+1,λn k hle hk=>?_⟩;obtain⟨k',rfl⟩:∃k',k=k'+1:=⟨k-1,by omega⟩
    simp[jo,hn n (by omega)]
   |ret d=>
    refine⟨_,hx,n0+1,λn k hle hk=>?_⟩;obtain⟨k',rfl⟩:∃k',k=k'+1:=⟨k-1,by omega⟩
    simp[jo,hn n (by omega)]
 obtain⟨x,hx,n0,hn⟩:=key (wG s0) s0 _ _ (aY _) h0;exact⟨x,hx,n0,λn hle=>by simp only[PC.ev];exact hn n n hle hle⟩
def aes {α:Type}:∀(l:List α),∃L:List (List α),∀ys,ys∈L↔ys.Perm l
 |[]=>⟨[[]],λys=>by simp⟩
 |x::l=>by
  obtain⟨L,hL⟩:=aes l;refine⟨L.flatMap λys=>(List.range (ys.length+1)).map λi=>ys.take i++x::ys.drop i,λzs=>?_⟩;simp only[iM,dX,cm];constructor
  .rintro⟨ys,hy,i,_,rfl⟩;have h1:=(hL ys).1 hy;refine(List.perm_middle).trans (.cons x ?_);rw[vq];exact h1
  .intro h;have hx:x∈zs:=h.symm.subset (er ..);obtain⟨s,t,rfl⟩:=NQ hx;refine⟨s++t,(hL _).2 ?_,s.length,by simp;omega,by simp⟩;exact(List.perm_cons x).1 ((List.perm_middle).symm.trans h)
def aP.meach {T:dI}{J:Nat}{ps dF lo:List Nat}{a:PC}{O:Env}{Q:Out->Prop}(es:List (D×D))(he:O.o J=.tup [.list [],.map es])(inv:List D->List D->Prop)(h0:inv [] (lo.map O.o))
 (step:∀done x rest vo,(done++x::rest).Perm (jt (.map es))->inv done vo->aP T a ((O.put ps (dF.map x.tget) lo vo).setO J (.tup [.list (done++[x]),.map es])) (λy=>∃O',y=.next O'/\inv (done++[x]) (lo.map O'.o)))
 (last:∃vo,(∀done,done.Perm (jt (.map es))->∀tn,inv done tn->tn=vo)/\Q (.next (O.put [] [] lo vo))):aP T (.meach J ps dF lo a) O Q:=by
 obtain⟨vo,hl,hQ⟩:=last;have key:∀(xs done:List D) (vs:List D),(done++xs).Perm (jt (.map es))->inv done vs->∃n0,∀n,n0<=n->pX (a.ev (T n) n) O J (.map es) ps dF lo xs done vs=some vo:=by
  intro xs
  induction xs with
  |nil=>intro done vs hp hi;exact⟨0,λn _=>by rw[hl done (by simpa using hp) vs hi];rfl⟩
  |cons x xs ih=>
   intro done vs hp hi;obtain⟨y,⟨O',rfl,cN⟩,n0,hn⟩:=step done x xs vs hp hi;obtain⟨n1,h1⟩:=ih (done++[x]) _ (by simpa using hp) cN;exact⟨max n0 n1,λn hle=>by simp only[pX,hn n (by omega)];exact h1 n (by omega)⟩
 have lu:∀(L:List (List D)),(∀ys,ys∈L->ys.Perm (jt (.map es)))->∃n0,∀n,n0<=n->∀ys,ys∈L->pX (a.ev (T n) n) O J (.map es) ps dF lo ys [] (lo.map O.o)=some vo:=by
  intro L
  induction L with
  |nil=>intro _;exact⟨0,λn _ ys hy=>by cases hy⟩
  |cons y L ih=>
   intro hL;obtain⟨n0,jE⟩:=ih λys hy=>hL ys (dW _ hy);obtain⟨n1,h1⟩:=key y [] _ (by simpa using hL y (er ..)) h0;refine⟨max n0 n1,λn hle ys hy=>?_⟩;rcases cZ.1 hy with e|hy
   .subst e;exact h1 n (by omega)
   .exact jE n (by omega) ys hy
 obtain⟨L,hL⟩:=aes (jt (.map es));obtain⟨n0,hn⟩:=lu L λys hy=>(hL ys).1 hy;refine⟨_,hQ,n0,λn hle=>?_⟩;simp only[PC.ev,Cs];refine⟨vo,⟨by rw[he];rfl,λys hy=>?_⟩,rfl⟩;rw[he] at hy ⊢;exact hn n hle ys ((hL ys).2 hy)
def au.of_pc {tab:Nat->Option PC}{ext:Nat->Option (aV->List D->Option D)}{f:Nat}{pc:PC}{ds:List D}{d:D}(hx:ext f=none)(ht:tab f=some pc)(h:aP (gr tab ext) pc (mE ds) (λx=>x=.ret d)):au (gr tab ext) f ds d:=by
 obtain⟨x,rfl,n0,hn⟩:=h;refine⟨n0+1,λn hle=>?_⟩;obtain⟨k,rfl⟩:∃k,n=k+1:=⟨n-1,by omega⟩
 simp[gr,hx,ht,hn k (by omega)]
def au.of_ext {tab:Nat->Option PC}{ext:Nat->Option (aV->List D->Option D)}{f:Nat}{g:aV->List D->Option D}{ds:List D}{d:D}(hx:ext f=some g)(h:∃n0,∀n,n0<=n->g (gr tab ext n) ds=some d):au (gr tab ext) f ds d:=by
 obtain⟨n0,hn⟩:=h;refine⟨n0+1,λn hle=>?_⟩;obtain⟨k,rfl⟩:∃k,n=k+1:=⟨n-1,by omega⟩
 simp[gr,hx,hn k (by omega)]
def au.fnOK {C:Ctx}{tab:Nat->Option PC}{ext:Nat->Option (aV->List D->Option D)}(h:TabOK C tab ext){f:Nat}{s:Sig}{ds:List D}{d:D}(hs:C.sig f=some s)(hr:au (gr tab ext) f ds d)(hm:qX s.mode=false:=by rfl):jA C f s ds d:=by
 obtain⟨n0,hn⟩:=hr;exact((XY h n0).1 f ds d (hn n0 (aY _)) s hs).1 hm
def Le (Z Ψ:aV):Prop:=∀f ds d,Z f ds=some d->Ψ f ds=some d
def Env.setR_r (O:Env)(t u:Nat)(d:D):(O.setR t d).r u=if u=t then d else O.r u:=by simp only[Env.setR,gm]
def Env.setO_o (O:Env)(t u:Nat)(d:D):(O.setO t d).o u=if u=t then d else O.o u:=by simp only[Env.setO,gm]
def Env.join_r (O O':Env)(lr lo:List Nat)(u:Nat):(O.join lr lo O').r u=if u∈lr then O'.r u else O.r u:=by simp only[Env.join,Env.put,uO]
def Env.join_o (O O':Env)(lr lo:List Nat)(u:Nat):(O.join lr lo O').o u=if u∈lo then O'.o u else O.o u:=by simp only[Env.join,Env.put,uO]
def L4 (f:Nat->D)(i:Nat)(is:List Nat)(x:D)(xs:List D)(u:Nat):putL f (i::is) (x::xs) u=if u=i then x else putL f is xs u:=by simp only[putL,gm]
def L5 (f:Nat->D)(xs:List D)(u:Nat):putL f [] xs u=f u:=by cases xs<;>rfl
def an2 (g:Nat×Bool)(gs:List (Nat×Bool))(O:Env):holds (g::gs) O=((O.r g.1).b==g.2&&holds gs O):=rfl
def D.tget_tup (x:List D)(i:Nat):(D.tup x).tget i=x.getD i .none:=rfl
def D.c_agg (x:List D)(i:Nat):(D.agg x).c i=x.getD i .none:=rfl
end Cx
