/-
  Shared texts of this claim.
-/
import Derived.Test.YtbemlocmcgcbdaaGreatDoorKAG
import Derived.Below
import Derived.ChangeSame
import Derived.WalkKit
import Derived.ProofKit
import Derived.OpenShut
import Derived.Carry
import Derived.JoinedCond
set_option linter.defProp false
set_option linter.unusedSimpArgs false
set_option linter.unusedVariables false
noncomputable section
namespace Cx
open Go Go.RowKit
def ac2 (m:Nat)(s:Sig):Snap:=⟨s.args.map .dat++List.replicate (m-s.args.length) .none,[]⟩
def lF (ds:List D):Env:=⟨λt=>ds.getD t .none,λ_=>.none⟩
def vN (C:Ctx)(fn:Func)(s:Sig)(ids:List Nat)(S0:Snap):Option PC:=
 match fn.body with
 |some c=>
  (comp C fn s fn.ntmps ids (OC C fn.ntmps ids) false c S0).bind λr=>
    match r.out with
    |none=>some r.pc
    |some S=>(AA C fn s (S.st ids)).map λe=>.seq r.pc (.ret e)
 |none=>none
def Ro (m:Nat)(shs:List Sh)(obs:List (Nat×Ob))(ids:List Nat):Snap:=⟨shs++List.replicate (m-shs.length) .none,ids.map (ei obs)⟩
def Lm (shs:List Sh)(obs:List (Nat×Ob))(ds:List D):Env:=lV obs ds (ds.drop shs.length)
def GO (l:List Nat):Nat->List Sh->Bool
 |_,[]=>true
 |t,s::ss=>(pY s|| !fK l t)&&GO l (t+1) ss
def D1:List (Nat×Ob)->Nat->List PI
 |[],_=>[]
 |x::l,k=>D1 l (k+1)++[.setO x.1 (.r k)]
def aj6 {Z:aO}:∀(l:List (Nat×Ob)) (k:Nat) (O:Env) (ds:List D),(∀i,O.r (k+i)=ds.getD i .none)->(∀j,O.o j=.none)->PI.runs Z (D1 l k) O=some ⟨O.r,λj=>oR l ds j⟩
 |[],k,O,ds,h,ho=>by
  simp only[D1,PI.runs]
  congr 1
  cases O with|mk r o=>congr 1;funext j;exact ho j
 |x::l,k,O,ds,h,ho=>by
  simp only[D1,tY]
  rw[aj6 l (k+1) O ds.tail (λi=>by
   have:=h (i+1);rw[sA,Es 1 i,this];cases ds<;>simp) ho]
  simp only[sB,PI.runs,PI.run,PE.ev,Env.setO]
  congr 1
  congr 1
  funext j;rw[fq];have h0:=h 0;simp only[l9] at h0;cases ds with
  |nil=>
   have e:∀m j,oR m [] j=D.none:=λm j=>by cases m<;>rfl
   rw[h0];split<;>simp[e]
  |cons d ds=>
   simp only[oR,List.tail_cons];by_cases hj:j=x.1
   .subst hj;rw[if_pos rfl,lu,h0];rfl
   .rw[if_neg hj,fS (λe=>hj e.symm)];rfl
def aAr {Z:aO}(shs:List Sh)(obs:List (Nat×Ob))(ds:List D):PI.runs Z (D1 obs shs.length) (lF ds)=some (Lm shs obs ds):=by
 rw[aj6 obs shs.length (lF ds) (ds.drop shs.length) (λi=>by simp[lF,aH]) (λj=>rfl)];rfl
def JF (fn:Func):List Nat:=match fn.body with|some c=>cA c|none=>[]
def wW:List (Nat×Ob)->Bool
 |[]=>true
 |x::l=>(match x.2 with|.tr=>false|_=>true)&&wW l
def mQ (C:Ctx)(fn:Func)(s:Sig)(ids:List Nat):Option PC:=
 match C.yl with
 |none=>
  match s.mode with
  |.ob shs obs=>bif Nat.ble shs.length fn.ntmps&&GO (JF fn) 0 shs&&shs.all vd&&wW obs then(vN C fn s ids (Ro fn.ntmps shs obs ids)).map λpc=>.seq (.is (D1 obs shs.length)) pc else none
  |_=>bif Nat.ble s.args.length fn.ntmps then vN C fn s ids (ac2 fn.ntmps s) else none
 |some _=>none
def af0:∀(ids:List Nat) (j:Nat),dq ids [] j=.dead
 |[],_=>rfl
 |_::_,_=>rfl
def Q5 {C:Ctx}{Z:aO}(bh:dJ C)(hΦ:dj C Z)(ef:gR C Z){fn:Func}{s:Sig}{ids:List Nat}{S0:Snap}{pc:PC}{c:Code}(hb:fn.body=some c)(hc:vN C fn s ids S0=some pc){w0:World}{σ0:Base}(km:σ0.fin)(hC:CtxOK C σ0)(hY:ur C Z w0 σ0)
 {N:Nat} {O:Env} {d:D} {a:Act} {w:World} (hn:a.tmps.size=fn.ntmps) (hg:Good C w0 σ0 (S0.st ids) O (λ_=>False) a w) (he:pc.ev Z N O=some (.ret d)):
 c.wpIn (FR none) 0 C.P (λe a' w'=>(e=.normal\/e=.ret)/\sC C w0 σ0 fn s d a'.tmps a'.defers w'/\SameBut (λt=>t∈cA c) a a') a w:=by
 unfold vN at hc;rw[hb] at hc;simp only[az] at hc;obtain⟨r,hr,hc⟩:=hc;have Tg:=λx hx=>anw (fn:=fn) (s:=s) (N:=N) ef (azU (n:=fn.ntmps) (ids:=ids) bh hΦ) c false S0 r hr none w0 σ0 (λt=>t∈cA c) O x a w (λ_=>⟨rfl,km⟩) hC hY (λ_ h=>h) hn hg hx;split at hc
 .rename_i kR;cases hc;refine wpIn_mono (Tg (.ret d) he) λe a' w' ho=>?_;cases e with
  |normal=>obtain⟨_,_,h,_⟩:=ho;cases h
  |exit id=>obtain⟨_,_,h,_⟩:=ho;cases h
  |ret=>obtain⟨d',h,h2⟩:=ho;cases h;exact⟨.inr rfl,h2⟩
  |_=>exact ho.elim
 .rename_i S kR;simp only[aB] at hc;obtain⟨pe,oH,rfl⟩:=hc;simp only[PC.ev] at he;split at he
  .rename_i ρ1 h1;cases he;refine wpIn_mono (Tg (.next ρ1) h1) λe a' w' ho=>?_;cases e with
   |normal=>
    obtain⟨ρ2,S2,e1,e2,mf,jw⟩:=ho;cases e1;rw[kR] at e2;cases e2;obtain⟨σ2,own,hv,hi⟩:=jw;exact⟨.inl rfl,Inv.retD hC (λ_=>rfl) km oH _ hi rfl,mf⟩
   |exit id=>obtain⟨_,_,h,_⟩:=ho;cases h
   |ret=>obtain⟨d',h,h2⟩:=ho;cases h
   |_=>exact ho.elim
  .rename_i ay;refine wpIn_mono (Tg (.ret d) he) λe a' w' ho=>?_;cases e with
   |normal=>obtain⟨_,_,h,_⟩:=ho;cases h
   |exit id=>obtain⟨_,_,h,_⟩:=ho;cases h
   |ret=>obtain⟨d',h,h2⟩:=ho;cases h;exact⟨.inr rfl,h2⟩
   |_=>exact ho.elim
def sC.leaves {C:Ctx}{w0:World}{σ0:Base}{fn:Func}{s:Sig}{d:D}{tmps:Array Value}{R:Ending->World->Prop}(hR:∀w',PV C w0 σ0 fn s d {tmps:=tmps,defers:=[]} w'->∃v,(results fn tmps).run C.P w'=.ok v w'/\R (.returned v) w'):
 ∀(ds:List Deferred) (w:World),sC C w0 σ0 fn s d tmps ds w->LeavesInM (FR none) 0 C.P fn tmps R ds .returning w
 |[],w,h=>hR w h
 |x::ds,w,⟨D,h1,h2,h3⟩=>⟨by simp,.inl ⟨D,_,h1,run_takeDeferred h2,sC.leaves hR ds _ h3⟩⟩
def aoX {C:Ctx}{V:Im}{w:World}{args:Array Value}{ds:List D}{s:Sig}{m:Nat}{ids:List Nat}(ax:V.ok w)(ha:qw C V s.args args.toList ds):
 Good C w (Base.mk0 V w.heap.size) ((ac2 m s).st ids) (lF ds) (λ_=>False) {tmps:=args++Array.replicate (m-args.size) undef,defers:=[]} w:=by
 obtain⟨h1,h2,h3⟩:=ha;have aJ:args.size=s.args.length:=by simpa using h1
 refine⟨V,λ_=>none,λ_=>undef,trivial,ax,.refl V,λ_ k e=>(ax.m k _ e).lt,λ_ _ _ h=>.inl h,λ_ _ h=>.inl h,.refl _ _,aZ _,(λk j h=>by cases h),λt=>?_,λj=>?_,λt gs s' e=>absurd e (Snap.noOpt _ _ t gs s'),
  .none,λ_=>False,λ_=>False,⟨⟨λ_=>id,λ_=>id⟩,(λk j h=>by cases h),λ_ _ _ _=>id,λ_ _ _=>id,λ_ _ _=>id⟩,λj hj=>?_⟩
 .show aG C _ _ V _ (cG ((s.args.map Sh.dat++List.replicate (m-s.args.length) Sh.none).getD t .none)) _ _;rw[aH];by_cases ht:t<s.args.length
  .rw[nH (by simpa using ht),cq,aY ht];simp only[lC,lz,cG];have:=h3 t _ (aY ht);have e1:(args++Array.replicate (m-args.size) undef).getD t undef=args.toList.getD t undef:=by
        simp only[gp,aH];rw[aaS (by omega)];simp
   show aG C _ _ V _ (.dat _) ((args++Array.replicate (m-args.size) undef).getD t undef) (ds.getD t .none);rw[e1];exact this
  .rw[nI (by simpa using ht),abc];split<;>trivial
 .show cf C _ _ V _ _ w _ j (dq ids [] j);rw[af0];trivial
 .change dq ids [] j=.tr at hj;rw[af0] at hj;cases hj
def Q6 {C:Ctx}{Z:aO}(bh:dJ C)(hΦ:dj C Z)(ef:gR C Z){f:Nat}{fn:Func}{s:Sig}{ids:List Nat}{pc:PC}(hf:C.P.funcs[f]?=some fn)(hc:mQ C fn s ids=some pc){N:Nat}{ds:List D}{d:D}(cQ:wL s.mode=false)
 (he:pc.ev Z N (lF ds)=some (.ret d)):iP C f s ds d:=by
 intro V w args ax hC ha;unfold mQ at hc;split at hc
 case h_2=>cases hc
 rename_i mj;split at hc
 case h_1=>rename_i e;rw[e] at cQ;cases cQ
 cases hle:Nat.ble s.args.length fn.ntmps<;>simp only[hle,zyy,zyx] at hc
 .cases hc
 have oE:=lx hle;have aJ:args.size=s.args.length:=by simpa using ha.1
 cases hb:fn.body with
 |none=>unfold vN at hc;rw[hb] at hc;cases hc
 |some c=>
 refine(callsIn_wide (n:=0)).1 (callsIn_of_wp_marks (F:=FR none) hf hb trivial ?_);have hg:=aoX (C:=C) (m:=fn.ntmps) (ids:=ids) ax ha;have hn:(args++Array.replicate (fn.ntmps-args.size) undef).size=fn.ntmps:=by simp;omega
 refine wpIn_mono (Q5 bh hΦ ef hb hc (σ0:=Base.mk0 V w.heap.size) trivial hC (λJ ys e=>by rw[mj] at e;cases e) hn hg he) λe a' w' ho=>?_
 have main:=sC.leaves (R:=λe w'=>∃v V',e=.returned v/\V.le V'/\V'.ok w'/\Below w.heap.size w w'/\
  (∀k o x,V'.c k o=some x->V.c k o=some x\/w.heap.size<=k)/\(∀k x,V'.m k=some x->V.m k=some x\/w.heap.size<=k)/\nL C s V' w w' v d) (λw2 Gr=>by
  obtain⟨v,V',_,h2,h3,h4,h5,h6,h7,h8⟩:=Gr;exact⟨v,h2,v,V',rfl,h3,h4,h5,h6,h7,h8⟩) _ _ ho.2.1
 rcases ho.1 with rfl|rfl<;>exact main
def Base.mkO (V:Im)(own:Nat->Option Nat)(w:World)(cx:Nat->Prop):Base:=
 {V with
  B:=0
  fin:=True
  F:=λ_ fx kK w'=>(∀k,fx k↔(k<w.heap.size/\own k=none))/\(∀k,kK k↔(fx k/\cx k))/\w.heap.size<=w'.heap.size/\∀k,fx k->w'.heap[k]?=w.heap[k]?
  lt:=λt' fx cx w' h k hk=>ly ((h.1 k).1 hk).1 h.2.2.1
  sub:=λt' fx cx w' h k hk=>((h.2.1 k).1 hk).1
  keep:=λt' fx cx w' ll h hb hs=>⟨h.1,h.2.1,fb h.2.2.1 hb.size,λk hk=>(hs k hk).trans (h.2.2.2 k hk)⟩}
def afB {l:List Nat}:∀{shs:List Sh} {k:Nat},GO l k shs=true->∀(t:Nat) (s:Sh),shs[t]?=some s->pY s=false->(k+t)∉l
 |[],k,_,t,s,h,_=>by simp at h
 |x::shs,k,hk,t,s,h,hd=>by
  simp only[GO,au,j5,l6] at hk;cases t with
  |zero=>
   simp at h;subst h;rcases hk.1 with h1|h1
   .rw[hd] at h1;cases h1
   .intro hm;rw[l9] at hm;rw[(rE _ _).2 hm] at h1;cases h1
  |succ t=>
   simp at h;have:=afB hk.2 t s h hd
   rwa [sA,Es 1 t] at this
def Um (obs:List (Nat×Ob))(j:Nat):∀ids:List Nat,dq ids (ids.map (ei obs)) j=.dead\/dq ids (ids.map (ei obs)) j=ei obs j
 |[]=>.inl rfl
 |i::is=>by
  simp only[iy,dq];cases hb:Nat.beq i j
  .exact Um obs j is
  .right;rw[aD hb];rfl
def agC:∀{l:List (Nat×Ob)},wW l=true->∀x,x∈l->x.2≠.tr
 |[],_,x,hx=>by cases hx
 |y::l,h,x,hx=>by
  simp only[wW,au] at h;rcases cv.1 hx with rfl|hx
  .intro e;rw[e] at h;cases h.1
  .exact agC h.2 x hx
def agD:∀{l:List (Nat×Ob)},wW l=true->∀j,ei l j≠.tr
 |[],_,j,e=>by cases e
 |x::l,h,j,e=>by
  simp only[wW,au] at h;simp only[ei] at e;cases hb:Nat.beq x.1 j<;>simp only[hb,zyy,zyx] at e
  .exact agD h.2 j e
  .have h1:=h.1;rw[e] at h1;cases h1
def aoW {C:Ctx}{V:Im}{own:Nat->Option Nat}{hv:Nat->Value}{w w0:World}{args:Array Value}{cx:Nat->Prop}{shs:List Sh}{obs:List (Nat×Ob)}{ds:List D}{m:Nat}{ids:List Nat}(hN:w0.heap.size<=w.heap.size)(FM:Below 0 w0 w)(ax:V.ok w)(bp:∀k,V.m k≠some cw)(aJ:args.size=shs.length)
 (bB:∀k j,own k=some j->w0.heap.size<=k/\k<w.heap.size/\(∀o,V.c k o=none)/\V.m k=none) (dO:∀k,cx k->k<w.heap.size/\own k=none/\(∀o,V.c k o=none)/\V.m k=none) (uT:wW obs=true) (fJ:shs.all vd=true)
 (h1:∀t,aG C (fh shs obs) (Lm shs obs ds) V hv (shs.getD t .none) (args.getD t undef) (ds.getD t .none)) (h2:∀j,cf C (fh shs obs) (Lm shs obs ds) V own hv w w0.heap.size j (ei obs j)):
 Good C w0 (Base.mkO V own w cx) ((Ro m shs obs ids).st ids) (Lm shs obs ds) (λ_=>False) {tmps:=args++Array.replicate (m-args.size) undef,defers:=[]} w:=by
 have v8:Compat (fh shs obs) hv ((Ro m shs obs ids).st ids) hv:=⟨λ_=>aZ _,λ_ _=>rfl⟩
 refine⟨V,own,hv,trivial,ax,.refl V,λ_ k e=>absurd e (bp k),λ_ _ _ h=>.inl h,λ_ _ h=>.inl h,FM,kf _,bB,λt=>?_,λj=>?_,λt gs s' e=>absurd e (Snap.noOpt _ _ t gs s'),
  .none,(λk=>k<w.heap.size/\own k=none),cx,⟨⟨λ_=>Iff.rfl,λk=>⟨λh=>⟨⟨(dO k h).1,(dO k h).2.1⟩,h⟩,λh=>h.2⟩,aZ _,λ_ _=>rfl⟩,(λk j h hf=>by rw[hf.2] at h;cases h),(λk o x e hc=>by rw[(dO k hc).2.2.1 o] at e;cases e),(λk x e hc=>by rw[(dO k hc).2.2.2] at e;cases e),λk e=>absurd e (bp k)⟩,λj hj=>?_⟩
 .show aG C _ _ V _ (cG ((shs++List.replicate (m-shs.length) Sh.none).getD t .none)) _ _;refine Pl ?_;rw[aH];by_cases ht:t<shs.length
  .rw[nH ht];have:=h1 t;rw[aH (l:=shs)] at this;have e1:(args++Array.replicate (m-args.size) undef).getD t undef=args.getD t undef:=by
        simp only[gp];rw[aaS (by omega)]
   show aG C _ _ V _ _ ((args++Array.replicate (m-args.size) undef).getD t undef) (ds.getD t .none);rw[e1];refine aG.mono' (.refl V) v8 (λgs s' e=>?_) this;have hp:=cM.1 fJ _ (bQ ht);rw[aY ht] at e;simp only[lz] at e;rw[e] at hp;cases hp
  .rw[nI (by omega),abc];split<;>trivial
 .show cf C _ _ V _ _ w _ j (dq ids (ids.map (ei obs)) j);rcases Um obs j ids with e|e
  .rw[e];trivial
  .rw[e];exact(h2 j).mono (.refl V) v8 rfl rfl (λk hk=>⟨hk,rfl⟩)
 .change dq ids (ids.map (ei obs)) j=.tr at hj;rcases Um obs j ids with e|e
  .rw[e] at hj;cases hj
  .rw[e] at hj;exact absurd hj (agD uT j)
def Lf (w:World)(N:Nat):World:={w with heap:=w.heap.extract 0 N}
def anq {C:Ctx}{Z:aO}(bh:dJ C)(hΦ:dj C Z)(ef:gR C Z){f:Nat}{fn:Func}{s:Sig}{ids:List Nat}{pc:PC}(hf:C.P.funcs[f]?=some fn)(hc:mQ C fn s ids=some pc){N:Nat}{ds:List D}{d:D}{shs:List Sh}{obs:List (Nat×Ob)}(cQ:s.mode=.ob shs obs)
 (he:pc.ev Z N (lF ds)=some (.ret d)):eB C f shs obs s.res ds d:=by
 unfold mQ at hc;split at hc
 case h_2=>cases hc
 rename_i mj;rw[cQ] at hc;simp only at hc;cases hle:(Nat.ble shs.length fn.ntmps&&GO (JF fn) 0 shs&&shs.all vd&&wW obs)<;>simp only[hle,zyy,zyx] at hc
 .cases hc
 simp only[au] at hle;obtain⟨⟨⟨l1,l2⟩,l3⟩,l4⟩:=hle;refine eB.of (agC l4) ?_;intro B V own hv w args cx _ ax hC bp hB aJ bB dO h1 h2;simp only[aB] at hc;obtain⟨pc,hc,rfl⟩:=hc;simp only[PC.ev,aAr,lC] at he;have oE:=lx l1;cases hb:fn.body with
 |none=>unfold vN at hc;rw[hb] at hc;cases hc
 |some c=>
 have bo:JF fn=cA c:=by unfold JF;rw[hb]
 rw[bo] at l2;refine(callsIn_wide (n:=0)).1 (callsIn_of_wp_marks (F:=FR none) hf hb trivial ?_);have lP:(Lf w B).heap.size=B:=by simp[Lf];omega
 have FM:Below 0 (Lf w B) w:=⟨rfl,rfl,rfl,by rw[lP];exact hB,λk hk=>by omega⟩
 have hg:=aoW (C:=C) (m:=fn.ntmps) (ids:=ids) (w0:=Lf w B) (cx:=cx) (by rw[lP];exact hB) FM ax bp aJ (by rw[lP];exact bB) dO l4 l3 h1 (by rw[lP];exact h2);have hn:(args++Array.replicate (fn.ntmps-args.size) undef).size=fn.ntmps:=by simp;omega
 refine wpIn_mono (Q5 bh hΦ ef hb hc (σ0:=Base.mkO V own w cx) trivial hC (λJ ys e=>by rw[mj] at e;cases e) hn hg he) λe a' w' ho=>?_;obtain⟨uN,Gr,iK⟩:=ho
 have main:=sC.leaves (R:=λe w'=>∃v V' own' hv' dr os,e=.returned v/\d=.tup (dr::os)/\os.length=obs.length/\V.le V'/\V'.ok w'/\Below 0 w w'/\
  (∀k,k<w.heap.size->own k=none->w'.heap[k]?=w.heap[k]?)/\
  (∀k o x,V'.c k o=some x->(V.c k o=some x\/B<=k)/\¬cx k)/\(∀k x,V'.m k=some x->(V.m k=some x\/B<=k)/\¬cx k)/\(∀k,V'.m k=some cw->B<=k->k<w.heap.size->own k≠none)/\
  (∀k j,own' k=some j->B<=k/\k<w'.heap.size/\(∀o,V'.c k o=none)/\V'.m k=none/\(k<w.heap.size->own k≠none))/\
  (∀(t:Nat) (sh:Sh),shs[t]?=some sh->pY sh=false->aG C (fh shs obs) (lV obs ds os) V' hv' sh (args.getD t undef) (ds.getD t .none))/\
  (∀j,cf C (fh shs obs) (lV obs ds os) V' own' hv' w' B j (ei obs j))/\Rep C.cap V' s.res v dr) (λw2 hr=>by
  obtain⟨v,V',⟨own',t,fx,kK,eE,_,Mh⟩,aq,iJ,SM,uM,dD,cY,_⟩:=hr;obtain⟨hv',dr,os,e1,e2,e3,e4,e5,e6⟩:=Mh shs obs cQ;obtain⟨f1,f2,f3,f4⟩:=eE.F;have aea:∀k,cx k->kK k:=λk hk=>(f2 k).2 ⟨(f1 k).2 ⟨(dO k hk).1,(dO k hk).2.1⟩,hk⟩;rw[lP] at dD cY e3 e5
  refine⟨v,aq,v,V',own',hv',dr,os,rfl,e1,e2,iJ,SM,⟨uM.os,uM.tape,uM.output,f3,λk hk=>by omega⟩,λk hk hn=>f4 k ((f1 k).2 ⟨hk,hn⟩),λk o x e=>⟨dD k o x e,λhk=>eE.c k o x e (aea k hk)⟩,λk x e=>⟨cY k x e,λhk=>eE.m k x e (aea k hk)⟩,
   λk e RQ hk hn=>eE.d k e (by rw[lP];exact RQ) ((f1 k).2 ⟨hk,hn⟩),λk j hk=>?_,λt sh hs hd=>?_,λj=>?_,e6⟩
  .obtain⟨g1,g2,g3,g4⟩:=e3 k j hk;exact⟨g1,g2,g3,g4,λaf hn=>eE.own k j hk ((f1 k).2 ⟨af,hn⟩)⟩
  .have:=e4 t sh hs hd (ds.getD t .none);have af:t<shs.length:=(eO.1 hs).1;have oG:t∉cA c:=by have:=afB l2 t sh hs hd;simpa using this
   have cD:a'.tmps.getD t undef=args.getD t undef:=by
        rw[iK.get t oG];simp only[gp];rw[aaS (by omega)]
   simp only at this;rw[cD] at this;have hp:=cM.1 l3 _ (j9 hs);exact aG.mono' (.refl V') ⟨λ_=>aZ _,λ_ _=>rfl⟩ (λgs s' e=>by rw[e] at hp;cases hp) this
  .exact cf.mono (S:=fh shs obs) (S':=fh shs obs) (O:=lV obs [] os) (O':=lV obs ds os) (hv:=hv') (hv':=hv') (own:=own') (own':=own') (w:=w2) (w':=w2) (.refl V') ⟨λ_=>aZ _,λ_ _=>rfl⟩ rfl rfl (λk hk=>⟨hk,rfl⟩) (e5 j)) _ _ Gr
 rcases uN with rfl|rfl<;>exact main
def ac1 (m:Nat)(cts:List Ty)(J:Nat)(ids:List Nat):Snap:=⟨.yv::(cts.map .dat++List.replicate (m-(cts.length+1)) .none),ids.map λj=>bif Nat.beq j J then .tr else .dead⟩
def Cm (J:Nat)(ds:List D):Env:=⟨λt=>(D.none::ds).getD t .none,λj=>bif Nat.beq j J then .list [] else .none⟩
def E8 (C:Ctx)(fn:Func)(cts ys:List Ty)(J:Nat)(ids:List Nat):Option PC:=
 match C.yl,C.sig nF,C.cap nF with
 |none,none,none=>bif Nat.ble (cts.length+1) fn.ntmps then vN {C with yl:=some (J,ys)} fn ⟨[],.tup [],.it J⟩ ids (ac1 fn.ntmps cts J ids) else none
 |_,_,_=>none
open Classical in
def yldΦ (Z:aO)(xs:List D)(m:Nat):aO:=λf ds=>
 if f=nF then(match ds with|[.list l]=>if 0<l.length/\l.length<=m+1/\l=xs.take l.length then some (.v (.bool (decide (l.length<=m)))) else none|_=>none)
 else Z f ds
def yldΦ_at {Z:aO}{xs l ds:List D}{d:D}{m:Nat}(h:yldΦ Z xs m nF [.list (l++[.tup ds])]=some d):l.length<=m/\l=xs.take l.length/\xs[l.length]?=some (.tup ds)/\l++[.tup ds]=xs.take (l.length+1)/\d=.v (.bool (decide (l.length<m))):=by
 simp only[yldΦ,if_true] at h;split at h
 .rename_i hc;obtain⟨h1,h2,h3⟩:=hc;simp only[mG,px,A2,ke] at h2 h3 h;have hx:xs[l.length]?=some (.tup ds):=by
   have:(xs.take (l.length+1))[l.length]?=some (.tup ds):=by rw[<-h3];simp
   rw[iQ] at this;simpa using this
  have hl:l=xs.take l.length:=by
   have:=congrArg (List.take l.length) h3;simpa [PM] using this
  refine⟨by omega,hl,hx,h3,?_⟩;cases h
  congr 2
 .cases h
def dj.yl {C:Ctx}{Z:aO}(h:dj C Z){y:Option (Nat×List Ty)}{v:Value}{xs:List D}{m:Nat}(hs:C.sig nF=none):dj {C with yl:=y,yv:=v} (yldΦ Z xs m):=by
 intro f ds d e s eh;have ay:f≠nF:=λe'=>by subst e';change C.sig nF=some s at eh;rw[hs] at eh;cases eh
 simp only[yldΦ,if_neg ay] at e;obtain⟨h1,h2⟩:=h f ds d e s eh;exact⟨λhm V w args ax hC ha=>h1 hm V w args ax ⟨hC.glob,hC.mg⟩ ha,λshs obs hm=>(h2 shs obs hm).ctx rfl rfl rfl⟩
def mE.yl {C:Ctx}{y:Option (Nat×List Ty)}{v:Value}{f:Nat}{cts ys:List Ty}{ds xs:List D}(h:mE C f cts ys ds xs):mE {C with yl:=y,yv:=v} f cts ys ds xs:=
 λV w yv vs F fx cx m ax hC=>h V w yv vs F fx cx m ax ⟨hC.glob,hC.mg⟩
def gR.yl {C:Ctx}{Z:aO}(h:gR C Z){y:Option (Nat×List Ty)}{v:Value}{xs:List D}{m:Nat}(hs:C.cap nF=none):gR {C with yl:=y,yv:=v} (yldΦ Z xs m):=by
 intro f cs ys hc hi;have ay:f≠nF:=λe'=>by subst e';change C.cap nF=some cs at hc;rw[hs] at hc;cases hc
 obtain⟨h1,h2⟩:=h f cs ys hc hi;refine⟨h1,λds d e=>?_⟩;simp only[yldΦ,if_neg ay] at e;obtain⟨xs,e1,e2,e3⟩:=h2 ds d e;exact⟨xs,e1,e2,e3.yl⟩
def aa4 (Z:aO)(pc:PC)(J:Nat)(ds xs:List D):Prop:=∀m,m<=xs.length->∃N,pc.ev (yldΦ Z xs m) N (Cm J ds)=some (.ret (.list (xs.take (m+1))))
def aoV {C:Ctx}{V:Im}{σ0:Base}{w:World}{yv:Value}{vs:List Value}{ds:List D}{cts ys:List Ty}{J m:Nat}{ids:List Nat}(ax:V.ok w)(ha:qw C V cts vs ds)(hm:cts.length+1<=m)(mj:C.yl=some (J,ys))(GF:C.yv=yv)
 (h0:σ0.toIm=V) (hB:σ0.B=0) {fx cx:Nat->Prop} (hF:σ0.F (.list []) fx cx w) (jv:∀k o x,V.c k o=some x->¬cx k) (oz:∀k x,V.m k=some x->¬cx k):
 Good C w σ0 ((ac1 m cts J ids).st ids) (Cm J ds) (λ_=>False) {tmps:=#[yv]++vs.toArray++Array.replicate (m-(vs.length+1)) undef,defers:=[]} w:=by
 obtain⟨h1,h2,h3⟩:=ha
 refine⟨V,λ_=>none,λ_=>undef,trivial,ax,by rw[h0];exact .refl V,λ_ k e=>by rw[h0] at e;exact(ax.m k _ e).lt,λ_ _ _ h=>by rw[h0];exact .inl h,λ_ _ h=>by rw[h0];exact .inl h,.refl _ _,by omega,(λk j h=>by cases h),λt=>?_,λj=>?_,λt gs s' e=>absurd e (Snap.noOpt _ _ t gs s'),
  .list [],fx,cx,⟨hF,(λk j h=>by cases h),jv,oz,λk e hk=>by have:=(ax.m k _ e).lt;omega⟩,λj hj=>?_⟩
 .show aG C _ _ V _ (cG ((Sh.yv::(cts.map Sh.dat++List.replicate (m-(cts.length+1)) Sh.none)).getD t .none)) ((#[yv]++vs.toArray++Array.replicate (m-(vs.length+1)) undef).getD t undef) ((D.none::ds).getD t .none);have ea:((#[yv]++vs.toArray++Array.replicate (m-(vs.length+1)) undef).getD t undef)=(yv::(vs++List.replicate (m-(vs.length+1)) undef)).getD t undef:=by
   rw[gp,<-qx,aH];simp
  rw[ea];cases t with
  |zero=>simp only[qD,cG];exact GF.symm
  |succ t=>
   simp only[A0];rw[aH];by_cases ht:t<cts.length
   .rw[nH (by simpa using ht),cq,aY ht];simp only[lC,lz,cG];have:=h3 t _ (aY ht);have e1:(vs++List.replicate (m-(vs.length+1)) undef).getD t undef=vs.getD t undef:=by
     simp only[aH];rw[nH (by omega)]
    show aG C _ _ V _ (.dat _) _ (ds.getD t .none);rw[e1];exact this
   .rw[nI (by simpa using ht),abc];split<;>trivial
 .show cf C _ _ V _ _ w _ j (dq ids (ids.map λj=>bif Nat.beq j J then .tr else .dead) j);refine zM _ (λob=>cf C _ _ V _ _ w _ j ob) trivial j ?_ ids;cases Nat.beq j J<;>trivial
 .change dq ids (ids.map λj=>bif Nat.beq j J then .tr else .dead) j=.tr at hj
  have hb:=zM (λj=>bif Nat.beq j J then Ob.tr else .dead) (λob=>ob=.tr->Nat.beq j J=true) (λe=>by cases e) j (λe=>by
   cases hb:Nat.beq j J
   .rw[hb] at e;cases e
   .rfl) ids hj
  have:=aD hb;subst this;refine⟨⟨ys,mj⟩,?_⟩;show(bif Nat.beq j j then D.list [] else .none)=_;rw[lu];rfl
def anr {C:Ctx}{Z:aO}(bh:dJ C)(hΦ:dj C Z)(ef:gR C Z){f:Nat}{fn:Func}{cts ys:List Ty}{J:Nat}{ids:List Nat}{pc:PC}(hf:C.P.funcs[f]?=some fn)(hc:∀yv,E8 {C with yv:=yv} fn cts ys J ids=some pc){ds xs:List D}
 (hr:aa4 Z pc J ds xs):mE C f cts ys ds xs:=by
 intro V w yv vs F fx cx m ax hC ha hm af cK uQ hF jv oz TA;have hc:=hc yv;unfold E8 at hc;split at hc
 case h_2=>cases hc
 rename_i mj hsy hcy;cases hle:Nat.ble (cts.length+1) fn.ntmps<;>simp only[hle,zyy,zyx] at hc
 .cases hc
 have oE:=lx hle;obtain⟨N,he⟩:=hr m hm;cases hb:fn.body with
 |none=>unfold vN at hc;rw[hb] at hc;cases hc
 |some c=>
 refine(callsIn_wide (n:=0)).1 (callsIn_of_wp_marks (F:=FR none) hf hb trivial ?_);obtain⟨σ0,hσ0⟩:∃σ0:Base,σ0={V with B:=0,fin:=True,F:=λt fx cx w=>(∃l,t=.list l)/\F t fx cx w,lt:=λt fx cx w h=>af t fx cx w h.2,sub:=λt fx cx w h=>cK t fx cx w h.2,keep:=λt fx cx w w' h hb hs=>⟨h.1,uQ t fx cx w w' h.2 hb hs⟩}:=⟨_,rfl⟩
 have e1:σ0.toIm=V:=by rw[hσ0]
 have e2:σ0.B=0:=by rw[hσ0]
 have e3:σ0.fin:=by rw[hσ0];trivial
 have e4:∀t fx cx w,σ0.F t fx cx w↔(∃l,t=.list l)/\F t fx cx w:=λt fx cx w=>by rw[hσ0]
 have hg:=aoV (C:={C with yl:=some (J,ys),yv:=yv}) (σ0:=σ0) (w:=w) (yv:=yv) (vs:=vs) (ds:=ds) (cts:=cts) (ys:=ys) (J:=J) (m:=fn.ntmps) (ids:=ids) ax ha oE rfl rfl e1 e2 ((e4 _ _ _ _).2 ⟨⟨_,rfl⟩,hF⟩) jv oz;have aJ:(#[yv]++vs.toArray).size=vs.length+1:=by simp<;>omega
 have wD:vs.length=cts.length:=ha.1;have hY:ur {C with yl:=some (J,ys),yv:=yv} (yldΦ Z xs m) w σ0:=by
  intro J' ys' e;cases e;refine⟨e2,λt fx cx w h=>((e4 _ _ _ _).1 h).1,λfu ds' d hd fx cx w1 σ1 args Cz asW y4 hc1 F6 dD cY=>?_⟩;obtain⟨g1,g2,g3,g4,rfl⟩:=yldΦ_at hd;rw[e1] at dD cY;have:=TA fu.length fx cx w1 σ1 args ds' g1 g3 (by rw[<-g2];exact((e4 _ _ _ _).1 Cz).2) asW y4 hc1 F6 dD cY;intro rd o a x aa ts K Q eG hv has hK;refine this rd o a x aa ts K Q eG hv has λu w2 hu=>hK u w2 ?_;obtain⟨u1,u2,u3,ot,kK,u4,u5,u6⟩:=hu;refine⟨_,rfl,u1,u2,u3,ot,kK,(e4 _ _ _ _).2 ⟨⟨_,rfl⟩,?_⟩,u5,u6⟩;rw[g4];exact u4
 have hn:(#[yv]++vs.toArray++Array.replicate (fn.ntmps-(vs.length+1)) undef).size=fn.ntmps:=by simp;omega
 rw[aJ];refine wpIn_mono (Q5 (C:={C with yl:=some (J,ys),yv:=yv}) bh (hΦ.yl hsy) (ef.yl hcy) hb hc (σ0:=σ0) e3 (by rw[e1];exact⟨hC.glob,hC.mg⟩) hY hn hg he) λe a' w' ho=>?_
 have main:=sC.leaves (R:=λe w'=>(∃v,e=.returned v)/\∃fx cx,F (.list (xs.take (m+1))) fx cx w') (λw2 Gr=>by
  obtain⟨v,V',⟨own,t,fx,cx,h1,ht,_⟩,h2,_⟩:=Gr;refine⟨v,h2,⟨v,rfl⟩,fx,cx,?_⟩;rw[ht J rfl];exact((e4 _ _ _ _).1 h1.F).2) _ _ ho.2.1
 rcases ho.1 with rfl|rfl<;>exact main
def cP (tab:Nat->Option PC)(ext:Nat->Option (aO->List D->Option D)):Nat->aO
 |0=>λ_ _=>none
 |n+1=>λf ds=>
  match ext f with
  |some g=>g (cP tab ext n) ds
  |none=>
   match tab f with
   |some pc=>(match pc.ev (cP tab ext n) n (lF ds) with|some (.ret d)=>some d|_=>none)
   |none=>none
def iP.hint {C:Ctx}{fr nh:List Nat}{f:Nat}{s:Sig}{ds:List D}{d:D}(h:iP C f s ds d):iP {C with fr:=fr,nh:=nh} f s ds d:=
 λV w args ax hC ha=>h V w args ax ⟨hC.glob,hC.mg⟩ ha
def iP.unhint {C:Ctx}{fr nh:List Nat}{f:Nat}{s:Sig}{ds:List D}{d:D}(h:iP {C with fr:=fr,nh:=nh} f s ds d):iP C f s ds d:=
 λV w args ax hC ha=>h V w args ax ⟨hC.glob,hC.mg⟩ ha
def mE.hint {C:Ctx}{fr nh:List Nat}{f:Nat}{cts ys:List Ty}{ds xs:List D}(h:mE C f cts ys ds xs):mE {C with fr:=fr,nh:=nh} f cts ys ds xs:=
 λV w yv vs F fx cx m ax hC=>h V w yv vs F fx cx m ax ⟨hC.glob,hC.mg⟩
def mE.unhint {C:Ctx}{fr nh:List Nat}{f:Nat}{cts ys:List Ty}{ds xs:List D}(h:mE {C with fr:=fr,nh:=nh} f cts ys ds xs):mE C f cts ys ds xs:=
 λV w yv vs F fx cx m ax hC=>h V w yv vs F fx cx m ax ⟨hC.glob,hC.mg⟩
def eB.hint {C:Ctx}{fr nh:List Nat}{f:Nat}{shs:List Sh}{obs:List (Nat×Ob)}{res:Ty}{ds:List D}{d:D}(h:eB C f shs obs res ds d):eB {C with fr:=fr,nh:=nh} f shs obs res ds d:=h.ctx rfl rfl rfl
def eB.unhint {C:Ctx}{fr nh:List Nat}{f:Nat}{shs:List Sh}{obs:List (Nat×Ob)}{res:Ty}{ds:List D}{d:D}(h:eB {C with fr:=fr,nh:=nh} f shs obs res ds d):eB C f shs obs res ds d:=eB.ctx (C':=C) h rfl rfl rfl
def dj.hint {C:Ctx}{fr nh:List Nat}{Z:aO}(h:dj C Z):dj {C with fr:=fr,nh:=nh} Z:=
 λf ds d e s hs=>⟨λhm=>((h f ds d e s hs).1 hm).hint,λshs obs hm=>((h f ds d e s hs).2 shs obs hm).hint⟩
def gR.hint {C:Ctx}{fr nh:List Nat}{Z:aO}(h:gR C Z):gR {C with fr:=fr,nh:=nh} Z:=
 λf cs ys hc hi=>let⟨h1,h2⟩:=h f cs ys hc hi;⟨h1,λds d e=>let⟨xs,e1,e2,e3⟩:=h2 ds d e;⟨xs,e1,e2,e3.hint⟩⟩
def dJ.hint {C:Ctx}{fr nh:List Nat}(h:dJ C):dJ {C with fr:=fr,nh:=nh}:=h
def Pt (C:Ctx)(f:Nat)(s:Sig)(ds:List D)(d:D):Prop:=(wL s.mode=false->iP C f s ds d)/\∀shs obs,s.mode=.ob shs obs->eB C f shs obs s.res ds d
structure TabOK (C:Ctx) (tab:Nat->Option PC) (ext:Nat->Option (aO->List D->Option D)):Prop where
 clos:dJ C
 its:∀f cs ys,C.cap f=some cs->oO cs.args cs.res=some ys->tab f=none/\∃fn,C.P.funcs[f]?=some fn/\fn.body.isSome=true/\(fn.name== "runtime.NumGoroutine")=false
 tab:∀f pc,ext f=none->tab f=some pc->∃fn s ids fr nh,C.P.funcs[f]?=some fn/\C.sig f=some s/\mQ {C with fr:=fr,nh:=nh} fn s ids=some pc
 ext:∀f g,ext f=some g->∀Z,dj C Z->gR C Z->∀ds d,g Z ds=some d->(∀s,C.sig f=some s->Pt C f s ds d)/\
  ∀cs ys,C.cap f=some cs->oO cs.args cs.res=some ys->∃xs,d=.list xs/\(∀x,x∈xs->∃ds',x=.tup ds'/\ds'.length=ys.length)/\mE C f cs.caps ys ds xs
def abx {C:Ctx}{tab:Nat->Option PC}{ext:Nat->Option (aO->List D->Option D)}(h:TabOK C tab ext):∀n,dj C (cP tab ext n)/\gR C (cP tab ext n)
 |0=>⟨λf ds d e=>by simp[cP] at e,λf cs ys hc hi=>⟨(h.its f cs ys hc hi).2,λds d e=>by simp[cP] at e⟩⟩
 |n+1=>by
  obtain⟨ih,wJ⟩:=abx h n;refine⟨λf ds d e=>?_,λf cs ys hc hi=>⟨(h.its f cs ys hc hi).2,λds d e=>?_⟩⟩
  .simp only[cP] at e;split at e
   .rename_i g hg;exact(h.ext f g hg _ ih wJ ds d e).1
   .rename_i hx;split at e
    .rename_i pc ab;split at e
     .rename_i d' he;cases e;obtain⟨fn,s,ids,fr,nh,h1,h2,h3⟩:=h.tab f pc hx ab;intro s' eh;rw[h2] at eh;cases eh
      exact⟨λhm=>(Q6 (C:={C with fr:=fr,nh:=nh}) (dJ.hint h.clos) (dj.hint ih) (gR.hint wJ) h1 h3 hm he).unhint,
       λshs obs hm=>(anq (C:={C with fr:=fr,nh:=nh}) (dJ.hint h.clos) (dj.hint ih) (gR.hint wJ) h1 h3 hm he).unhint⟩
     .cases e
    .cases e
  .simp only[cP] at e;split at e
   .rename_i g hg;exact(h.ext f g hg _ ih wJ ds d e).2 cs ys hc hi
   .rw[(h.its f cs ys hc hi).1] at e;cases e
def ak8 (Z:aO)(pc:PC)(J k:Nat)(ds xs:List D):Prop:=aa4 Z pc J ds xs/\∀x,x∈xs->∃ds',x=.tup ds'/\ds'.length=k
open Classical in
def wM (pc:PC)(J k:Nat)(spec:List D->List D):aO->List D->Option D:=λZ ds=>if ak8 Z pc J k ds (spec ds) then some (.list (spec ds)) else none
def aui {C:Ctx}{Z:aO}(bh:dJ C)(hΦ:dj C Z)(ef:gR C Z){f:Nat}{fn:Func}{cts ys:List Ty}{J k:Nat}{ids fr nh:List Nat}{pc:PC}(hf:C.P.funcs[f]?=some fn)(hc:∀yv,E8 {C with fr:=fr,nh:=nh,yv:=yv} fn cts ys J ids=some pc){spec:List D->List D}
 {ds:List D} {d:D} (h:wM pc J k spec Z ds=some d) (hk:k=ys.length):∃xs,d=.list xs/\(∀x,x∈xs->∃ds',x=.tup ds'/\ds'.length=ys.length)/\mE C f cts ys ds xs:=by
 unfold wM at h;split at h
 .rename_i hs;cases h;subst hk;exact⟨_,rfl,hs.2,(anr (C:={C with fr:=fr,nh:=nh}) (dJ.hint bh) (dj.hint hΦ) (gR.hint ef) hf hc hs.1).unhint⟩
 .cases h
def bI {α:Type}:List (Nat×α)->Nat->Option α
 |[],_=>none
 |x::l,f=>bif Nat.beq x.1 f then some x.2 else bI l f
def I6 {α:Type}(R:Nat->α->Prop):List (Nat×α)->Prop
 |[]=>True
 |x::l=>R x.1 x.2/\I6 R l
def GU {α:Type}{R:Nat->α->Prop}:∀{l:List (Nat×α)},I6 R l->∀f x,bI l f=some x->R f x
 |[],_,f,x,h=>by cases h
 |y::l,⟨h1,h2⟩,f,x,h=>by
  simp only[bI] at h;cases hb:Nat.beq y.1 f<;>simp only[hb,zyy,zyx] at h
  .exact GU h2 f x h
  .cases h;rw[<-df hb];exact h1
def XX (P:Program):List (Nat×Sig)->Bool
 |[]=>true
 |x::l=>(match P.funcs[x.1]? with|some fn=>fn.body.isSome&& !(fn.name== "runtime.NumGoroutine")|none=>false)&&XX P l
def akr {P:Program}:∀{l:List (Nat×Sig)},XX P l=true->∀f s,bI l f=some s->∃fn,P.funcs[f]?=some fn/\fn.body.isSome=true/\(fn.name== "runtime.NumGoroutine")=false
 |[],_,f,s,h=>by cases h
 |y::l,hl,f,s,h=>by
  simp only[XX,au] at hl;simp only[bI] at h;cases hb:Nat.beq y.1 f<;>simp only[hb,zyy,zyx] at h
  .exact akr hl.2 f s h
  .rw[<-df hb];have h1:=hl.1;split at h1
   .rename_i fn e;simp only[au,l6] at h1;exact⟨fn,e,h1.1,h1.2⟩
   .cases h1
def XJ (a b:Sig):Bool:=Ty.beqs a.args b.args&&Ty.beq a.res b.res&&(match a.mode,b.mode with|.dat,.dat=>true|_,_=>false)
def aAx {a b:Sig}(h:XJ a b=true):a=b:=by
 obtain⟨a1,a2,a3⟩:=a;obtain⟨b1,b2,b3⟩:=b;simp only[XJ,au] at h;rw[Ty.beqs_eq _ _ h.1.1,Ty.beq_eq _ _ h.1.2];cases a3<;>cases b3<;>first|rfl|(have:=h.2;cases this)
def IT (P:Program)(f:Nat):Bool:=match P.funcs[f]? with|some fn=>fn.body.isSome&& !(fn.name== "runtime.NumGoroutine")|none=>false
def aA8 {P:Program}{f:Nat}(h:IT P f=true):∃fn,P.funcs[f]?=some fn/\fn.body.isSome=true/\(fn.name== "runtime.NumGoroutine")=false:=by
 unfold IT at h;split at h
 .rename_i fn e;simp only[au,l6] at h;exact⟨fn,e,h.1,h.2⟩
 .cases h
def QU (P:Program)(sig:List (Nat×Sig))(pcs:List Nat):List (Nat×CSig)->Bool
 |[]=>true
 |x::l=>(match oO x.2.args x.2.res with
   |none=>(match bI sig x.1 with|some s=>XJ s ⟨x.2.args++x.2.caps,x.2.res,.dat⟩|none=>false)
   |some _=> !fK pcs x.1&&IT P x.1)&&QU P sig pcs l
def acg {P:Program}{sig:List (Nat×Sig)}{pcs:List Nat}:∀{l:List (Nat×CSig)},QU P sig pcs l=true->∀f cs,bI l f=some cs->
 (oO cs.args cs.res=none->bI sig f=some ⟨cs.args++cs.caps,cs.res,.dat⟩)/\∀ys,oO cs.args cs.res=some ys->fK pcs f=false/\IT P f=true
 |[],_,f,cs,h=>by cases h
 |x::l,hl,f,cs,h=>by
  simp only[QU,au] at hl;simp only[bI] at h;cases hb:Nat.beq x.1 f<;>simp only[hb,zyy,zyx] at h
  .exact acg hl.2 f cs h
  .cases h;rw[<-df hb];have h1:=hl.1;refine⟨λe=>?_,λys e=>?_⟩
   .rw[e] at h1;simp only at h1;split at h1
    .rename_i s hs;rw[hs,aAx h1]
    .cases h1
   .rw[e] at h1;simpa using h1
def afV {α:Type}:∀{l:List (Nat×α)} {f:Nat},fK (l.map (·.1)) f=false->bI l f=none
 |[],f,_=>rfl
 |x::l,f,h=>by
  simp only[iy,fK,List.any_cons,aaY] at h;simp only[bI];have hb:Nat.beq x.1 f=false:=by
   cases e:Nat.beq x.1 f
   .rfl
   .rw[aD e,lu] at h;cases h.1
  rw[hb];exact afV (l:=l) h.2
def alf (Z:aO)(pa pb:PC)(ds:List D)(d:D):Prop:=(∃N xs,pa.ev Z N (lF ds)=some (.ret (.list xs))/\xs≠[]/\d=.list xs)\/∃N,pb.ev Z N (lF ds)=some (.ret (.list []))/\d=.list []
open Classical in
def u9 (pa pb:PC)(spec:List D->D):aO->List D->Option D:=λZ ds=>if alf Z pa pb ds (spec ds) then some (spec ds) else none
def axu {C:Ctx}{Z:aO}(bh:dJ C)(hΦ:dj C Z)(ef:gR C Z){f:Nat}{fn:Func}{args:List Ty}{e:Ty}{ids at3 fr nh frb nhb:List Nat}{pa pb:PC}(hf:C.P.funcs[f]?=some fn)(ha:mQ {C with fr:=fr,nh:=nh} fn ⟨args,.slice e,.dat⟩ ids=some pa)
 (hb:mQ {C with fr:=frb,nh:=nhb} fn ⟨args,.nils .bool,.dat⟩ at3=some pb) {spec:List D->D} {ds:List D} {d:D} (h:u9 pa pb spec Z ds=some d):iP C f ⟨args,.nsl e,.dat⟩ ds d:=by
 unfold u9 at h;split at h
 case isFalse=>cases h
 rename_i hs;cases h;rcases hs with⟨N,xs,h1,h2,h3⟩|⟨N,h1,h2⟩
 .rw[h3];have:=(Q6 (C:={C with fr:=fr,nh:=nh}) (dJ.hint bh) (dj.hint hΦ) (gR.hint ef) hf ha (N:=N) rfl h1).unhint;intro V w aa ax hC ju;refine(this V w aa ax hC ju).mono λen w' hh=>?_;obtain⟨v,V',g1,g2,g3,g4,g5,g6,g7⟩:=hh;refine⟨v,V',g1,g2,g3,g4,g5,g6,?_⟩;change Rep C.cap V' (.slice e) v (.list xs) at g7;show Rep C.cap V' (.nsl e) v (.list xs);generalize hd:D.list xs=dd at g7;cases g7 with
  |nil=>injection hd with hd;exact absurd hd h2
  |emp=>injection hd with hd;exact absurd hd h2
  |slice _ k o n c fu vs a1 a2 a3 a4 a5 a6=>exact .nsl e k o n c fu (.slice e k o n c fu vs a1 a2 a3 a4 a5 a6) (by injection hd with hd;rw[<-hd];exact h2)
 .rw[h2];have:=(Q6 (C:={C with fr:=frb,nh:=nhb}) (dJ.hint bh) (dj.hint hΦ) (gR.hint ef) hf hb (N:=N) rfl h1).unhint;intro V w aa ax hC ju;refine(this V w aa ax hC ju).mono λen w' hh=>?_;obtain⟨v,V',g1,g2,g3,g4,g5,g6,g7⟩:=hh;refine⟨v,V',g1,g2,g3,g4,g5,g6,?_⟩;change Rep C.cap V' (.nils .bool) v (.list []) at g7;show Rep C.cap V' (.nsl e) v (.list []);generalize D.list []=dd at g7;cases g7;exact .nsl0 e
end Cx
namespace Cx
open Go Go.RowKit Go.ChangeShapes Go.WideShapes
def lQ (w:World):Im:=
 ⟨λk o=>bif Nat.ble k 2|| !w.frozen? ⟨k,o,none⟩ then w.cell? ⟨k,o,none⟩ else none,λk=>match w.heap[k]? with|some (.cells _ _ _)=>some mB|_=>none⟩
def at5 (w:World):(lQ w).ok w:=by
 refine⟨λk o v h=>?_,λk es h=>?_,λk o v h=>?_⟩
 case refine_2=>
  change (match w.heap[k]? with|some (.cells _ _ _)=>some mB|_=>none)=_ at h;split at h
  .rename_i cs T fz e;cases h;exact .inr (.inr ⟨rfl,cs,T,fz,e⟩)
  .cases h
 all_goals change (bif Nat.ble k 2|| !w.frozen? ⟨k,o,none⟩ then w.cell? ⟨k,o,none⟩ else none)=_ at h
 all_goals cases hb:(Nat.ble k 2|| !w.frozen? ⟨k,o,none⟩)<;>rw[hb] at h
 .cases h
 .exact h
 .cases h
 .rw[j5] at hb;exact hb.imp lx (by simp)
def afg {w:World}{k o:Nat}{v:Value}(h:w.cell? ⟨k,o,none⟩=some v):(lQ w).m k=some mB:=by
 change (match w.heap[k]? with|some (.cells _ _ _)=>some mB|_=>none)=_;unfold World.cell? at h;cases hk:w.heap[k]? with
 |none=>simp[hk] at h
 |some ob=>cases ob<;>simp_all
def aff {w:World}{k o:Nat}{v:Value}(h:w.cell? ⟨k,o,none⟩=some v)(hz:k<=2\/w.frozen? ⟨k,o,none⟩=false):(lQ w).c k o=some v:=by
 change (bif Nat.ble k 2|| !w.frozen? ⟨k,o,none⟩ then w.cell? ⟨k,o,none⟩ else none)=_;rcases hz with hz|hz
 .have e:Nat.ble k 2=true:=Nat.ble_eq_true_of_le hz;rw[e];exact h
 .rw[hz];simpa using h
def DW (P:Program)(r:TypeId->Option Ty):List Field->Nat->Option (List Ty)
 |[],_=>some []
 |f::fs,off=>(r f.type).bind λft=>
  bif Nat.beq f.offset off&&Nat.beq (P.cellsOf f.type) ft.flat.length then(DW P r fs (off+ft.flat.length)).map (ft.flat++·) else none
def gJ (P:Program):Nat->TypeId->Option Ty
 |0,_=>none
 |n+1,t=>
  match P.underlying t with
  |some .bool=>some .bool
  |some (.int k)=>some (.int k)
  |some .string=>some .str
  |some (.slice e)=>bif uX P e then some (.slice .trm) else(gJ P n e).bind λte=>bif Nat.beq (P.cellsOf e) te.flat.length&&Nat.ble 1 te.flat.length then some (.slice te) else none
  |some (.struct fs)=>(DW P (gJ P n) fs.toList 0).bind λts=>bif Nat.beq (P.cellsOf t) ts.length then some (.agg ts) else none
  |_=>none
def aug {P:Program}{e:TypeId}(h:uX P e=true)(n:Nat):gJ P (n+2) e=some .trmA/\P.cellsOf e=3:=by
 unfold uX at h;split at h
 case h_2=>cases h
 rename_i fs hu;split at h
 case h_2=>cases h
 rename_i f0 f1 f2 rk;simp only[au] at h;obtain⟨⟨⟨⟨⟨⟨⟨⟨⟨h0,h1⟩,h2⟩,o0⟩,o1⟩,o2⟩,c0⟩,c1⟩,c2⟩,c3⟩:=h;split at h0
 case h_2=>cases h0
 rename_i u0;split at h1
 case h_2=>cases h1
 rename_i u1;split at h2
 case h_2=>cases h2
 rename_i e' u2;obtain rfl:=aD h2;have r0:gJ P (n+1) f0.type=some (.int .i64):=by simp[gJ,u0]
 have r1:gJ P (n+1) f1.type=some (.int .i64):=by simp[gJ,u1]
 have ht:uX P e'=true:=by
  unfold uX;rw[hu];simp only[rk];simp[u0,u1,u2,aD o0,aD o1,aD o2,aD c0,aD c1,aD c2,aD c3]
 have r2:gJ P (n+1) f2.type=some (.slice .trm):=by simp[gJ,u2,ht]
 refine⟨?_,aD c3⟩;show gJ P (n+1+1) e'=_;rw[gJ,hu];simp only[rk,DW,r0,r1,r2,sB,Ty.flat,px,A2,o0,c0,Bool.and_self,zyy];simp[aD o1,aD o2,aD c1,aD c2,aD c3,Ty.trmA]
def Xp {P:Program}{n:Nat}{t:TypeId}{ty:Ty}(h:gJ P n t=some ty):ty.rowT=true\/ty.one=true:=by
 cases n with
 |zero=>simp[gJ] at h
 |succ n=>
  simp only[gJ] at h;split at h
  .cases h;exact .inr rfl
  .cases h;exact .inr rfl
  .cases h;exact .inr rfl
  .rename_i e _;cases ht:uX P e<;>simp only[ht,zyy,zyx] at h
   .simp only[az] at h;obtain⟨te,_,h⟩:=h;cases hb:(Nat.beq (P.cellsOf e) te.flat.length&&Nat.ble 1 te.flat.length)<;>simp only[hb,zyy,zyx] at h
    .cases h
    .cases h;exact .inr rfl
   .cases h;exact .inr rfl
  .rename_i fs _;simp only[az] at h;obtain⟨ts,_,h⟩:=h;cases hb:Nat.beq (P.cellsOf t) ts.length<;>simp only[hb,zyy,zyx] at h
   .cases h
   .cases h;exact .inl rfl
  .cases h
def nK (cap:Nat->Option CSig)(V:Im)(ts:List Ty)(cs:List Value)(ds:List D):Prop:=
 cs.length=ts.length/\ds.length=ts.length/\∀(i:Nat) (u:Ty),ts[i]?=some u->Rep cap V u (cs.getD i undef) (ds.getD i .none)/\u.one=true
def nK.one {cap:Nat->Option CSig}{V:Im}{t:Ty}{v:Value}{d:D}(h:Rep cap V t v d)(ht:t.one=true):nK cap V [t] [v] [d]:=
 ⟨rfl,rfl,λi u hu=>by
   cases i with
   |zero=>simp at hu;subst hu;exact⟨h,ht⟩
   |succ i=>simp at hu⟩
def nK.append {cap:Nat->Option CSig}{V:Im}{ts us:List Ty}{cs vs:List Value}{ds es:List D}(h:nK cap V ts cs ds)(k:nK cap V us vs es):nK cap V (ts++us) (cs++vs) (ds++es):=by
 obtain⟨h1,h2,h3⟩:=h;obtain⟨k1,k2,k3⟩:=k;refine⟨by simp[h1,k1],by simp[h2,k2],λi u hu=>?_⟩;by_cases hi:i<ts.length
 .rw[nH hi] at hu;have:=h3 i u hu;rw[aH,aH,nH (by omega),nH (by omega)];rw[aH,aH] at this;exact this
 .rw[nI (by omega)] at hu;have:=k3 _ u hu;rw[aH,aH,nI (by omega),nI (by omega),h1,h2];rw[aH,aH] at this;exact this
def acB (ag:Bool)(ds:List D):D:=if ag then .agg ds else ds.getD 0 .none
def apo (t:Ty):t.flat.length=t.size:=by cases t<;>rfl
def Rep.ofRow {cap:Nat->Option CSig}{V:Im}{t:Ty}{cs:List Value}{ds:List D}(je:t.rowT=true\/t.one=true)(h:nK cap V t.flat cs ds):Rep cap V t (Cx.rowOf t.rowT cs) (acB t.rowT ds):=by
 obtain⟨h1,h2,h3⟩:=h;cases t with
 |agg ts=>exact .agg ts cs ds h1 h2 (λi u hu=>(h3 i u hu).1) (λi u hu=>(h3 i u hu).2)
 |trm=>simp[Ty.rowT,Ty.one] at je
 |_=>exact(h3 0 _ rfl).1
def az8 {cap:Nat->Option CSig}{V:Im}{t:Ty}{cs:List Value}{ds:List D}(je:t.rowT=true\/t.one=true)(h:nK cap V t.flat cs ds){j:Nat}{u:Value}(hj:(rowOf t.rowT cs).cells[j]?=some u):cs[j]?=some u:=by
 obtain⟨h1,h2,h3⟩:=h;cases t with
 |agg ts=>simpa [rowOf,Ty.rowT,Value.cells] using hj
 |trm=>simp[Ty.rowT,Ty.one] at je
 |_=>
  have h4:=h3 0 _ rfl;have h5:=(h4.1.oneCell h4.2).1;simp only[rowOf,Ty.rowT,AT,if_false] at hj;rw[h5] at hj;cases j with
  |zero=>
   simp only[xT,PG,bj] at hj
   match cs,h1 with
   |[c],_=>simpa using hj
  |succ j=>simp at hj
section
variable {zzt:Type} {enc:TypeId×Value->zzt} {P:Program} {w:World} {base:Nat} {held:Bool} {cap:Nat->Option CSig}
def akI {k:IntKind}{n:Int}(h:(Lit.int k n).wf=true):k.min<=n/\n<=k.max:=by
 simpa [Lit.wf] using h
def ajN {n m:Nat}(ih:∀(t:TypeId) (cs:List Value) (x:DataW zzt×List MemPlace) (ty:Ty),DataW.trod enc P w base (λ_=>true) held n t cs=some x->w.noneFrozen x.2->gJ P m t=some ty->∃ds,nK cap (lQ w) ty.flat cs ds):
 ∀(fs:List Field) (off:Nat) (cs:List Value) (ts:List Ty),DW P (gJ P m) fs off=some ts->cs.length=off+ts.length->
  (∀f,f∈fs->∃x,DataW.trod enc P w base (λ_=>true) held n f.type ((cs.drop f.offset).take (P.cellsOf f.type))=some x/\w.noneFrozen x.2)->∃ds,nK cap (lQ w) ts (cs.drop off) ds
 |[],off,cs,ts,h,hl,_=>by
  simp only[DW,bj] at h;subst h;have:cs.drop off=[]:=by simp at hl ⊢;omega
  rw[this];exact⟨[],rfl,rfl,λi u hu=>by simp at hu⟩
 |f::fs,off,cs,ts,h,hl,hx=>by
  simp only[DW,az] at h;obtain⟨ft,hft,h⟩:=h;cases hb:(Nat.beq f.offset off&&Nat.beq (P.cellsOf f.type) ft.flat.length)<;>simp only[hb,zyy,zyx] at h
  .cases h
  simp only[aB] at h;obtain⟨us,hus,rfl⟩:=h;simp only[au] at hb;have e1:=df hb.1;have e2:=df hb.2;obtain⟨x,kU,pW⟩:=hx f (fQ ..);rw[e1,e2] at kU;obtain⟨Rf,kS⟩:=ih _ _ _ _ kU pW hft;simp only[mG] at hl;obtain⟨ds2,ng⟩:=ajN ih fs (off+ft.flat.length) cs us hus (by omega) λg hg=>hx g (fy _ hg);refine⟨Rf++ds2,?_⟩;have:=kS.append ng;rw[<-List.drop_drop,Jj] at this;exact this
def aDT:∀(n m:Nat) (t:TypeId) (cs:List Value) (x:DataW zzt×List MemPlace) (ty:Ty),DataW.trod enc P w base (λ_=>true) held n t cs=some x->w.noneFrozen x.2->gJ P m t=some ty->∃ds,nK cap (lQ w) ty.flat cs ds:=by
 intro n
 induction n with
 |zero=>intro m t cs x ty h;simp[DataW.trod] at h
 |succ n ih=>
  intro m t cs x ty h hz br;cases m with
  |zero=>simp[gJ] at br
  |succ m=>
   simp only[gJ] at br;split at br
   .rename_i hu;cases br;obtain⟨b,rfl,_⟩:=DataW.trod_bool hu h;exact⟨_,.one (.bool b) rfl⟩
   .rename_i k hu;cases br;obtain⟨z,rfl,_,hw⟩:=DataW.trod_int hu h;exact⟨_,.one (.int k z (akI hw).1 (akI hw).2) rfl⟩
   .rename_i hu;cases br;obtain⟨s,rfl,_,hs⟩:=DataW.trod_string hu h;exact⟨_,.one (.str s hs) rfl⟩
   .rename_i e hu;have zu:∃(m':Nat) (te AI:Ty),gJ P m' e=some te/\P.cellsOf e=te.flat.length/\1<=te.flat.length/\ty=.slice AI/\AI.unf=te:=by
     cases ht:uX P e<;>simp only[ht,zyy,zyx] at br
     .simp only[az] at br;obtain⟨te,zu,br⟩:=br;cases hb:(Nat.beq (P.cellsOf e) te.flat.length&&Nat.ble 1 te.flat.length)<;>simp only[hb,zyy,zyx] at br
      .cases br
      cases br;simp only[au] at hb;exact⟨m,te,te,zu,df hb.1,lx hb.2,rfl,Ty.unf_ro (Xp zu)⟩
     .cases br;obtain⟨k1,k2⟩:=aug ht 0;exact⟨2,.trmA,.trm,k1,k2,by decide,rfl,rfl⟩
    obtain⟨m',te,AI,zu,e1,e2,rfl,mi⟩:=zu;have je:=Xp zu;rcases DataW.trod_slice hu h with⟨rfl,_⟩|⟨a,len,cp,elems,rest,n',me,rfl,Ms,hba,hl,hm,hlen,de,wA,_⟩
    .exact⟨_,.one (.nil AI) rfl⟩
    .cases me;obtain⟨hrl,tw⟩:=wA rfl
     have mV:∀i,i<cp->∃ci y,w.cells? base (a.add (i*P.cellsOf e)) (P.cellsOf e)=some ci/\DataW.trod enc P w base (λ_=>true) held n e ci=some y/\y∈elems++rest:=by
      intro i hi
      have fE:∃y,(w.cells? base (a.add (i*P.cellsOf e)) (P.cellsOf e)).bind (DataW.trod enc P w base (λ_=>true) held n e)=some y/\y∈elems++rest:=by
           by_cases L4:i<len
           .rw[de i L4];exact⟨_,aY (by omega),jr _ (bQ _)⟩
           .have:=tw (i-len) (by omega);rw[show len+(i-len)=i by omega] at this;rw[this];exact⟨_,aY (by omega),jG _ (bQ _)⟩
      obtain⟨y,hy,TB⟩:=fE;rw[az] at hy;obtain⟨ci,h1,h2⟩:=hy;exact⟨ci,y,h1,h2,TB⟩
     by_cases FN:cp=0
     .subst FN;have:len=0:=by omega
      subst this;exact⟨_,.one (.emp AI a) rfl⟩
     .have aeW:a.spot=none:=by
           obtain⟨ci,y,h1,_⟩:=mV 0 (by omega);obtain⟨_,_,h3⟩:=World.cells?_some h1;have:=h3 0 (by omega);simp only[Nat.zero_mul,Addr.add,if_true] at this;unfold World.cell? at this;cases hs:a.spot with
           |none=>rfl
           |some s=>
            exfalso;have hl:ci.length=P.cellsOf e:=(World.cells?_some h1).2.1;split at this
            .rw[hs] at this;simp at this;subst this;simp at hl;omega
            .rw[eq_comm,List.getElem?_eq_none_iff] at this;omega
      obtain⟨k,o,s⟩:=a;simp only at aeW;subst aeW;have aP:∀i,∃p:List Value×List D,i<len->w.cells? base ((⟨k,o,none⟩:Addr).add (i*P.cellsOf e)) (P.cellsOf e)=some p.1/\nK cap (lQ w) te.flat p.1 p.2:=by
           intro i;by_cases hi:i<len
           .obtain⟨ci,y,h1,h2,TB⟩:=mV i (by omega);obtain⟨ds,hr⟩:=ih m' _ _ _ _ h2 (λb off hp=>hz b off (by rw[Ms];exact jG _ (xV.2 ⟨y,TB,hp⟩))) zu;exact⟨(ci,ds),λ_=>⟨h1,hr⟩⟩
           .exact⟨([],[]),λh=>absurd h hi⟩
      obtain⟨f,hf⟩:=Classical.axiomOfChoice aP;have wq:(lQ w).m k=some mB:=by
           obtain⟨ci,y,h1,_⟩:=mV 0 (by omega);obtain⟨_,h4,h5⟩:=World.cells?_some h1;have h6:=h5 0 (by omega);rw[aY (by omega)] at h6;simp only[Nat.zero_mul,Addr.add,if_true] at h6;exact afg h6
      refine⟨_,.one (.slice AI k o len cp ((List.range len).map λi=>acB te.rowT (f i).2) (λi=>rowOf te.rowT (f i).1) (by simp) hl hm (λi x hx=>?_) (λi j u hi hj=>?_) (λ_=>wq)) rfl⟩
      .rw[cq,aB] at hx;obtain⟨i',dB,rfl⟩:=hx;have af:i<len:=by have:=(eO.1 dB).1;simpa using this
       rw[sy af] at dB;cases dB;rw[mi];exact Rep.ofRow je (hf i af).2
      .obtain⟨h1,h2⟩:=hf i hi;have cI:=az8 je h2 hj;obtain⟨_,h4,h5⟩:=World.cells?_some h1;have ia:j<P.cellsOf e:=by rw[<-h4];exact(eO.1 cI).1
       have:=h5 j ia;rw[cI] at this;have cg:i*P.cellsOf e+j<(elems.length+rest.length)*P.cellsOf e:=by
           have h6:(i+1)*P.cellsOf e<=(elems.length+rest.length)*P.cellsOf e:=kc _ (by omega);rw[Nat.succ_mul] at h6;omega
       have C5:=hz k (o+(i*P.cellsOf e+j)) (by rw[Ms];exact jr _ (MemPlace.mem_row.2 ⟨_,cg,rfl⟩));rw[<-AI.unf_size,mi,<-apo,<-e1,sA];refine aff ?_ (.inr C5);rw[<-this]
       congr 1
       simp only[Addr.add];split<;>split<;>simp_all<;>omega
   .rename_i fs hu;simp only[az] at br;obtain⟨ts,C0,br⟩:=br;cases hb:Nat.beq (P.cellsOf t) ts.length<;>simp only[hb,zyy,zyx] at br
    .cases br
    cases br;obtain⟨xs,n',me,Ms,hl,zB,hf⟩:=DataW.trod_struct hu h;cases me
    have:=ajN (ih m) fs.toList 0 cs ts C0 (by rw[hl,df hb];omega) (λf hm=>by
     obtain⟨i,hi⟩:=A1 hm;have dB:fs[i]?=some f:=by simpa using hi
     have h1:=hf i f dB;have af:i<fs.size:=(eA.1 dB).1;exact⟨_,h1.trans (aY (by omega)),λb off hp=>hz b off (by rw[Ms];exact xV.2 ⟨_,bQ (by omega),hp⟩)⟩)
    show ∃ds,nK cap (lQ w) ts cs ds;simpa using this
   .cases br
def E0 {base:Nat}{t:TypeId}{v:Value}(h:Cell.okWide P w .any base t v):v.cells=#[v]:=by
 cases v<;>first|rfl|(exfalso;simp only[Cell.okWide,Cell.ok] at h;revert h;cases P.underlying t with|none=>simp|some T=>cases T<;>simp)
def alL {base base':Nat}{m:Nat}{t:TypeId}{v:Value}{d:DataW zzt}{ps:List MemPlace}{ty:Ty}(ax:Value.okWide P w .any base' t v)(h:DataW.Trod enc P w base (λ_=>true) held t v d ps)(hz:w.noneFrozen ps)(br:gJ P m t=some ty):∃d,Rep cap (lQ w) ty v d:=by
 obtain⟨fuel,h⟩:=h;obtain⟨ds,hr⟩:=aDT (cap:=cap) fuel m t _ _ _ h hz br;have bK:=Rep.ofRow (Xp br) hr;cases m with
 |zero=>simp[gJ] at br
 |succ m=>
  suffices hs:rowOf ty.rowT v.cells.toList=v by rw[hs] at bK;exact⟨_,bK⟩
  simp only[gJ] at br;unfold Value.okWide at ax;split at br
  .rename_i hu;cases br;rw[hu] at ax;simp only at ax;rw[E0 ax];rfl
  .rename_i hu;cases br;rw[hu] at ax;simp only at ax;rw[E0 ax];rfl
  .rename_i hu;cases br;rw[hu] at ax;simp only at ax;rw[E0 ax];rfl
  .rename_i e hu;cases ht:uX P e<;>simp only[ht,zyy,zyx] at br
   .simp only[az] at br;obtain⟨te,_,br⟩:=br;cases hb:(Nat.beq (P.cellsOf e) te.flat.length&&Nat.ble 1 te.flat.length)<;>simp only[hb,zyy,zyx] at br
    .cases br
    cases br;rw[hu] at ax;simp only at ax;rw[E0 ax];rfl
   .cases br;rw[hu] at ax;simp only at ax;rw[E0 ax];rfl
  .rename_i fs hu;simp only[az] at br;obtain⟨ts,_,br⟩:=br;cases hb:Nat.beq (P.cellsOf t) ts.length<;>simp only[hb,zyy,zyx] at br
   .cases br
   cases br;rw[hu] at ax;obtain⟨cs,rfl,_⟩:=ax;simp[rowOf,Ty.rowT,Value.cells]
  .cases br
def IA (P:Program)(m:Nat):List TypeId->Option (List Ty)
 |[]=>some []
 |t::ts=>(gJ P m t).bind λx=>(IA P m ts).map (x::·)
def abH {base base' m:Nat}:∀(ts:List TypeId) (vs:List Value) (ds:List (DataW zzt)) (ps:List MemPlace) (fP:List Ty),DataW.TrodAll enc P w base (λ_=>true) held ts vs ds ps->w.noneFrozen ps->IA P m ts=some fP->
 (∀(j:Nat) t v,ts[j]?=some t->vs[j]?=some v->Value.okWide P w .any base' t v)->
 ∃es:List D,vs.length=fP.length/\es.length=fP.length/\∀(i:Nat) (t:Ty),fP[i]?=some t->Rep cap (lQ w) t (vs.getD i undef) (es.getD i .none)
 |[],vs,ds,ps,fP,h,hz,br,_=>by
  simp only[IA,bj] at br;subst br;cases vs with
  |nil=>exact⟨[],rfl,rfl,λi t h=>by simp at h⟩
  |cons=>cases ds<;>exact h.elim
 |t::ts,vs,ds,ps,fP,h,hz,br,ax=>by
  simp only[IA,az,aB] at br;obtain⟨ty,atI,aDX,atJ,rfl⟩:=br;cases vs with
  |nil=>cases ds<;>exact h.elim
  |cons v vs=>
   cases ds with
   |nil=>exact h.elim
   |cons d ds=>
    obtain⟨p,q,h1,h2,hpq⟩:=h;obtain⟨e,he⟩:=alL (cap:=cap) (ax 0 t v rfl rfl) h1 (λb off hp=>hz b off (by rw[hpq];exact jr _ hp)) atI;obtain⟨es,k1,k2,k3⟩:=abH ts vs ds q aDX h2 (λb off hp=>hz b off (by rw[hpq];exact jG _ hp)) atJ (λj t' v' hj hv=>ax (j+1) t' v' hj hv);refine⟨e::es,by simp[k1],by simp[k2],λi u hu=>?_⟩;cases i with
    |zero=>simp at hu;subst hu;exact he
    |succ i=>simpa using k3 i u (by simpa using hu)
end
mutual
inductive DTy:Ty->D->Prop where
 |int (k:IntKind) (n:Int) (h1:k.min<=n) (h2:n<=k.max):DTy (.int k) (.v (.int k n))
 |bool (b:Bool):DTy .bool (.v (.bool b))
 |str (s:ByteArray) (h:s.size<=maxLen):DTy .str (.v (.string s))
 |slice (e:Ty) (xs:List D) (hm:xs.length<=maxLen) (h:∀x,x∈xs->DTy e.unf x):DTy (.slice e) (.list xs)
 |agg (ts:List Ty) (ds:List D) (h:DTys ts ds):DTy (.agg ts) (.agg ds)
 |other (t:Ty) (d:D) (h:match t with|.int _|.bool|.str|.slice _|.agg _=>False|_=>True):DTy t d
inductive DTys:List Ty->List D->Prop where
 |nil:DTys [] []
 |cons {t:Ty} {d:D} {ts:List Ty} {ds:List D} (h:DTy t d) (hs:DTys ts ds):DTys (t::ts) (d::ds)
end
def DTys.of_get:∀{ts:List Ty} {ds:List D},ds.length=ts.length->(∀(i:Nat) (t:Ty),ts[i]?=some t->DTy t (ds.getD i .none))->DTys ts ds
 |[],[],_,_=>.nil
 |t::ts,d::ds,hl,h=>.cons (h 0 t rfl) (DTys.of_get (by simpa using hl) λi u hu=>by simpa using h (i+1) u (by simpa using hu))
 |[],_::_,hl,_=>by simp at hl
 |_::_,[],hl,_=>by simp at hl
def Rep.dty {cap:Nat->Option CSig}{V:Im}{t:Ty}{v:Value}{d:D}(h:Rep cap V t v d):DTy t d:=by
 induction h with
 |int k n h1 h2=>exact .int k n h1 h2
 |bool b=>exact .bool b
 |str s h=>exact .str s h
 |agg ts vs ds h1 h2 _ ho ih=>exact .agg ts ds (.of_get h2 ih)
 |nil e=>exact .slice e [] (by decide) (λx hx=>by cases hx)
 |emp e a=>exact .slice e [] (by decide) (λx hx=>by cases hx)
 |slice e k o n c xs vs hn hc hm _ hv _ ih=>
  refine .slice e xs (by omega) λx hx=>?_;obtain⟨i,hi⟩:=A1 hx;exact ih i x hi
 |_=>exact .other _ _ trivial
def auu {zzt:Type}{enc:TypeId×Value->zzt}{C:Ctx}{f:Nat}{fn:Func}{sg:Sig}{spec:ChangeSpec}{tb:TypeId}{apart fresh handsOn again:Bool}(hl:laidOutB C.P=true)
 (lN:IA C.P 12 fn.params.toList=some sg.args) (ata:fn.params.toList.all (λt=>C.P.readableRec t&&decide (t<C.P.types.size))=true) (Tp:spec.vars=[])
 (atr:∀ds:List (DataW zzt),ds.length=fn.params.size->(spec.fn zzt ds).results=[.lit (.bool true)]/\(spec.fn zzt ds).args=ds/\(spec.fn zzt ds).vars=[])
 (ky:fn.resultTypes=#[tb]) (Mp:C.P.underlying tb=some .bool) (oF:sg.mode=.dat) (wy:sg.res=.bool)
 (Su:∀ds,DTys sg.args ds->iP C f sg ds (.v (.bool true)))
 (W:World) (s9:CtxOK C (lQ W)) (base:Nat) (args:Array Value) (ds gs:List (DataW zzt)) (before:List MemPlace)
 (cD:∀(j:Nat) t v,fn.params[j]?=some t->args[j]?=some v->Value.okWide C.P W .any base t v)
 (hW:DataW.Whole enc C.P fn.params.toList spec.vars apart W args.toList ds gs before):
 Calls C.P f args W λe W'=>∃v,e=.returned v/\spec.post enc C.P fn apart fresh handsOn again W args v W':=by
 have LJ:=hW;have af:∀p∈before,p.block<W.heap.size:=λp hp=>LJ.lt p hp;obtain⟨p,q,hA,hV,rfl,CJ,bp⟩:=hW;rw[Tp] at hV;obtain⟨rfl,rfl⟩:=trodVars_none hV;obtain⟨es,k1,k2,k3⟩:=abH (cap:=C.cap) (base':=base) fn.params.toList args.toList ds p sg.args hA (λb off hp=>CJ b off (by simpa using hp)) lN (λj t v hj hv=>cD j t v (by simpa using hj) (by simpa using hv));have br:DTys sg.args es:=.of_get k2 λi t ht=>(k3 i t ht).dty
 have hlen:∀(ts:List TypeId) (vs:List Value) (ds:List (DataW zzt)) (ps:List MemPlace),DataW.TrodAll enc C.P W 0 (λ_=>true) true ts vs ds ps->ds.length=ts.length:=by
  intro ts
  induction ts with
  |nil=>intro vs ds ps h;cases vs<;>cases ds<;>first|rfl|exact h.elim
  |cons t ts ih=>
   intro vs ds ps h;cases vs with
   |nil=>cases ds<;>exact h.elim
   |cons v vs=>cases ds with
    |nil=>exact h.elim
    |cons d ds=>obtain⟨p,q,_,h2,_⟩:=h;simp[ih vs ds q h2]
 have FQ:ds.length=fn.params.size:=by simpa using hlen _ _ _ _ hA
 obtain⟨s1,s2,s3⟩:=atr (ds++[]) (by simpa using FQ);refine(Su es br (lQ W) W args (at5 W) s9 ⟨k1,k2,k3⟩).mono λe W' hh=>?_;obtain⟨v,V',rfl,_,_,hb,_,_,hr⟩:=hh;refine⟨v,rfl,?_⟩;simp only[nL,oF,wy] at hr;obtain⟨b,rfl,y6⟩:=hr.bool_inv;cases y6
 have stays:∀(sp:Nat->Bool) (ts:List TypeId) (vs:List Value) (ds:List (DataW zzt)) (ps:List MemPlace),ts.all (λt=>C.P.readableRec t&&decide (t<C.P.types.size))=true->(∀x∈ps,x.block<W.heap.size)->(∀x∈ps,sp x.block=true)->
  DataW.TrodAll enc C.P W 0 (λ_=>true) true ts vs ds ps->DataW.TrodAll enc C.P W' 0 sp true ts vs ds ps:=by
  intro sp ts
  induction ts with
  |nil=>intro vs ds ps _ _ _ h;cases vs<;>cases ds<;>first|exact h|exact h.elim
  |cons t ts ih=>
   intro vs ds ps ha wv wA h;cases vs with
   |nil=>cases ds<;>exact h.elim
   |cons v vs=>cases ds with
    |nil=>exact h.elim
    |cons d ds=>
     obtain⟨p,q,h1,h2,rfl⟩:=h;simp only[sv,au,decide_eq_true_eq] at ha
     exact⟨p,q,WideElems.Trod_stays hl ha.1.1 ha.1.2 h1 (λx hx=>hb.same (wv x (jr _ hx))) (λx hx=>wA x (jr _ hx)),
      ih vs ds q (by simpa using ha.2) (λx hx=>wv x (jG _ hx)) (λx hx=>wA x (jG _ hx)) h2,rfl⟩
 have aez:∀x∈p,x.block<W.heap.size:=λx hx=>af x (jr _ hx);have ju:=λsp (h:∀x∈p,sp x.block=true)=>stays sp _ _ _ _ ata aez h hA;have tw:∀(b:Nat) (sp:Nat->Bool) (hd:Bool),DataW.TrodAll enc C.P W' b sp hd fn.resultTypes.toList ((Value.bool true).resultList fn.resultTypes.size) [.lit (.bool true)] []:=by
  intro b sp hd;rw[ky];exact trodAll_mk1 (shut_bool Mp true)
 refine⟨ds,[],p++[],[],p,[],LJ,?_,?_,?_,World.keptBut_mono (λx hx=>⟨hx,?_⟩) (hb.frame (·∈p++[])),λ_=>?_⟩
 .rw[s1];exact tw _ _ _
 .rw[s2];simpa using ju _ (λx hx=>by simpa using aez x hx)
 .rw[s3,Tp];rfl
 .simpa using hx
 .refine⟨ok_one ky rfl (okWide_bool_mk Mp true),_,[],([]++p)++[],⟨[]++p,[],trodAll_append (ju _ (λ_ _=>rfl)) (tw _ _ _),by rw[Tp];exact rfl,rfl,?_,?_⟩,?_⟩
  .intro b off hp;have cg:MemPlace.cell b off∈p++[]:=by simpa using hp
   rw[hb.frozen (af _ cg)];exact CJ b off cg
  .intro ha;simpa using bp ha
  .intro x hx _;simpa using hx
end Cx
namespace Cx
open Go Go.RowKit
abbrev cH:=Nat->aO
def aj (T:cH)(f:Nat)(ds:List D)(d:D):Prop:=∃n0,∀n,n0<=n->T n f ds=some d
def AW (T:cH)(l:List PI)(O:Env)(Q:Env->Prop):Prop:=∃O',Q O'/\∃n0,∀n,n0<=n->PI.runs (T n) l O=some O'
def aK (T:cH)(c:PC)(O:Env)(Q:Out->Prop):Prop:=∃x,Q x/\∃n0,∀n,n0<=n->c.ev (T n) n O=some x
def aK.mono {T:cH}{c:PC}{O:Env}{Q Q':Out->Prop}(h:aK T c O Q)(hq:∀x,Q x->Q' x):aK T c O Q':=by
 obtain⟨x,hx,n0,hn⟩:=h;exact⟨x,hq x hx,n0,hn⟩
def AW.nil {T:cH}{O:Env}{Q:Env->Prop}(h:Q O):AW T [] O Q:=⟨O,h,0,λ_ _=>rfl⟩
def AW.cons {T:cH}{p:PI}{l:List PI}{O ρ1:Env}{Q:Env->Prop}{n0:Nat}(h:∀n,n0<=n->p.run (T n) O=some ρ1)(k:AW T l ρ1 Q):AW T (p::l) O Q:=by
 obtain⟨O',hQ,n1,h1⟩:=k;exact⟨O',hQ,max n0 n1,λn hn=>by simp[PI.runs,h n (by omega),h1 n (by omega)]⟩
def iO (T:cH):List PI->Env->(Env->Prop)->Prop
 |[],O,Q=>Q O
 |.setR t e::l,O,Q=>iO T l (O.setR t (e.ev O)) Q
 |.setO t e::l,O,Q=>iO T l (O.setO t (e.ev O)) Q
 |.chk e::l,O,Q=>(e.ev O).b=true/\iO T l O Q
 |.call gs dst f args::l,O,Q=>if holds gs O=true then ∃d,aj T f (PE.evs O args) d/\iO T l (O.setR dst d) Q else iO T l O Q
 |.callc gs dst e args::l,O,Q=>if holds gs O=true then ∃f caps d,e.ev O=.clo f caps/\aj T f (PE.evs O args++caps) d/\iO T l (O.setR dst d) Q else iO T l O Q
 |.mcall j f args::l,O,Q=>∃d,aj T f (PE.evs O args) d/\iO T l (O.setO j d) Q
def vz {T:cH}:∀{l:List PI} {O:Env} {Q:Env->Prop},iO T l O Q->AW T l O Q
 |[],O,Q,h=>.nil h
 |.setR t e::l,O,Q,h=>.cons (n0:=0) (λ_ _=>rfl) (vz h)
 |.setO t e::l,O,Q,h=>.cons (n0:=0) (λ_ _=>rfl) (vz h)
 |.chk e::l,O,Q,h=>.cons (n0:=0) (λn _=>by simp[PI.run,h.1]) (vz h.2)
 |.call gs dst f args::l,O,Q,h=>by
  unfold iO at h;split at h
  .rename_i hg;obtain⟨d,⟨n0,hn⟩,h⟩:=h;exact .cons (n0:=n0) (λn hle=>by simp[PI.run,hg,hn n hle]) (vz h)
  .rename_i hg;exact .cons (n0:=0) (λn hle=>by simp[PI.run,hg]) (vz h)
 |.callc gs dst e args::l,O,Q,h=>by
  unfold iO at h;split at h
  .rename_i hg;obtain⟨f,caps,d,he,⟨n0,hn⟩,h⟩:=h;exact .cons (n0:=n0) (λn hle=>by simp[PI.run,hg,he,hn n hle]) (vz h)
  .rename_i hg;exact .cons (n0:=0) (λn hle=>by simp[PI.run,hg]) (vz h)
 |.mcall j f args::l,O,Q,h=>by
  obtain⟨d,⟨n0,hn⟩,h⟩:=h;exact .cons (n0:=n0) (λn hle=>by simp[PI.run,hn n hle]) (vz h)
def lS (O:Env)(lr lo:List Nat)(Q:Out->Prop):Out->Prop
 |.next O'=>Q (.next (O.join lr lo O'))
 |x=>Q x
def mO (O:Env)(id:Nat)(lr lo:List Nat)(Q:Out->Prop):Out->Prop
 |.next O'=>Q (.next (O.join lr lo O'))
 |.exit bO O'=>if bO=id then Q (.next (O.join lr lo O')) else Q (.exit bO O')
 |.ret d=>Q (.ret d)
def gM (K:Env->Prop)(Q:Out->Prop):Out->Prop
 |.next O'=>K O'
 |.exit id O'=>Q (.exit id O')
 |.ret d=>Q (.ret d)
def aK.is {T:cH}{l:List PI}{O:Env}{Q:Out->Prop}(h:iO T l O λO'=>Q (.next O')):aK T (.is l) O Q:=by
 obtain⟨O',hQ,n0,hn⟩:=vz h;exact⟨.next O',hQ,n0,λn hle=>by simp[PC.ev,hn n hle]⟩
def aK.skip {T:cH}{O:Env}{Q:Out->Prop}(h:Q (.next O)):aK T .skip O Q:=⟨_,h,0,λ_ _=>rfl⟩
def aK.exit {T:cH}{O:Env}{id:Nat}{Q:Out->Prop}(h:Q (.exit id O)):aK T (.exit id) O Q:=⟨_,h,0,λ_ _=>rfl⟩
def aK.ret {T:cH}{O:Env}{e:PE}{Q:Out->Prop}(h:Q (.ret (e.ev O))):aK T (.ret e) O Q:=⟨_,h,0,λ_ _=>rfl⟩
def aK.seq {T:cH}{a b:PC}{O:Env}{Q:Out->Prop}(h:aK T a O (gM (λO'=>aK T b O' Q) Q)):aK T (.seq a b) O Q:=by
 obtain⟨x,hx,n0,hn⟩:=h;cases x with
 |next O'=>
  obtain⟨y,hy,n1,h1⟩:=hx;exact⟨y,hy,max n0 n1,λn hle=>by simp[PC.ev,hn n (by omega),h1 n (by omega)]⟩
 |exit id O'=>exact⟨_,hx,n0,λn hle=>by simp[PC.ev,hn n hle]⟩
 |ret d=>exact⟨_,hx,n0,λn hle=>by simp[PC.ev,hn n hle]⟩
def aK.ite {T:cH}{c:PE}{lr lo:List Nat}{a b:PC}{O:Env}{Q:Out->Prop}(h:if(c.ev O).b=true then aK T a O (lS O lr lo Q) else aK T b O (lS O lr lo Q)):aK T (.ite c lr lo a b) O Q:=by
 split at h
 all_goals
  rename_i hc;obtain⟨x,hx,n0,hn⟩:=h;cases x with
  |next O'=>exact⟨_,hx,n0,λn hle=>by simp[PC.ev,hc,hn n hle]⟩
  |exit id O'=>exact⟨_,hx,n0,λn hle=>by simp[PC.ev,hc,hn n hle]⟩
  |ret d=>exact⟨_,hx,n0,λn hle=>by simp[PC.ev,hc,hn n hle]⟩
def aK.block {T:cH}{id:Nat}{lr lo:List Nat}{a:PC}{O:Env}{Q:Out->Prop}(h:aK T a O (mO O id lr lo Q)):aK T (.block id lr lo a) O Q:=by
 obtain⟨x,hx,n0,hn⟩:=h;cases x with
 |next O'=>exact⟨_,hx,n0,λn hle=>by simp[PC.ev,hn n hle]⟩
 |exit bO O'=>
  simp only[mO] at hx;split at hx
  .rename_i e;subst e;exact⟨_,hx,n0,λn hle=>by simp[PC.ev,hn n hle]⟩
  .rename_i e;exact⟨_,hx,n0,λn hle=>by simp[PC.ev,hn n hle,fS e]⟩
 |ret d=>exact⟨_,hx,n0,λn hle=>by simp[PC.ev,hn n hle]⟩
def aK.loop {T:cH}{lr lo:List Nat}{a:PC}{O:Env}{Q:Out->Prop}{α:Type}(inv:α->List D->List D->Prop)(wV:α->Nat)(s0:α)(h0:inv s0 (lr.map O.r) (lo.map O.o))
 (step:∀s vr vo,inv s vr vo->aK T a (O.put lr vr lo vo) (gM (λO'=>∃s',wV s'<wV s/\inv s' (lr.map O'.r) (lo.map O'.o)) Q)):aK T (.loop lr lo a) O Q:=by
 have key:∀(m:Nat) (s:α) (vr vo:List D),wV s<=m->inv s vr vo->∃x,Q x/\∃n0,∀n k,n0<=n->n0<=k->fY (a.ev (T n) n) O lr lo k vr vo=some x:=by
  intro m
  induction m with
  |zero=>
   intro s vr vo hm hi;obtain⟨x,hx,n0,hn⟩:=step s vr vo hi;cases x with
   |next O'=>obtain⟨s',af,_⟩:=hx;omega
   |exit id O'=>
    refine⟨_,hx,n0+1,λn k hle hk=>?_⟩;obtain⟨k',rfl⟩:∃k',k=k'+1:=⟨k-1,by omega⟩
    simp[fY,hn n (by omega)]
   |ret d=>
    refine⟨_,hx,n0+1,λn k hle hk=>?_⟩;obtain⟨k',rfl⟩:∃k',k=k'+1:=⟨k-1,by omega⟩
    simp[fY,hn n (by omega)]
  |succ m ih=>
   intro s vr vo hm hi;obtain⟨x,hx,n0,hn⟩:=step s vr vo hi;cases x with
   |next O'=>
    obtain⟨s',af,dB⟩:=hx;obtain⟨y,hy,n1,h1⟩:=ih s' _ _ (by omega) dB;refine⟨y,hy,max n0 n1+1,λn k hle hk=>?_⟩;obtain⟨k',rfl⟩:∃k',k=k'+1:=⟨k-1,by omega⟩
    simp[fY,hn n (by omega),h1 n k' (by omega) (by omega)]
   |exit id O'=>
    refine⟨_,hx,n0+1,λn k hle hk=>?_⟩;obtain⟨k',rfl⟩:∃k',k=k'+1:=⟨k-1,by omega⟩
    simp[fY,hn n (by omega)]
   |ret d=>
    refine⟨_,hx,n0+1,λn k hle hk=>?_⟩;obtain⟨k',rfl⟩:∃k',k=k'+1:=⟨k-1,by omega⟩
    simp[fY,hn n (by omega)]
 obtain⟨x,hx,n0,hn⟩:=key (wV s0) s0 _ _ (aZ _) h0;exact⟨x,hx,n0,λn hle=>by simp only[PC.ev];exact hn n n hle hle⟩
def vT (O:Env)(lo:List Nat)(rt:Option PE)(K:List D->Prop)(Q:Out->Prop):Out->Prop
 |.next O'=>K (lo.map O'.o)
 |.exit id O'=>if id=cN then ∃e,rt=some e/\Q (.ret (e.ev (O.put [] [] lo (lo.map O'.o)))) else Q (.exit id (O.put [] [] lo (lo.map O'.o)))
 |.ret _=>False
def aK.each {T:cH}{e:PE}{ps lo:List Nat}{rt:Option PE}{a:PC}{O:Env}{Q:Out->Prop}(xs:List D)(he:(e.ev O).l=xs)(inv:Nat->List D->Prop)(h0:inv 0 (lo.map O.o))
 (step:∀k x vo,xs[k]?=some x->inv k vo->aK T a (O.put ps (partsOf ps x) lo vo) (vT O lo rt (inv (k+1)) Q)) (done:∀vo,inv xs.length vo->Q (.next (O.put [] [] lo vo))):aK T (.each e ps lo rt a) O Q:=by
 have key:∀(r k:Nat) (vo:List D),k+r=xs.length->inv k vo->∃x,Q x/\∃n0,∀n,n0<=n->gW (a.ev (T n) n) O ps lo rt (xs.drop k) vo=some x:=by
  intro r
  induction r with
  |zero=>
   intro k vo hk hi;have:xs.drop k=[]:=by rw[aa6];omega
   obtain rfl:k=xs.length:=by omega
   exact⟨_,done vo hi,0,λn _=>by rw[this];rfl⟩
  |succ r ih=>
   intro k vo hk hi;have af:k<xs.length:=by omega
   rw[ala af];obtain⟨y,hy,n0,hn⟩:=step k xs[k] vo (aY af) hi;cases y with
   |next O'=>
    obtain⟨z,hz,n1,h1⟩:=ih (k+1) _ (by omega) hy;exact⟨z,hz,max n0 n1,λn hle=>by simp only[gW,hn n (by omega)];exact h1 n (by omega)⟩
   |exit id O'=>
    simp only[vT] at hy;split at hy
    .rename_i cJ;obtain⟨e,h1,h2⟩:=hy;exact⟨_,h2,n0,λn hle=>by subst cJ;simp[gW,hn n hle,h1]⟩
    .rename_i cJ;exact⟨_,hy,n0,λn hle=>by simp[gW,hn n hle,fS cJ]⟩
   |ret d=>exact hy.elim
 obtain⟨x,hx,n0,hn⟩:=key xs.length 0 _ (by omega) h0;exact⟨x,hx,n0,λn hle=>by simp only[PC.ev,he];exact hn n hle⟩
def aiJ {α:Type}:∀(l:List α),∃L:List (List α),∀ys,ys∈L↔ys.Perm l
 |[]=>⟨[[]],λys=>by simp⟩
 |x::l=>by
  obtain⟨L,hL⟩:=aiJ l;refine⟨L.flatMap λys=>(List.range (ys.length+1)).map λi=>ys.take i++x::ys.drop i,λzs=>?_⟩;simp only[xV,cd,fR];constructor
  .rintro⟨ys,hy,i,_,rfl⟩;have h1:=(hL ys).1 hy;refine(List.perm_middle).trans (.cons x ?_);rw[Jj];exact h1
  .intro h;have hx:x∈zs:=h.symm.subset (fQ ..);obtain⟨s,t,rfl⟩:=List.append_of_mem hx;refine⟨s++t,(hL _).2 ?_,s.length,by simp;omega,by simp⟩;exact(List.perm_cons x).1 ((List.perm_middle).symm.trans h)
def aK.meach {T:cH}{J:Nat}{ps cO lo:List Nat}{a:PC}{O:Env}{Q:Out->Prop}(es:List (D×D))(he:O.o J=.tup [.list [],.map es])(inv:List D->List D->Prop)(h0:inv [] (lo.map O.o))
 (step:∀done x rest vo,(done++x::rest).Perm (jm (.map es))->inv done vo->aK T a ((O.put ps (cO.map x.tget) lo vo).setO J (.tup [.list (done++[x]),.map es])) (λy=>∃O',y=.next O'/\inv (done++[x]) (lo.map O'.o)))
 (last:∃vo,(∀done,done.Perm (jm (.map es))->∀nD,inv done nD->nD=vo)/\Q (.next (O.put [] [] lo vo))):aK T (.meach J ps cO lo a) O Q:=by
 obtain⟨vo,hl,hQ⟩:=last;have key:∀(xs done:List D) (vs:List D),(done++xs).Perm (jm (.map es))->inv done vs->∃n0,∀n,n0<=n->mq (a.ev (T n) n) O J (.map es) ps cO lo xs done vs=some vo:=by
  intro xs
  induction xs with
  |nil=>intro done vs hp hi;exact⟨0,λn _=>by rw[hl done (by simpa using hp) vs hi];rfl⟩
  |cons x xs ih=>
   intro done vs hp hi;obtain⟨y,⟨O',rfl,dB⟩,n0,hn⟩:=step done x xs vs hp hi;obtain⟨n1,h1⟩:=ih (done++[x]) _ (by simpa using hp) dB;exact⟨max n0 n1,λn hle=>by simp only[mq,hn n (by omega)];exact h1 n (by omega)⟩
 have km:∀(L:List (List D)),(∀ys,ys∈L->ys.Perm (jm (.map es)))->∃n0,∀n,n0<=n->∀ys,ys∈L->mq (a.ev (T n) n) O J (.map es) ps cO lo ys [] (lo.map O.o)=some vo:=by
  intro L
  induction L with
  |nil=>intro _;exact⟨0,λn _ ys hy=>by cases hy⟩
  |cons y L ih=>
   intro hL;obtain⟨n0,gw⟩:=ih λys hy=>hL ys (fy _ hy);obtain⟨n1,h1⟩:=key y [] _ (by simpa using hL y (fQ ..)) h0;refine⟨max n0 n1,λn hle ys hy=>?_⟩;rcases cv.1 hy with e|hy
   .subst e;exact h1 n (by omega)
   .exact gw n (by omega) ys hy
 obtain⟨L,hL⟩:=aiJ (jm (.map es));obtain⟨n0,hn⟩:=km L λys hy=>(hL ys).1 hy;refine⟨_,hQ,n0,λn hle=>?_⟩;simp only[PC.ev,Af];refine⟨vo,⟨by rw[he];rfl,λys hy=>?_⟩,rfl⟩;rw[he] at hy ⊢;exact hn n hle ys ((hL ys).2 hy)
def bounded {Q:Nat->Nat->Prop}:∀(L:Nat),(∀m,m<=L->∃n0,∀n,n0<=n->Q m n)->∃n0,∀n,n0<=n->∀m,m<=L->Q m n
 |0,h=>by
  obtain⟨n0,hn⟩:=h 0 (aZ _)
  exact⟨n0,λn hle m hm=>by (obtain rfl:m=0:=by omega);exact hn n hle⟩
 |L+1,h=>by
  obtain⟨n0,hn⟩:=bounded L λm hm=>h m (by omega);obtain⟨n1,h1⟩:=h (L+1) (aZ _);refine⟨max n0 n1,λn hle m hm=>?_⟩;by_cases e:m=L+1
  .subst e;exact h1 n (by omega)
  .exact hn n (by omega) m (by omega)
def aj.of_pc {tab:Nat->Option PC}{ext:Nat->Option (aO->List D->Option D)}{f:Nat}{pc:PC}{ds:List D}{d:D}(hx:ext f=none)(ht:tab f=some pc)(h:aK (cP tab ext) pc (lF ds) (λx=>x=.ret d)):aj (cP tab ext) f ds d:=by
 obtain⟨x,rfl,n0,hn⟩:=h;refine⟨n0+1,λn hle=>?_⟩;obtain⟨k,rfl⟩:∃k,n=k+1:=⟨n-1,by omega⟩
 simp[cP,hx,ht,hn k (by omega)]
def aj.of_ext {tab:Nat->Option PC}{ext:Nat->Option (aO->List D->Option D)}{f:Nat}{g:aO->List D->Option D}{ds:List D}{d:D}(hx:ext f=some g)(h:∃n0,∀n,n0<=n->g (cP tab ext n) ds=some d):aj (cP tab ext) f ds d:=by
 obtain⟨n0,hn⟩:=h;refine⟨n0+1,λn hle=>?_⟩;obtain⟨k,rfl⟩:∃k,n=k+1:=⟨n-1,by omega⟩
 simp[cP,hx,hn k (by omega)]
def I4 (T:cH)(xs:List D)(m:Nat):cH:=λn=>yldΦ (T n) xs m
def aj.yld {T:cH}{xs:List D}{m f:Nat}{ds:List D}{d:D}(h:aj T f ds d)(hf:f≠nF):aj (I4 T xs m) f ds d:=by
 obtain⟨n0,hn⟩:=h;exact⟨n0,λn hle=>by simp[I4,yldΦ,hf,hn n hle]⟩
def aj.answer {T:cH}{xs l:List D}{m i:Nat}(hl:l=xs.take (i+1))(hi:i<xs.length)(hm:i<=m):aj (I4 T xs m) nF [.list l] (.v (.bool (decide (i<m)))):=by
 subst hl;refine⟨0,λn _=>?_⟩;have h1:(xs.take (i+1)).length=i+1:=by rw[dY];omega
 simp only[I4,yldΦ,if_true,h1];rw[if_pos ⟨by omega,by omega,trivial⟩];rfl
def aj.of_it {tab:Nat->Option PC}{ext:Nat->Option (aO->List D->Option D)}{f:Nat}{pc:PC}{J k:Nat}{spec:List D->List D}{ds:List D}(hx:ext f=some (wM pc J k spec))(hk:∀x,x∈spec ds->∃ds',x=.tup ds'/\ds'.length=k)
 (h:∀m,m<=(spec ds).length->aK (I4 (cP tab ext) (spec ds) m) pc (Cm J ds) (λx=>x=.ret (.list ((spec ds).take (m+1))))):aj (cP tab ext) f ds (.list (spec ds)):=by
 refine aj.of_ext hx ?_
 obtain⟨n0,hn⟩:=bounded (Q:=λm n=>pc.ev (yldΦ (cP tab ext n) (spec ds) m) n (Cm J ds)=some (.ret (.list ((spec ds).take (m+1))))) (spec ds).length (λm hm=>by
  obtain⟨x,rfl,n0,hn⟩:=h m hm;exact⟨n0,hn⟩)
 refine⟨n0,λn hle=>?_⟩;unfold wM;rw[if_pos];exact⟨λm hm=>⟨n,hn n hle m hm⟩,hk⟩
def yldΦ_mono {Z Ψ:aO}(h:∀f ds d,Z f ds=some d->Ψ f ds=some d)(xs:List D)(m:Nat):∀f ds d,yldΦ Z xs m f ds=some d->yldΦ Ψ xs m f ds=some d:=by
 intro f ds d e;unfold yldΦ at e ⊢;split at e
 .rename_i hf;rw[if_pos hf];exact e
 .rename_i hf;rw[if_neg hf];exact h f ds d e
def aj.det {T:cH}{f:Nat}{ds:List D}{d d':D}(h:aj T f ds d)(k:aj T f ds d'):d=d':=by
 obtain⟨n0,hn⟩:=h;obtain⟨n1,h1⟩:=k;have:=(hn (max n0 n1) (by omega)).symm.trans (h1 (max n0 n1) (by omega));exact uo this
def aj.fnOK {C:Ctx}{tab:Nat->Option PC}{ext:Nat->Option (aO->List D->Option D)}(h:TabOK C tab ext){f:Nat}{s:Sig}{ds:List D}{d:D}(hs:C.sig f=some s)(hr:aj (cP tab ext) f ds d)(hm:wL s.mode=false:=by rfl):iP C f s ds d:=by
 obtain⟨n0,hn⟩:=hr;exact((abx h n0).1 f ds d (hn n0 (aZ _)) s hs).1 hm
def Le (Z Ψ:aO):Prop:=∀f ds d,Z f ds=some d->Ψ f ds=some d
def PI.run_mono {Z Ψ:aO}(h:Le Z Ψ){p:PI}{O O':Env}(hr:p.run Z O=some O'):p.run Ψ O=some O':=by
 cases p with
 |setR t e=>exact hr
 |setO t e=>exact hr
 |chk e=>exact hr
 |call gs d f aa=>
  simp only[PI.run] at hr ⊢;cases hg:holds gs O<;>simp only[hg,zyy,zyx] at hr ⊢
  .exact hr
  .simp only[aB] at hr ⊢;obtain⟨x,hx,e⟩:=hr;exact⟨x,h _ _ _ hx,e⟩
 |callc gs d f aa=>
  simp only[PI.run] at hr ⊢;cases hg:holds gs O<;>simp only[hg,zyy,zyx] at hr ⊢
  .exact hr
  .split at hr
   .simp only[aB] at hr ⊢;obtain⟨x,hx,e⟩:=hr;exact⟨x,h _ _ _ hx,e⟩
   .cases hr
 |mcall j f aa=>
  simp only[PI.run,aB] at hr ⊢;obtain⟨x,hx,e⟩:=hr;exact⟨x,h _ _ _ hx,e⟩
def PI.runs_mono {Z Ψ:aO}(h:Le Z Ψ):∀{l:List PI} {O O':Env},PI.runs Z l O=some O'->PI.runs Ψ l O=some O'
 |[],O,O',hr=>hr
 |p::l,O,O',hr=>by
  simp only[PI.runs,az] at hr ⊢;obtain⟨x,hx,e⟩:=hr;exact⟨x,PI.run_mono h hx,PI.runs_mono h e⟩
def af7 {b c:Env->Option Out}(h:∀O x,b O=some x->c O=some x){O:Env}{lr lo:List Nat}:∀{n m:Nat} {vr vo:List D} {x:Out},n<=m->fY b O lr lo n vr vo=some x->fY c O lr lo m vr vo=some x
 |0,m,vr,vo,x,_,hr=>by simp[fY] at hr
 |n+1,m,vr,vo,x,hle,hr=>by
  obtain⟨m,rfl⟩:∃k,m=k+1:=⟨m-1,by omega⟩
  simp only[fY] at hr ⊢;cases hb:b (O.put lr vr lo vo) with
  |none=>rw[hb] at hr;cases hr
  |some y=>
   rw[h _ _ hb];rw[hb] at hr;cases y with
   |next O'=>exact af7 h (by omega) hr
   |exit id O'=>exact hr
   |ret d=>exact hr
def acU {b c:Env->Option Out}(h:∀O x,b O=some x->c O=some x){O:Env}{ps lo:List Nat}{rt:Option PE}:∀{xs vo:List D} {x:Out},gW b O ps lo rt xs vo=some x->gW c O ps lo rt xs vo=some x
 |[],vo,x,hr=>hr
 |y::xs,vo,x,hr=>by
  simp only[gW] at hr ⊢;cases hb:b (O.put ps (partsOf ps y) lo vo) with
  |none=>rw[hb] at hr;cases hr
  |some z=>
   rw[h _ _ hb];rw[hb] at hr;cases z with
   |next O'=>exact acU h hr
   |exit id O'=>exact hr
   |ret d=>cases hr
def aiI {b c:Env->Option Out}(h:∀O x,b O=some x->c O=some x){O:Env}{J:Nat}{es:D}{ps cO lo:List Nat}:∀{xs done vo nD:List D},mq b O J es ps cO lo xs done vo=some nD->mq c O J es ps cO lo xs done vo=some nD
 |[],_,_,_,hr=>hr
 |x::xs,done,vo,nD,hr=>by
  simp only[mq] at hr ⊢;split at hr
  .rename_i O' hb;rw[h _ _ hb];exact aiI h hr
  .cases hr
def PC.ev_mono {Z Ψ:aO}(h:Le Z Ψ){n m:Nat}(hle:n<=m):∀{c:PC} {O:Env} {x:Out},c.ev Z n O=some x->c.ev Ψ m O=some x:=by
 intro c
 induction c with
 |skip=>intro O x hr;exact hr
 |is l=>
  intro O x hr;simp only[PC.ev,aB] at hr ⊢;obtain⟨y,hy,e⟩:=hr;exact⟨y,PI.runs_mono h hy,e⟩
 |seq a b bx dw=>
  intro O x hr;simp only[PC.ev] at hr ⊢;cases ha:a.ev Z n O with
  |none=>rw[ha] at hr;cases hr
  |some y=>rw[bx ha];rw[ha] at hr;cases y<;>first|exact dw hr|exact hr
 |ite c lr lo a b bx dw=>
  intro O x hr;simp only[PC.ev] at hr ⊢;cases hc:(c.ev O).b<;>simp only[hc,zyy,zyx] at hr ⊢
  .cases ha:b.ev Z n O with
   |none=>rw[ha] at hr;cases hr
   |some y=>rw[dw ha];rw[ha] at hr;exact hr
  .cases ha:a.ev Z n O with
   |none=>rw[ha] at hr;cases hr
   |some y=>rw[bx ha];rw[ha] at hr;exact hr
 |block id lr lo a bx=>
  intro O x hr;simp only[PC.ev] at hr ⊢;cases ha:a.ev Z n O with
  |none=>rw[ha] at hr;cases hr
  |some y=>rw[bx ha];rw[ha] at hr;exact hr
 |loop lr lo a bx=>intro O x hr;exact af7 (λO x=>bx) hle hr
 |exit id=>intro O x hr;exact hr
 |ret e=>intro O x hr;exact hr
 |each e ps lo rt a bx=>intro O x hr;exact acU (λO x=>bx) hr
 |meach J ps cO lo a bx=>
  intro O x hr;simp only[PC.ev,Af] at hr ⊢;obtain⟨vo,⟨h1,h2⟩,rfl⟩:=hr;exact⟨vo,⟨h1,λys hy=>aiI (λO x=>bx) (h2 ys hy)⟩,rfl⟩
def abw {tab:Nat->Option PC}{ext:Nat->Option (aO->List D->Option D)}(hx:∀f g,ext f=some g->∀Z Ψ,Le Z Ψ->∀ds d,g Z ds=some d->g Ψ ds=some d):∀{n m:Nat},n<=m->Le (cP tab ext n) (cP tab ext m)
 |0,m,_=>λf ds d h=>by simp[cP] at h
 |n+1,m,hle=>by
  obtain⟨m,rfl⟩:∃k,m=k+1:=⟨m-1,by omega⟩
  have ih:=abw (tab:=tab) hx (n:=n) (m:=m) (by omega);intro f ds d h;simp only[cP] at h ⊢;split at h
  .rename_i g hg;exact hx f g hg _ _ ih ds d h
  .split at h
   .rename_i pc _;cases he:pc.ev (cP tab ext n) n (lF ds) with
    |none=>rw[he] at h;cases h
    |some x=>
     rw[PC.ev_mono ih (by omega) he];rw[he] at h;exact h
   .cases h
def auh {pc:PC}{J k:Nat}{spec:List D->List D}{Z Ψ:aO}(h:Le Z Ψ){ds:List D}{d:D}(e:wM pc J k spec Z ds=some d):wM pc J k spec Ψ ds=some d:=by
 unfold wM at e ⊢;split at e
 .rename_i hs;rw[if_pos]
  .exact e
  .exact⟨λm hm=>let⟨N,hN⟩:=hs.1 m hm;⟨N,PC.ev_mono (yldΦ_mono h _ m) (aZ _) hN⟩,hs.2⟩
 .cases e
def aj.of_at {tab:Nat->Option PC}{ext:Nat->Option (aO->List D->Option D)}(hx:∀f g,ext f=some g->∀Z Ψ,Le Z Ψ->∀ds d,g Z ds=some d->g Ψ ds=some d)(n:Nat){f:Nat}{ds:List D}{d:D}(h:cP tab ext n f ds=some d):aj (cP tab ext) f ds d:=
 ⟨n,λm hm=>abw hx hm f ds d h⟩
def Env.setR_r (O:Env)(t u:Nat)(d:D):(O.setR t d).r u=if u=t then d else O.r u:=by simp only[Env.setR,fq]
def Env.setO_o (O:Env)(t u:Nat)(d:D):(O.setO t d).o u=if u=t then d else O.o u:=by simp only[Env.setO,fq]
def Env.join_r (O O':Env)(lr lo:List Nat)(u:Nat):(O.join lr lo O').r u=if u∈lr then O'.r u else O.r u:=by simp only[Env.join,Env.put,vf]
def Env.join_o (O O':Env)(lr lo:List Nat)(u:Nat):(O.join lr lo O').o u=if u∈lo then O'.o u else O.o u:=by simp only[Env.join,Env.put,vf]
def Nx (f:Nat->D)(i:Nat)(is:List Nat)(x:D)(xs:List D)(u:Nat):putL f (i::is) (x::xs) u=if u=i then x else putL f is xs u:=by simp only[putL,fq]
def Ny (f:Nat->D)(xs:List D)(u:Nat):putL f [] xs u=f u:=by cases xs<;>rfl
def asX (g:Nat×Bool)(gs:List (Nat×Bool))(O:Env):holds (g::gs) O=((O.r g.1).b==g.2&&holds gs O):=rfl
def D.tget_tup (x:List D)(i:Nat):(D.tup x).tget i=x.getD i .none:=rfl
def D.c_agg (x:List D)(i:Nat):(D.agg x).c i=x.getD i .none:=rfl
end Cx
