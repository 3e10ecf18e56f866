/-
  Shared texts of this claim.
-/
import Derived.Test.YtefchokhgdmamaaGreatDoorMAD
import Derived.Tactics
import Derived.RangeFuncIn
import Derived.OrdersIn
import Derived.RangeFuncRecord
set_option linter.defProp false
set_option linter.unusedSimpArgs false
set_option linter.unusedVariables false
namespace Cx
open Go Go.RowKit
inductive Gh where
 |fz (j:Nat)|fbox (b:Nat)|rereg (t j:Nat)|recell (b i j:Nat)|home (b i j:Nat) (T:TypeId)
def Gh.run (C:Ctx)(S:St):Gh->Option (St×List PI)
 |.fz j=>some (S.fz j,[])
 |.fbox b=>Ek S b
 |.rereg t j=>zt S t j
 |.recell b i j=>G8 S b i j
 |.home b i j T=>E5 C S b i j T
def kI (C:Ctx):List Gh->St->Option (St×List PI)
 |[],S=>some (S,[])
 |g::gs,S=>(g.run C S).bind λr=>(kI C gs r.1).map λq=>(q.1,r.2++q.2)
def p9 {Z:aV}:∀{a b:List PI} {O:Env},PI.runs Z (a++b) O=(PI.runs Z a O).bind (PI.runs Z b)
 |[],b,O=>by simp[PI.runs]
 |x::a,b,O=>by
  simp only[HM,PI.runs];cases x.run Z O with
  |none=>rfl
  |some ρ1=>simp[p9 (a:=a) (b:=b)]
def qz (S:St)(ops:Array Oper)(o:Oper):Option (List (Nat×Bool)):=
 match o.guard with
 |none=>some []
 |some (j,want)=>
  match(ops[j]?).bind (·.dst) with
  |some t=>
   match S.r t with
   |.dat .bool=>some [(t,want)]
   |.opt gs (.dat .bool)=>some ((t,want)::gs)
   |_=>none
  |none=>none
def uN (S:St)(gs:List (Nat×Bool)):Op->List Nat
 |.build _ ps=>cj S gs (ps.toList.map (·.2))
 |.buildSlice _ _ ps=>cj S gs (ps.toList.map (·.2))
 |.box _ x=>match fO S gs x with|.agg _=>[]|_=>cj S gs [x]
 |.pick _ x y=>cj S gs [x,y]
 |.slice _ x _ _ _=>cj S gs [x]
 |.mapUpdate _ _ k v=>cj S gs [k,v]
 |.insert _ _ k v=>cj S gs [k,v]
 |.store _ x v=>match fO S gs x with|.eptr ..=>cj S gs [v]|_=>[]
 |_=>[]
def DF:List Sh->List Nat
 |[]=>[]
 |.obj j _::r=>j::DF r
 |_::r=>DF r
def Ii (S:St)(gs:List (Nat×Bool)):List Operand->List Nat
 |[]=>[]
 |x::xs=>
  match fO S gs x with
  |.ptr j ver off=>bif Nat.beq ver (S.ver j)&&(match S.o j with|.box ..=>true|_=>false) then j::Ii S gs xs else Ii S gs xs
  |_=>Ii S gs xs
def acE (C:Ctx):Fn->Bool
 |.func f=>(match C.sig f with|some s=>qX s.mode|none=>false)
 |_=>false
def aqU {α:Type}{b:Bool}{x:α}{l:List α}(h:x∈bif b then[] else l):x∈l:=by
 cases b with
 |true=>cases h
 |false=>exact h
def pre (C:Ctx)(S:St)(gs:List (Nat×Bool))(op:Op):List Gh:=
 match op with
 |.makeFunc fn _ caps=>
  bif acE C fn then[] else(Ii S gs caps.toList).flatMap λb=>(match S.o b with|.box _ shs=>(DF shs).map .fz|_=>[])++[.fbox b]
 |.load T x=>
  match fO S gs x,qW C.P T,C.P.info? T with
  |.ptr j _ off,some true,some inf=>bif Od C j then[] else(match S.o j with|.box _ shs=>((DF ((shs.drop off).take inf.size)).filter λj=>mg (S.o j)).map .fz|_=>[])
  |_,_,_=>[]
 |.build T ps=>((uN S gs (.build T ps)).filter λj=> !(C.fr.any (Nat.beq (3000000+j)))).map .fz
 |op=>(uN S gs op).map .fz
def rh (C:Ctx)(S:St)(gs:List (Nat×Bool))(o:Oper):List Gh:=
 match o.op,o.dst with
 |.assign x,some t=>bif C.fr.any (Nat.beq t) then(cj S gs [x]).map .fz else[]
 |_,_=>[]
def Pf (P:Program):Nat->TypeId->List (Option TypeId)
 |0,_=>[]
 |n+1,t=>
  match P.underlying t with
  |some (.struct fs)=>fs.toList.flatMap λf=>Pf P n f.type
  |some (.array len e)=>(List.replicate len (Pf P n e)).flatten
  |some (.slice e)=>[some e]
  |_=>[none]
def homes (P:Program)(b off:Nat)(T:TypeId):List Gh:=
 ((Pf P 12 T).zipIdx).filterMap λx=>x.1.map λe=>.home b (off+x.2) (iu b (off+x.2)) e
def Lh (nh:List Nat)(l:List Gh):List Gh:=l.filter λg=>match g with|.home _ _ j _=> !(nh.any (Nat.beq j))|_=>true
def afO (b off n:Nat):List Gh:=(List.range n).map λi=>.recell b (off+i) (iu b (off+i))
def post (C:Ctx)(S:St)(o:Oper):List Gh:=
 match o.op,o.dst with
 |.assign _,some t=>[.rereg t t]
 |.alloc T,some t=>Lh C.nh (homes C.P t 0 T)
 |.store T x _,_=>
  match fO S [] x with
  |.ptr j _ off=>Lh C.nh (homes C.P j off T)++afO j off (match C.P.info? T with|some i=>i.size|none=>0)
  |_=>[]
 |_,_=>[]
def sE:Sh->Bool
 |.opt ..=>false
 |_=>true
def vH (C:Ctx)(S:St)(dst:Nat)(T:TypeId)(x:Operand):lS:=
 match x with
 |.const v=>(qf C.P T).bind λt=>(qg t).bind λz=>bif kC t v then some (S.setR dst (.dat z.1),[.setR dst (.con z.2)]) else none
 |_=>none
def core (C:Ctx)(S:St)(gs:List (Nat×Bool))(o:Oper):Option (St×List PI):=
 match o.dst with
 |some dst=>
  match pV C S gs dst o.op with
  |some r=>bif sE r.1 then some (S.setR dst (j7 gs r.1),r.2) else none
  |none=>
   match o.op,gs with
   |.assign x,[]=>
    bif C.fr.any (Nat.beq dst) then
          match re C S [] dst x with
          |some r=>some (S.setR dst r.1,r.2)
          |none=>vH C S dst o.type x
    else
    match D1 C S dst o.type x with
    |some r=>some r
    |none=>
     match re C S [] dst x with
     |some r=>some (S.setR dst r.1,r.2)
     |none=>vH C S dst o.type x
   |.alloc T,[]=>DR C S dst T
   |.box T x,[]=>DT C S dst T x
   |.buildSlice T n ps,gs=>
    match gs with
    |[]=>xU C S [] dst T n ps.toList
    |_=>Bb C S gs dst T n ps.toList
   |.makeSlice T l c,[]=>DZ C S dst T l c
   |.makeMap T r,[]=>DY C S dst T r
   |.range T x,[]=>D2 C S dst T x
   |.convert T U x,[]=>DU C S dst T U x
   |.call c,gs=>
    match c.callee,gs with
    |.builtin .append,[]=>
     match c.args.toList,c.argTypes.toList with
     |[s,x],[T,T']=>bif Nat.beq T T' then DS C S dst T s x else none
     |_,_=>none
    |.value (.func f),gs=>
     match qu C S gs dst f c.args.toList with
     |some r=>some (r.1.setR dst (j7 gs r.2.1),r.2.2)
     |none=>
      match gs with
      |[]=>
       match DW C S dst f c.args.toList with
       |some r=>some r
       |none=>
        match DX C S dst f c.args.toList with
        |some r=>some r
        |none=>
        match DV C S dst f c.args.toList with
        |some r=>some r
        |none=>(rV C S f c.args.toList []).map (q9 S (some dst))
      |_=>none
    |.value x,gs=>
     match pw C S gs dst x c.args.toList with
     |some r=>some (r.1.setR dst (j7 gs r.2.1),r.2.2)
     |none=>
      match x,gs with
      |.tmp t,[]=>(Ba C S t c.args.toList).map (q9 S (some dst))
      |_,_=>none
    |_,_=>none
   |.makeFunc fn first caps,[]=>D0 C S dst fn first caps
   |_,_=>none
 |none=>
  match o.op,gs with
  |.store T x v,[]=>vG C S T x v
  |.mapUpdate T m k v,[]=>tQ C S T m k v
  |.insert T m k v,[]=>tQ C S T m k v
  |.panic _,[]=>some (S,[.chk (.nt (.con (.bool true)))])
  |.call c,[]=>
   match c.callee with
   |.value (.func f)=>(rV C S f c.args.toList []).map (q9 S none)
   |.value (.tmp t)=>(Ba C S t c.args.toList).map (q9 S none)
   |_=>none
  |_,_=>none
def aeb (dst:Nat)(l:List PI):Bool:=l.all λp=>p.modR.all (Nat.beq dst)&&p.modO.isEmpty
def j8 (gs:List (Nat×Bool))(dst:Option Nat)(l:List PI):Bool:=
 match gs,dst with
 |[],_=>true
 |_,some d=>aeb d l
 |_,none=>false
def DM (C:Ctx)(S:St)(ops:Array Oper)(o:Oper):Option (St×List PI):=
 (qz S ops o).bind λgs=>
 (kI C (pre C S gs o.op++rh C S gs o) S).bind λr1=>
 (core C r1.1 gs o).bind λr2=>
 (kI C (post C r2.1 o) r2.1).bind λr3=>
 bif j8 gs o.dst r2.2 then some (r3.1,r1.2++r2.2++r3.2) else none
def Hm:PI:=.chk (.con (.v (.bool false)))
def A7 (C:Ctx)(S:St)(ops:Array Oper)(o:Oper):Option (St×List PI):=
 match DM C S ops o with
 |some r=>some r
 |none=>some (match o.dst with|some d=>S.setR d .none|none=>S,[Hm])
section
variable {C:Ctx} {S:St} {O:Env} {V:Im} {own:Nat->Option Nat} {hv:Nat->Value} {w0:World} {σ0:Base} {A:Nat->Prop} {a:Act} {w:World} {gs:List (Nat×Bool)} {Z:aV} {dst:Nat}
def Gh.sound {g:Gh}{r:St×List PI}(h:Good C w0 σ0 S O A a w)(hr:g.run C S=some r):Dg C w0 σ0 Z S O A a w r:=by
 obtain⟨V,own,hv,h⟩:=h;cases g with
 |fz j=>
  simp only[Gh.run,aS] at hr;subst hr;intro O' ao;rw[oR ao];obtain⟨V',own',_,h'⟩:=h.fz j;exact⟨V',own',hv,h'⟩
 |fbox b=>exact alN h hr
 |rereg t j=>exact atI h hr
 |recell b i j=>exact atH h hr
 |home b i j T=>exact an4 h hr
def PU:∀(l:List Gh) {S:St} {O O':Env} {r:St×List PI},Good C w0 σ0 S O A a w->kI C l S=some r->PI.runs Z r.2 O=some O'->Good C w0 σ0 r.1 O' A a w
 |[],S,O,O',r,h,hr,ao=>by
  simp only[kI,aS] at hr;subst hr;rw[oR ao];exact h
 |g::l,S,O,O',r,h,hr,ao=>by
  simp only[kI,aw,aC] at hr;obtain⟨q,hq,q2,kg,rfl⟩:=hr;simp only[p9,aw] at ao;obtain⟨ρ1,h1,h2⟩:=ao;exact PU (r:=q2) l (Gh.sound (Z:=Z) h hq ρ1 h1) kg h2
def ZF (h:Good C w0 σ0 S O A a w){ops:Array Oper}{o:Oper}(hg:qz S ops o=some gs):Region.wanted o (yielded ops a.tmps)=holds gs O:=by
 obtain⟨V,own,hv,h⟩:=h;unfold qz at hg;unfold Region.wanted;split at hg
 .rename_i e;cases hg;simp[e,holds]
 .rename_i j want e;simp only[e];split at hg
  case h_2=>cases hg
  rename_i t ht;have gY:=h.regs t;have hy:∀v,a.tmps.getD t undef=v->(∀b,v=.bool b->yielded ops a.tmps j=some b)/\(v=undef->yielded ops a.tmps j=none):=by
   intro v hv';unfold yielded;rw[ht];simp only[lh];rw[fb] at hv';cases qH:a.tmps[t]? with
   |none=>rw[qH] at hv';simp at hv';subst hv';exact⟨λb e=>absurd e (by simp[undef]),λ_=>rfl⟩
   |some u=>rw[qH] at hv';simp at hv';subst hv';exact⟨λb e=>by subst e;rfl,λe=>by subst e;rfl⟩
  split at hg
  .rename_i es;cases hg;rw[es] at gY;obtain⟨b,cH,bC⟩:=Rep.bool_inv gY;rw[(hy _ cH).1 b rfl];simp[holds,bC,D.b_bool]
  .rename_i cd es;cases hg;rw[es] at gY;simp only[holds,rG];cases hh:holds cd O with
   |true=>
    obtain⟨b,cH,bC⟩:=Rep.bool_inv (gY.1 hh);rw[(hy _ cH).1 b rfl];unfold holds at hh;rw[hh,bC];simp[D.b_bool]
   |false=>
    rw[(hy _ (gY.2 hh)).2 rfl];unfold holds at hh;rw[hh];simp
  .cases hg
def ZE (h:Good C w0 σ0 S O A a w){ops:Array Oper}{o:Oper}(hg:qz S ops o=some gs)(hj:∀j want t,o.guard=some (j,want)->(ops[j]?).bind (·.dst)=some t->A t):∀g,g∈gs->A g.1:=by
 obtain⟨V,own,hv,h⟩:=h;unfold qz at hg;split at hg
 .cases hg;simp
 .rename_i j want e;split at hg
  case h_2=>cases hg
  rename_i t ht;have hA:=hj j want t e ht;split at hg
  .cases hg;intro g hm;simp at hm;subst hm;exact hA
  .rename_i cd es;cases hg;intro g hm;rcases cZ.1 hm with e'|dM
   .subst e';exact hA
   .exact(h.opts t cd _ es).1 g dM
  .cases hg
def ar0 (h:Inv C S O V own hv w0 σ0 A a w)(hC:CtxOK C σ0)(hg:holds gs O=true){o:Oper}{r:Sh×List PI}(hr:pV C S gs dst o.op=some r):fm C S O V hv Z dst a w o r:=by
 unfold pV at hr;split at hr
 .rename_i x e;exact aef h hC hg hr (.inl e)
 .rename_i c x y e;exact arZ h hC hg hr e
 .rename_i op T x y T' e;exact ary h hC hg hr e
 .rename_i op T x e;exact ar4 h hC hg hr e
 .rename_i s d x e;exact arC h hC hg hr e
 .rename_i T x e;exact FT h hC hg hr e
 .rename_i T x i e;exact arH h hC hg hr e
 .rename_i T x i e;exact arK h hC hg hr e
 .rename_i T x i e;exact arN h hC hg hr e
 .rename_i T x i e;exact arP h hC hg hr e
 .rename_i x i e;exact arE h hC hg hr e
 .rename_i T m k ok e;exact arV h hC hg hr e
 .rename_i T x lo hi mx e;exact ar2 h hC hg hr e
 .rename_i f a b e;exact arL h hC hg hr e
 .rename_i T ps e;exact arA h hC hg hr e
 .rename_i x e;exact arX h hC hg hr e
 .cases hr;intro O' ao;have:=(UK hg ao).1;cases this
 .rename_i c e;split at hr
  .rename_i x T hc ha ht;refine arR h hC hg hr ?_;rw[e];cases c with|mk callee args argTypes=>
   simp only at hc ha ht;have h1:args=#[x]:=by rw[<-vi];exact ha
   have h2:argTypes=#[T]:=by rw[<-vi];exact ht
   rw[hc,h1,h2]
  .rename_i x y hc ha;refine aed (ts:=c.argTypes) h hC hg hr ?_;rw[e];cases c with|mk callee args argTypes=>
   simp only at hc ha;have h1:args=#[x,y]:=by rw[<-vi];exact ha
   rw[hc,h1];rfl
  .rename_i x y hc ha;refine aed (ts:=c.argTypes) h hC hg hr ?_;rw[e];cases c with|mk callee args argTypes=>
   simp only at hc ha;have h1:args=#[x,y]:=by rw[<-vi];exact ha
   rw[hc,h1];rfl
  .cases hr
 .cases hr
def aka (h:Inv C S O V own hv w0 σ0 A a w)(ht:¬A dst)(ah:dst<a.tmps.size){T:TypeId}{x:Operand}{r:St×List PI}(hr:vH C S dst T x=some r){o:Oper}(hd:o.dst=some dst)(ho:o.op=.assign x):cw C w0 σ0 Z S O A a w o r:=by
 unfold vH at hr;split at hr
 case h_2=>cases hr
 rename_i v;simp only[aw] at hr;obtain⟨t,_,z,hz,hr⟩:=hr;cases hc:kC t v<;>simp only[hc,zyx,zyw] at hr
 .cases hr
 cases hr;have bY:=(zG (cap:=C.cap) (V:=V) hz hc).1;refine cw.value hd λO' ao=>⟨v,w,by simp[execOp,ho,Act.eval],?_⟩
 have hρ:O'=O.setR dst z.2:=by simp[PI.runs,PI.run,PE.ev] at ao;exact ao.symm
 subst hρ;exact⟨_,_,_,h.setReg ht (s:=.dat z.1) bY ah (λ_ _ e=>by cases e)⟩
def ajq (h:Inv C S O V own hv w0 σ0 A a w)(hC:CtxOK C σ0)(aR:eU C)(hΦ:ei C Z){o:Oper}(ht:∀d,o.dst=some d->¬A d/\d<a.tmps.size)(eK:∀g,g∈gs->A g.1)(hg:holds gs O=true){r:St×List PI}
 (hr:core C S gs o=some r):cw C w0 σ0 Z S O A a w o r:=by
 unfold core at hr;split at hr
 .rename_i dst hd;obtain⟨fw,fy⟩:=ht dst hd;split at hr
  .rename_i q hq;cases eY:sE q.1<;>simp only[eY,zyx,zyw] at hr
   .cases hr
   cases hr;have aaW:=ar0 (Z:=Z) h hC hg hq;cases gs with
   |nil=>exact aaW.eff h fw fy hd
   |cons g cd=>exact aaW.effG h fw fy eK hg hd
  .rename_i yE;clear yE;split at hr
   .rename_i x e
    have mv:∀r,(match re C S [] dst x with|some r=>some (S.setR dst r.1,r.2)|none=>vH C S dst o.type x)=some r->cw C w0 σ0 Z S O A a w o r:=by
     intro r hr;split at hr
     .rename_i q hq;cases hr;exact(aef (Z:=Z) h hC hg hq (.inr e)).eff h fw fy hd
     .exact aka h fw fy hr hd e
    cases dC:C.fr.any (Nat.beq dst)<;>simp only[dC,zyx,zyw] at hr
    .split at hr
     .rename_i q hq;cases hr;exact aj4 h hC fw fy hq hd e
     .exact mv r hr
    .exact mv r hr
   .rename_i T e;exact ajA h fw fy hr hd e
   .rename_i T x e;exact ajE h hC fw fy hr hd e
   .rename_i T n ps e;split at hr
    .exact ajG h hC fw fy hr hd e
    .exact ajW h hC fw fy eK hg hr hd e
   .rename_i T l c e;exact aj0 h hC fw fy hr hd e
   .rename_i T m e;exact ajY h fw fy hr hd e
   .rename_i T x e;exact aj6 h fw fy hr hd e
   .rename_i T U x e;exact ajI h hC fw fy hr hd e
   .rename_i c e;cases c with|mk callee args argTypes=>
    split at hr
    .rename_i hc;simp only at hc;split at hr
     .rename_i s x T T' ha Rq;simp only at ha Rq;cases hT:Nat.beq T T'<;>simp only[hT,zyx,zyw] at hr
      .cases hr
      have Bo:=aA hT;subst Bo;refine ajC h hC fw fy hr hd ?_;have h1:args=#[s,x]:=by rw[<-vi];exact ha
      have h2:argTypes=#[T,T]:=by rw[<-vi];exact Rq
      rw[e,hc,h1,h2]
     .cases hr
    .rename_i f hc;simp only at hc;split at hr
     .rename_i q hq;cases hr;exact ajU h hC aR hΦ fw fy eK hg hq hd (by rw[e,hc])
     .split at hr
      .split at hr
       .rename_i q hq;cases hr;exact ajP h hC aR hΦ fw fy hq hd (by rw[e,hc])
       .split at hr
        .rename_i q hq;cases hr;exact ajR h hC aR hΦ fw fy hq hd (by rw[e,hc])
        split at hr
        .rename_i q hq;cases hr;exact ajN h hC aR hΦ fw fy hq hd (by rw[e,hc])
        .simp only[aC] at hr;obtain⟨q,hq,rfl⟩:=hr;rw[<-hd];exact YR h hC aR hΦ ht hq (by rw[e,hc])
      .cases hr
    .rename_i x KZ hc;simp only at hc;split at hr
     .rename_i q hq;cases hr;exact ajL h hC aR hΦ fw fy eK hg hq hd (by rw[e,hc])
     .split at hr
      .simp only[aC] at hr;obtain⟨q,hq,rfl⟩:=hr;rw[<-hd];exact YP h hC aR hΦ ht hq (by rw[e,hc])
      .cases hr
    .cases hr
   .rename_i fn first caps e;exact aj2 h fw fy hr hd e
   .cases hr
 .rename_i hd;split at hr
  .rename_i T x v e;exact aj8 h hC hr hd e
  .rename_i T m k v e;exact YT h hC hr hd (.inl e)
  .rename_i T m k v e;exact YT h hC hr hd (.inr e)
  .cases hr;intro O' ao;simp[PI.runs,PI.run,PE.ev,D.bool,D.b] at ao
  .rename_i c e;cases c with|mk callee args argTypes=>
   split at hr
   .rename_i f hc;simp only at hc;simp only[aC] at hr;obtain⟨q,hq,rfl⟩:=hr;rw[<-hd];exact YR h hC aR hΦ ht hq (by rw[e,hc])
   .rename_i t hc;simp only at hc;simp only[aC] at hr;obtain⟨q,hq,rfl⟩:=hr;rw[<-hd];exact YP h hC aR hΦ ht hq (by rw[e,hc])
   .cases hr
  .cases hr
def ajo {g:Nat×Bool}{cd:List (Nat×Bool)}{o:Oper}{r:St×List PI}(hr:core C S (g::cd) o=some r):
 ∃dst S2 s,o.dst=some dst/\r.1=S2.setR dst (.opt (g::cd) s)/\((∃js,S2=S.fzs js)\/∃j,S2=S.newO j .dead)/\(∀gs s',s≠.opt gs s')/\(∀x,o.op≠.assign x)/\(∀T,o.op≠.alloc T)/\∀T x v,o.op≠.store T x v:=by
 unfold core at hr;split at hr
 .rename_i dst hd;split at hr
  .rename_i q hq;cases eY:sE q.1<;>simp only[eY,zyx,zyw] at hr
   .cases hr
   cases hr;refine⟨dst,S,q.1,hd,rfl,.inl ⟨[],rfl⟩,(λgs s' e=>by rw[e] at eY;cases eY),λx e=>?_,λT e=>?_,λT x v e=>?_⟩<;>(rw[e] at hq;simp[pV] at hq)
  .rename_i yE;clear yE;split at hr
   case h_4=>
        rename_i T n ps e;split at hr
        .rename_i hx;cases hx
        .unfold Bb at hr;split at hr
         case h_2=>cases hr
         simp only[aw] at hr;obtain⟨e0,he0,hr⟩:=hr;split at hr
         .cases hr;exact⟨dst,_,.dat (.slice e0.rol),hd,rfl,.inr ⟨dst,rfl⟩,(λ_ _ e=>by cases e),(λx e'=>by rw[e] at e';cases e'),(λx e'=>by rw[e] at e';cases e'),(λ_ _ _ e'=>by rw[e] at e';cases e')⟩
         .cases hr
   case h_9=>
        rename_i c e;split at hr
        .rename_i hx;cases hx
        .rename_i f hc;split at hr
         .rename_i q hq;cases hr;simp only[qu,aw] at hq;obtain⟨s,hs,hq⟩:=hq;split at hq
          case h_2=>cases hq
          simp only[aw] at hq;obtain⟨u,hu,hq⟩:=hq;cases bU:Ty.subs u.1 s.args<;>simp only[bU,zyx,zyw] at hq
          .cases hq
          cases hq;refine⟨dst,_,.dat s.res,hd,rfl,?_,(λ_ _ e=>by cases e),(λx e'=>by rw[e] at e';cases e'),(λx e'=>by rw[e] at e';cases e'),(λ_ _ _ e'=>by rw[e] at e';cases e')⟩;left;cases s.res.pure
          .exact⟨_,rfl⟩
          .exact⟨[],rfl⟩
         .cases hr
        .rename_i x KZ hc;have hr:∃q,pw C S (g::cd) dst x c.args.toList=some q/\(q.1.setR dst (j7 (g::cd) q.2.1),q.2.2)=r:=by
          split at hr
          .rename_i q hq;cases hr;exact⟨q,hq,rfl⟩
          .split at hr
           all_goals (first|(cases hr;done)|(rename_i hx;cases hx;done)|(rename_i hx _;cases hx;done)|(rename_i hx _ _;cases hx;done)|(rename_i hx;exact absurd hx (by simp)))
         obtain⟨q,hq,rfl⟩:=hr;unfold pw at hq;split at hq
         case h_2=>cases hq
         rename_i aa r0 ee yO;split at hq
         case h_1=>cases hq
         simp only[aw] at hq;obtain⟨u,hu,hq⟩:=hq;cases bU:Ty.subs u.1 aa<;>simp only[bU,zyx,zyw] at hq
         .cases hq
         cases hq;refine⟨dst,_,.dat r0,hd,rfl,?_,(λ_ _ e=>by cases e),(λx e'=>by rw[e] at e';cases e'),(λx e'=>by rw[e] at e';cases e'),(λ_ _ _ e'=>by rw[e] at e';cases e')⟩;left;cases r0.pure
         .exact⟨_,rfl⟩
         .exact⟨[],rfl⟩
        .cases hr
   all_goals (first|(cases hr;done)|(rename_i hx;cases hx;done)|(rename_i hx _;cases hx;done))
 .split at hr
  all_goals (first|(cases hr;done)|(rename_i hx;cases hx;done)|(rename_i hx _;cases hx;done))
def aaM {O ρ1:Env}:∀{l:List (Nat×Bool)},(∀g,g∈l->ρ1.r g.1=O.r g.1)->holds l ρ1=holds l O
 |[],_=>rfl
 |x::l,h=>by
  have ih:=aaM (l:=l) λy hy=>h y (dW _ hy);unfold holds at ih ⊢;simp only[rG];rw[ih,h x (er ..)]
def ZB:∀(l:List Gh) {S:St} {r:St×List PI},kI C l S=some r->∀t,t∉r.2.flatMap PI.modR
 |[],S,r,hr=>by simp only[kI,aS] at hr;subst hr;simp
 |g::l,S,r,hr=>by
  simp only[kI,aw,aC] at hr;obtain⟨q,hq,q2,kg,rfl⟩:=hr;have ih:=ZB l kg;have hg:∀t,t∉q.2.flatMap PI.modR:=by
   cases g with
   |fz j=>simp only[Gh.run,aS] at hq;subst hq;simp
   |fbox b=>
    simp only[Gh.run,Ek] at hq;split at hq
    case h_2=>cases hq
    simp only[aw] at hq;obtain⟨x,hx,hq⟩:=hq;rename_i ag shs eo;cases ag<;>simp only[zyx,zyw] at hq
    .split at hq
     .cases hq;simp[PI.modR]
     .cases hq
    .cases hq;simp[PI.modR]
   |rereg t j=>
    simp only[Gh.run,zt] at hq;split at hq
    .rename_i j' ver es;cases hb:(Nat.beq ver (S.ver j')&&mg (S.o j')&& !Nat.beq j' j)<;>simp only[hb,zyx,zyw] at hq<;>cases hq<;>simp[PI.modR]
    .cases hq;simp
   |recell b i j=>
    simp only[Gh.run,G8] at hq;split at hq
    .split at hq
     .rename_i ag shs eo j' ver es;cases hb:(Nat.beq ver (S.ver j')&&mg (S.o j')&& !Nat.beq j' j&& !Nat.beq b j&& !Nat.beq b j')<;>simp only[hb,zyx,zyw] at hq<;>cases hq<;>simp[PI.modR]
     .cases hq;simp
    .cases hq;simp
   |home b i j T=>
    simp only[Gh.run,E5] at hq;split at hq
    .split at hq
     .cases hb:(!Nat.beq b j)<;>simp only[hb,zyx,zyw] at hq<;>cases hq<;>simp[PI.modR]
     .cases hq;simp
    .cases hq;simp
  intro t hm;rw[XJ,dm] at hm;exact hm.elim (hg t) (ih t)
def ajh (h:Good C w0 σ0 S O A a w)(hC:CtxOK C σ0)(aR:eU C)(hΦ:ei C Z){ops:Array Oper}{o:Oper}(ht:∀d,o.dst=some d->¬A d/\d<a.tmps.size)
 (hj:∀j want t,o.guard=some (j,want)->(ops[j]?).bind (·.dst)=some t->A t) {r:St×List PI} (hr:DM C S ops o=some r) {O':Env} (ao:PI.runs Z r.2 O=some O')
 {K:Act->World->Prop} {Q:Exit->Act->World->Prop} (hK:∀a' w',Good C w0 σ0 r.1 O' (λu=>A u\/o.dst=some u) a' w'->a'.tmps.size=a.tmps.size->K a' w'):
 if Region.wanted o (yielded ops a.tmps) then o.wp C.P a w K Q else K (a.put o.dst undef) w:=by
 simp only[DM,aw] at hr;obtain⟨gs,eK,r1,jO,r2,nA,r3,yG,hr⟩:=hr;have vU:=ZE h eK hj;rw[ZF h eK];cases hc:j8 gs o.dst r2.2<;>simp only[hc,zyx,zyw] at hr
 .cases hr
 cases hr;simp only[p9,aw] at ao;obtain⟨ρ2,⟨ρ1,hρ1,hρ2⟩,hρ3⟩:=ao;have h1:=PU _ h jO hρ1;have da:=h1;obtain⟨σ1,dP,aQ,i1⟩:=da;have KH:holds gs ρ1=holds gs O:=by
  cases gs with
  |nil=>rfl
  |cons g cd=>
   have hb:=(PI.runs_but hρ1).r
   have:∀x,x∈(g::cd)->ρ1.r x.1=O.r x.1:=λx hm=>hb x.1 (by
        intro cL;exact ZB _ jO x.1 cL)
   exact aaM this
 cases hh:holds gs O with
 |true=>
  simp only[if_true];rw[hh] at KH;refine ajq i1 hC aR hΦ ht vU KH nA ρ2 hρ2 K Q (λa' w' fW aH=>?_);exact hK a' w' (PU (r:=r3) _ fW yG hρ3) aH
 |false=>
  simp only[xA,if_false];rw[hh] at KH;cases gs with
  |nil=>simp[holds] at hh
  |cons g cd=>
   obtain⟨dst,S2,s,hd,hS,vO,hns,n1,n2,n3⟩:=ajo nA;obtain⟨t1,t2⟩:=ht dst hd;have ly:post C r2.1 o=[]:=by
        unfold post;split
        .rename_i x t e _;exact absurd e (n1 x)
        .rename_i T t e _;exact absurd e (n2 T)
        .rename_i T x v e;exact absurd e (n3 T x v)
        .rfl
   rw[ly] at yG;simp only[kI,aS] at yG;subst yG;have:=oR hρ3;subst this;obtain⟨σ2,jS,i2⟩:∃σ2 jS,Inv C S2 ρ1 σ2 jS aQ w0 σ0 A a w:=by
        rcases vO with⟨js,rfl⟩|⟨j,rfl⟩
        .obtain⟨σ2,jS,_,i2⟩:=Inv.fzs js i1;exact⟨σ2,jS,i2⟩
        .exact⟨σ1,dP,i1.kill j⟩
   have E7:=i2.passed t1 t2 vU KH (s:=s) hns (O'.r dst);have hρe:ρ1.setR dst (O'.r dst)=O':=by
        have hb:=PI.runs_but hρ2;simp only[j8,hd] at hc;unfold aeb at hc;rw[bJ] at hc
        have e1:∀t,t≠dst->O'.r t=ρ1.r t:=λt aB=>hb.r t (λhm=>by
         obtain⟨p,hp,wc⟩:=iM.1 hm;have:=hc p hp;simp only[aq] at this;have:=bJ.1 this.1 t wc;exact aB (aA this).symm)
        have e2:∀t,O'.o t=ρ1.o t:=λt=>hb.o t (λhm=>by
         obtain⟨p,hp,wc⟩:=iM.1 hm;have:=hc p hp;simp only[aq] at this;have h9:=tC.1 this.2;rw[h9] at wc;cases wc)
        have r1:cv ρ1.r dst (O'.r dst)=O'.r:=by
         funext t;rw[gm];split
         .rename_i e;subst e;rfl
         .rename_i aB;exact(e1 t aB).symm
        have r2:ρ1.o=O'.o:=funext λt=>(e2 t).symm;cases O' with|mk a b=>simp only[Env.setR] at r1 r2 ⊢;rw[r1,r2]
   rw[hρe] at E7;have iP:(λu=>A u\/o.dst=some u)=(λu=>A u\/u=dst):=by funext u;rw[hd];simp[eq_comm]
   rw[iP] at hK;rw[hd];refine hK _ _ ?_ (size_put _ _ _);simp only;rw[hS];exact⟨_,_,_,E7⟩
def ajj (h:Good C w0 σ0 S O A a w)(hC:CtxOK C σ0)(aR:eU C)(hΦ:ei C Z){ops:Array Oper}{o:Oper}(ht:∀d,o.dst=some d->¬A d/\d<a.tmps.size)
 (hj:∀j want t,o.guard=some (j,want)->(ops[j]?).bind (·.dst)=some t->A t) {r:St×List PI} (hr:A7 C S ops o=some r) {O':Env} (ao:PI.runs Z r.2 O=some O')
 {K:Act->World->Prop} {Q:Exit->Act->World->Prop} (hK:∀a' w',Good C w0 σ0 r.1 O' (λu=>A u\/o.dst=some u) a' w'->a'.tmps.size=a.tmps.size->K a' w'):
 if Region.wanted o (yielded ops a.tmps) then o.wp C.P a w K Q else K (a.put o.dst undef) w:=by
 unfold A7 at hr;split at hr
 .rename_i q hq;cases hr;exact ajh h hC aR hΦ ht hj hq ao hK
 .cases hr;simp[PI.runs,PI.run,Hm,PE.ev,D.b_bool] at ao
end
def pU:Op->Bool
 |.defer _=>false
 |_=>true
def FR (rd:Option Nat):Fence:={Fence.wide with round:=rd}
def Yr {rd:Option Nat}{n:Nat}{P:Program}{f:FuncId}{args:Array Value}{w:World}{R:Ending->World->Prop}(h:Calls P f args w R):CallsIn (FR rd) n P f args w R:=
 (callsIn_wide (n:=n)).2 h
def aeh {rd:Option Nat}{n:Nat}{P:Program}{o:Oper}{a:Act}{w:World}{K:Act->World->Prop}{Q:Exit->Act->World->Prop}(bn:pU o.op=true)(h:o.wp P a w K Q):o.wpIn (FR rd) n P a w K Q:=by
 refine⟨λ_ _=>trivial,?_⟩;rw[Oper.semAt_eq _ _ _ (λc e=>by rw[e] at bn;cases bn)];unfold Oper.wp at h;generalize (execOp a.eval o).run P w=x at h;have eY:∀{p:Prop},((FR rd).depth.isSome=true->p):=λe=>by cases e
 cases x with
 |ok v w'=>
  cases v with
  |value v=>exact h
  |skip=>exact h
  |defer d=>exact h
  |enter f args=>
   refine⟨eY,(Yr h).mono λe lO hh=>?_⟩;cases e<;>exact hh
  |row row args=>
   refine⟨eY,λc cs _=>?_⟩;obtain⟨v,w2,h1,h2⟩:=h c cs;exact⟨v,w2,h1,stepsIn_wide.2 h2⟩
  |_=>exact h.elim
 |halt v w'=>
  cases v with
  |panic v=>exact h
  |_=>exact h.elim
structure SameBut (D:Nat->Prop) (a a':Act):Prop where
 size:a'.tmps.size=a.tmps.size
 get:∀t,¬D t->a'.tmps.getD t undef=a.tmps.getD t undef
def SameBut.refl (D:Nat->Prop)(a:Act):SameBut D a a:=⟨rfl,λ_ _=>rfl⟩
def SameBut.trans {D:Nat->Prop}{a b c:Act}(h:SameBut D a b)(k:SameBut D b c):SameBut D a c:=⟨k.size.trans h.size,λt ht=>(k.get t ht).trans (h.get t ht)⟩
def SameBut.mono {D D':Nat->Prop}{a b:Act}(h:SameBut D a b)(hd:∀t,D t->D' t):SameBut D' a b:=⟨h.size,λt ht=>h.get t λe=>ht (hd t e)⟩
def SameBut.put (a:Act)(d:Option Tmp)(v:Value)(ds:List Deferred):SameBut (λt=>d=some t) a ({a with defers:=ds}.put d v):=by
 refine⟨size_put _ _ _,λt ht=>?_⟩;cases d with
 |none=>rfl
 |some u=>
  have:t≠u:=λe=>ht (by rw[e]);rw[zz];simp[this]
def Oper.wp_same {P:Program}{o:Oper}{a:Act}{w:World}{K:Act->World->Prop}{Q:Exit->Act->World->Prop}(h:o.wp P a w (λa' w'=>SameBut (λt=>o.dst=some t) a a'->K a' w') Q):o.wp P a w K Q:=by
 unfold Oper.wp at h ⊢;generalize (execOp a.eval o).run P w=x at h ⊢;cases x with
 |ok v w'=>
  cases v with
  |value v=>exact h (SameBut.put a _ _ a.defers)
  |skip=>exact h (SameBut.put a _ _ a.defers)
  |defer d=>exact h (SameBut.put a _ _ _)
  |enter f args=>
   refine Calls.mono h λe lO hh=>?_;cases e with
   |returned v=>exact hh (SameBut.put a _ _ a.defers)
   |panicked c=>exact hh
   |outgrown=>exact hh
  |row row args=>exact Rows.mono h λv lO hh=>hh (SameBut.put a _ _ a.defers)
  |_=>exact h
 |halt v w'=>
  cases v with
  |panic v=>exact h
  |_=>exact h
def X2 (P:Program)(v:Value)(args:List Value)(w:World)(R:Value->World->Prop):Prop:=
 ∀(rd:Option Nat) (o:Oper) (a:Act) (x:Operand) (aa:Array Operand) (ts:Array TypeId) (K:Act->World->Prop) (Q:Exit->Act->World->Prop),
  o.op=.call {callee:=.value x,args:=aa,argTypes:=ts}->a.eval x=v->aa.toList.map a.eval=args->(∀u w',R u w'->K (a.put o.dst u) w')->o.wpIn (FR rd) 0 P a w K Q
def ahr:Nat:=1000000009
def rL (C:Ctx)(Z:aV)(w0:World)(σ0:Base):Prop:=∀J ys,C.yl=some (J,ys)->σ0.B=0/\(∀t fx cx w,σ0.F t fx cx w->∃xs,t=.list xs)/\
 ∀(xs ds':List D) (d:D),Z ahr [.list (xs++[.tup ds'])]=some d->∀(fx cx:Nat->Prop) (w1:World) (σ1:Im) (args:List Value),σ0.F (.list xs) fx cx w1->σ1.ok w1->rE C σ1 ys args ds'->
  (∀k o x,σ1.c k o=some x->¬cx k)->(∀k x,σ1.m k=some x->¬cx k)->
  (∀k o x,σ1.c k o=some x->σ0.c k o=some x\/w0.heap.size<=k)->(∀k x,σ1.m k=some x->σ0.m k=some x\/w0.heap.size<=k)->
  X2 C.P C.yv args w1 λu w2=>∃b,d=.v (.bool b)/\u=.bool b/\Below 0 w1 w2/\(∀k,k<w1.heap.size->¬cx k->w2.heap[k]?=w1.heap[k]?)/\
   ∃qy mD,σ0.F (.list (xs++[.tup ds'])) qy mD w2/\(∀k,qy k->k<w1.heap.size->fx k\/(∃o x,σ1.c k o=some x)\/(∃x,σ1.m k=some x/\x≠dw))/\(∀k,mD k->k<w1.heap.size->cx k)
def Nr (gs:List (Nat×Bool))(J:Nat)(x:PE):PE:=
 match gs with
 |[]=>.app (.o J) (.lst [x])
 |_=>.pick (.nt (.imp gs (.con (.v (.bool false))))) (.app (.o J) (.lst [x])) (.o J)
def A8 (C:Ctx)(S:St)(ops:Array Oper)(o:Oper):Option (St×List PI):=
 match o.dst,o.op,C.yl with
 |some dst,.call {callee:=.value (.tmp t),args:=args,..},some (J,ys)=>
  (qz S ops o).bind λgs=>
    match lM S gs t with
    |.yv=>
     match(S.fzs (cj S gs args.toList)).o J with
     |.tr=>
      (lN C (S.fzs (cj S gs args.toList)) gs args.toList).bind λu=>
        bif Ty.subs u.1 ys then some ((S.fzs (cj S gs args.toList)).setR dst (j7 gs (.dat .bool)),[.setO J (Nr gs J (.tup u.2)),.call gs dst ahr [.o J]]) else none
     |_=>none
    |_=>none
 |_,_,_=>none
def qs (C:Ctx)(S:St)(ops:Array Oper)(o:Oper):Option (St×List PI):=
 match A8 C S ops o with
 |some r=>some r
 |none=>A7 C S ops o
section
variable {C:Ctx} {S:St} {O:Env} {V:Im} {own:Nat->Option Nat} {hv:Nat->Value} {w0:World} {σ0:Base} {A:Nat->Prop} {a:Act} {w:World} {gs:List (Nat×Bool)} {Z:aV} {dst:Nat}
def auQ (gs:List (Nat×Bool))(J:Nat)(x:PE)(O:Env):(Nr gs J x).ev O=if holds gs O=true then .list ((O.o J).l++[x.ev O]) else O.o J:=by
 cases gs with
 |nil=>simp[Nr,PE.ev,PE.evs,holds,D.l_list]
 |cons g gs=>
  simp only[Nr,PE.ev,PE.evs,D.b_bool,D.l_list,vj,Bool.not_not];cases holds (g::gs) O<;>rfl
def Inv.yielded (h:Inv C S O V own hv w0 σ0 A a w)(hB:σ0.B=0){J:Nat}{ys:List Ty}(hJ:C.yl=some (J,ys))(Kl:S.o J=.tr){w2:World}(hb:Below 0 w w2){t:D}{fx cx:Nat->Prop}(hf:FrOK V own w0.heap.size σ0 w t fx cx)
 (hs:∀k,k<w.heap.size->¬cx k->w2.heap[k]?=w.heap[k]?) {t':D} {qy mD:Nat->Prop} (hF:σ0.F t' qy mD w2)
 (h1:∀k,qy k->k<w.heap.size->fx k\/(∃o x,V.c k o=some x)\/(∃x,V.m k=some x/\x≠dw)) (h2:∀k,mD k->k<w.heap.size->cx k):Inv C S (O.setO J t') V own hv w0 σ0 A a w2:=by
 have bU:=σ0.sub _ _ _ _ hf.F;have dY:∀k o x,V.c k o=some x->w2.heap[k]?=w.heap[k]?:=λk o x e=>hs k (h.lt e) (hf.c k o x e);have BG:∀k x,V.m k=some x->w2.heap[k]?=w.heap[k]?:=λk x e=>hs k (h.ltm e) (hf.m k x e);have QZ:∀k j,own k=some j->w2.heap[k]?=w.heap[k]?:=λk j e=>hs k (h.owns k j e).2.1 λhc=>hf.own k j e (bU k hc)
 refine⟨h.defers,⟨λk o v e=>by rw[World.cell?_of_block (dY k o v e)];exact h.ok.c k o v e,λk x e=>(h.ok.m k x e).keep (BG k x e)⟩,h.le,h.old,h.newc,h.newm,h.below.trans (hb.mono (by omega)),h.bw,
  λk j e=>let⟨g1,g2,g3⟩:=h.owns k j e;⟨g1,xG g2 hb.size,g3⟩,λu=>aK.mono (S:=S) (O:=O) (O':=O.setO J t') (.refl V) (.refl S hv) (d:=O.r u) (λ_ _ _=>rfl) (λgs s e=>(h.opts u gs s e).2) (h.regs u),λj=>?_,h.opts,
  t',qy,mD,⟨hF,λk j e hk=>?_,λk o x e hc=>hf.c k o x e (h2 k hc (h.lt e)),λk x e hc=>hf.m k x e (h2 k hc (h.ltm e)),λk e mJ hk=>?_⟩,λj hj=>?_⟩
 .by_cases BE:j=J
  .subst BE;rw[Kl];trivial
  .exact(h.objs j).mono (.refl V) (.refl S hv) rfl (by simp[Env.setO,bt _ _ BE]) (λk e=>⟨e,QZ k j e⟩)
 .obtain⟨_,g2,g3,g4⟩:=h.owns k j e;rcases h1 k hk g2 with e1|⟨o,x,e1⟩|⟨x,e1,_⟩
  .exact hf.own k j e e1
  .rw[g3 o] at e1;cases e1
  .rw[g4] at e1;cases e1
 .rcases h1 k hk (h.ltm e) with e1|⟨o,x,e1⟩|⟨x,e1,e2⟩
  .exact hf.d k e mJ e1
  .have c1:=h.ok.c k o x e1;rcases h.ok.m k _ e with⟨m1,_⟩|⟨_,m2⟩
   .exact m1 rfl
   .simp[World.cell?,m2] at c1
  .rw[e] at e1;cases e1;exact e2 rfl
 .obtain⟨_,_,_,_,ht⟩:=h.frame;obtain⟨⟨ys',e1⟩,_⟩:=ht j hj;rw[hJ] at e1;cases e1;exact⟨⟨_,hJ⟩,aO _ _ _⟩
def ajk {rd:Option Nat}(h:Good C w0 σ0 S O A a w)(hC:CtxOK C σ0)(hY:rL C Z w0 σ0){ops:Array Oper}{o:Oper}(ht:∀d,o.dst=some d->¬A d/\d<a.tmps.size)
 (hj:∀j want t,o.guard=some (j,want)->(ops[j]?).bind (·.dst)=some t->A t) {r:St×List PI} (hr:A8 C S ops o=some r) {O':Env} (ao:PI.runs Z r.2 O=some O')
 {K:Act->World->Prop} {Q:Exit->Act->World->Prop} (hK:∀a' w',Good C w0 σ0 r.1 O' (λu=>A u\/o.dst=some u) a' w'->SameBut (λt=>o.dst=some t) a a'->K a' w'):
 if Region.wanted o (yielded ops a.tmps) then o.wpIn (FR rd) 0 C.P a w K Q else K (a.put o.dst undef) w:=by
 unfold A8 at hr;split at hr
 case h_2=>cases hr
 rename_i _ _ dst t args ts J ys hd bT nD;simp only[aw] at hr;obtain⟨gs,eK,hr⟩:=hr;split at hr
 case h_2=>cases hr
 rename_i RE;split at hr
 case h_2=>cases hr
 rename_i Kl;simp only[aw] at hr;obtain⟨u,hu,hr⟩:=hr;cases bU:Ty.subs u.1 ys<;>simp only[bU,zyx,zyw] at hr
 .cases hr
 cases hr;have vU:=ZE h eK hj;rw[ZF h eK];obtain⟨V,own,hv,i⟩:=h;obtain⟨σ1,dP,hle,i1⟩:=Inv.fzs (cj S gs args.toList) i;obtain⟨t1,t2⟩:=ht dst hd;have iP:(λu=>A u\/o.dst=some u)=(λu=>A u\/u=dst):=by funext u;rw[hd];simp[eq_comm]
 rw[iP] at hK;simp only[PI.runs,PI.run,lh,auQ,aw] at ao;cases hh:holds gs O with
 |false=>
  simp only[hh,xA,if_false] at ao ⊢;have e1:O.setO J (O.o J)=O:=by
   cases O with|mk r o=>simp only[Env.setO];congr 1;funext x;rw[gm];split<;>simp_all
  rw[e1,hh] at ao;obtain⟨ρ1,e2,e3⟩:=ao;cases e2;cases e3;cases gs with
  |nil=>simp[holds] at hh
  |cons g cd=>
   have E7:=i1.passed t1 t2 vU hh (s:=.dat .bool) (λ_ _ e=>by cases e) (O.r dst);have e4:O.setR dst (O.r dst)=O:=by
        cases O with|mk r o=>simp only[Env.setR];congr 1;funext x;rw[gm];split<;>simp_all
   rw[e4] at E7;rw[hd];exact hK _ _ ⟨_,_,_,E7⟩ (by rw[hd];exact SameBut.put a (some dst) undef a.defers)
 |true=>
  simp only[hh,if_true] at ao ⊢;have jI:=C7 i1 hC hh hu bU;obtain⟨tr,fx,cx,hf,yN⟩:=i1.frame;obtain⟨_,hρJ⟩:=yN J Kl;obtain⟨hB,anH,ao0⟩:=hY J ys nD;obtain⟨xs,rfl⟩:=anH _ _ _ _ hf.F;rw[hρJ] at ao;simp only[D.l_list,PE.ev] at ao;obtain⟨ρ1,e2,e3⟩:=ao;cases e3;have hh2:holds gs (O.setO J (.list (xs++[.tup (PE.evs O u.2)])))=true:=hh;rw[hh2] at e2;simp only[zyx,PE.evs,PE.ev,Env.setO,aO,aC] at e2;obtain⟨d,e4,e5⟩:=e2;have hy:=ao0 xs (PE.evs O u.2) d e4 fx cx w σ1 (args.toList.map a.eval) hf.F i1.ok jI hf.c hf.m i1.newc i1.newm;have cO:a.eval (.tmp t)=C.yv:=by
   have:=(nQ i hh t).1;rw[RE] at this;have h9:a.tmps.getD t undef=C.yv:=this;simpa [Act.eval] using h9
  refine hy rd o a (.tmp t) args ts K Q bT cO rfl λv w2 ly=>?_;obtain⟨b,rfl,rfl,hb,hs,qy,mD,hF,h1,h2⟩:=ly;have i2:=i1.yielded hB nD Kl hb hf hs hF h1 h2;refine hK _ _ ?_ (SameBut.put a _ _ a.defers);rw[hd,<-e5];change Good C w0 σ0 _ ((O.setO J (.list (xs++[.tup (PE.evs O u.2)]))).setR dst (.v (.bool b))) _ _ _;have hh3:holds gs ((O.setO J (.list (xs++[.tup (PE.evs O u.2)]))).setR dst (.v (.bool b)))=true:=by
   rw[E4 (t:=dst) λg hm e=>t1 (by rw[<-e];exact vU g hm)];exact hh2
  cases gs with
  |nil=>exact⟨_,_,_,i2.setReg t1 (s:=.dat .bool) (.bool b) t2 (λ_ _ e=>by cases e)⟩
  |cons g cd=>
   refine⟨_,_,_,i2.setReg t1 (s:=.opt (g::cd) (.dat .bool)) ⟨λ_=>.bool b,λe=>absurd (hh3.symm.trans e) (by decide)⟩ t2 (λgs s e=>?_)⟩;cases e;exact⟨vU,λ_ _ e=>by cases e⟩
def JR {rd:Option Nat}(h:Good C w0 σ0 S O A a w)(hC:CtxOK C σ0)(aR:eU C)(hΦ:ei C Z)(hY:rL C Z w0 σ0){ops:Array Oper}{o:Oper}(bn:pU o.op=true)(ht:∀d,o.dst=some d->¬A d/\d<a.tmps.size)
 (hj:∀j want t,o.guard=some (j,want)->(ops[j]?).bind (·.dst)=some t->A t) {r:St×List PI} (hr:qs C S ops o=some r) {O':Env} (ao:PI.runs Z r.2 O=some O')
 {K:Act->World->Prop} {Q:Exit->Act->World->Prop} (hK:∀a' w',Good C w0 σ0 r.1 O' (λu=>A u\/o.dst=some u) a' w'->SameBut (λt=>o.dst=some t) a a'->K a' w'):
 if Region.wanted o (yielded ops a.tmps) then o.wpIn (FR rd) 0 C.P a w K Q else K (a.put o.dst undef) w:=by
 unfold qs at hr;split at hr
 .rename_i q hq;cases hr;exact ajk h hC hY ht hj hq ao hK
 .have:=ajj (K:=λa' w'=>SameBut (λt=>o.dst=some t) a a'->K a' w') (Q:=Q) h hC aR hΦ ht hj hr ao (λa' w' g _ hs=>hK a' w' g hs);split
  .rename_i hw;rw[if_pos hw] at this;exact aeh bn (Oper.wp_same this)
  .rename_i hw;rw[if_neg hw] at this;exact this (SameBut.put a _ _ a.defers)
end
def pv (C:Ctx)(ops:Array Oper):List Nat->St->Option (St×List PI)
 |[],S=>some (S,[])
 |i::l,S=>
  match ops[i]? with
  |some o=>(qs C S ops o).bind λr=>(pv C ops l r.1).map λq=>(q.1,r.2++q.2)
  |none=>none
def sV (n:Nat)(ops:Array Oper):Bool:=
 iy (ops.toList.filterMap (·.dst))&&ops.toList.all λo=>pU o.op&&match o.dst with|some d=>Nat.blt d n|none=>true
section
variable {C:Ctx} {S:St} {O:Env} {V:Im} {own:Nat->Option Nat} {hv:Nat->Value} {w0:World} {σ0:Base} {A:Nat->Prop} {a:Act} {w:World} {gs:List (Nat×Bool)} {Z:aV} {dst:Nat}
def nf (ops:Array Oper)(done:List Nat):Nat->Prop:=λt=>∃i o,i∈done/\ops[i]?=some o/\o.dst=some t
def xT.dst_once {ops:Array Oper}(bn:(ops.toList.filterMap (·.dst)).Nodup){i j:Nat}{o o':Oper}{d:Nat}(hi:ops[i]?=some o)(hj:ops[j]?=some o')(hd:o.dst=some d)(fI:o'.dst=some d)(aB:i≠j):False:=by
 have key:∀(l:List Oper),(l.filterMap (·.dst)).Nodup->∀(i j:Nat) (o o':Oper),l[i]?=some o->l[j]?=some o'->o.dst=some d->o'.dst=some d->i=j:=by
  intro l
  induction l with
  |nil=>intro _ i j o o' hi;simp at hi
  |cons x l ih=>
   intro bn i j o o' hi hj hd fI;have cL:∀(k:Nat) (y:Oper),l[k]?=some y->y.dst=some d->d∈l.filterMap (·.dst):=λk y hk hy=>vp.2 ⟨y,lf hk,hy⟩;cases hx:x.dst with
   |none=>
    rw[List.filterMap_cons_none hx] at bn;cases i with
    |zero=>simp at hi;subst hi;rw[hx] at hd;cases hd
    |succ i=>
     cases j with
     |zero=>simp at hj;subst hj;rw[hx] at fI;cases fI
     |succ j=>simp at hi hj;rw[ih bn i j o o' hi hj hd fI]
   |some y=>
    rw[List.filterMap_cons_some hx,nX] at bn;cases i with
    |zero=>
     simp at hi;subst hi;rw[hx] at hd;cases hd;cases j with
     |zero=>rfl
     |succ j=>simp at hj;exact absurd (cL j o' hj fI) bn.1
    |succ i=>
     cases j with
     |zero=>
      simp at hj;subst hj;rw[hx] at fI;cases fI;simp at hi;exact absurd (cL i o hi hd) bn.1
     |succ j=>simp at hi hj;rw[ih bn.2 i j o o' hi hj hd fI]
 exact aB (key ops.toList bn i j o o' (by simpa using hi) (by simpa using hj) hd fI)
def rU (ops:Array Oper):Nat->Prop:=λt=>∃o,o∈ops.toList/\o.dst=some t
def xT (hC:CtxOK C σ0)(aR:eU C)(hΦ:ei C Z)(hY:rL C Z w0 σ0){ops:Array Oper}{n:Nat}(az:sV n ops=true){rd:Option Nat}{Q:Exit->Act->World->Prop}:
 ∀(l done:List Nat) {S:St} {O O':Env} {a:Act} {w:World} {r:St×List PI},(done++l).Nodup->(∀p i q o j want,l=p++i::q->ops[i]?=some o->o.guard=some (j,want)->j∈done++p)->
  a.tmps.size=n->Good C w0 σ0 S O (nf ops done) a w->pv C ops l S=some r->PI.runs Z r.2 O=some O'->
  (∀a' w',SameBut (rU ops) a a'->Good C w0 σ0 r.1 O' (nf ops (done++l)) a' w'->Q .normal a' w')->wpOpsIn (FR rd) 0 C.P ops Q l a w:=by
 simp only[sV,aq] at az;have bn:=nJ az.1;intro l
 induction l with
 |nil=>
  intro done S O O' a w r _ _ aH h hr ao hQ;simp only[pv,aS] at hr;subst hr;rw[oR ao] at hQ;simp only[wpOpsIn];exact hQ a w (.refl _ _) (by simpa using h)
 |cons i l ih=>
  intro done S O O' a w r Qn il aH h hr ao hQ;simp only[pv] at hr;split at hr
  case h_2=>cases hr
  rename_i o ho;simp only[aw,aC] at hr;obtain⟨r1,jO,q,hq,rfl⟩:=hr;simp only[p9,aw] at ao;obtain⟨ρ1,hρ1,hρ2⟩:=ao;have sm:∀d,o.dst=some d->¬nf ops done d/\d<a.tmps.size:=by
   intro d hd;refine⟨λ⟨i',o',cN,eC,fI⟩=>?_,?_⟩
   ·
        have aB:i'≠i:=by
         intro e;subst e;rw[zR] at Qn;exact Qn.2.2 i' cN i' (er ..) rfl
        exact xT.dst_once bn eC ho fI hd aB
   .have:=bJ.1 az.2 o (by
     have:=iX ho;simpa using this)
    simp only[hd,aq] at this;rw[aH];simpa [jB] using this.2
  have hj:∀j want t,o.guard=some (j,want)->(ops[j]?).bind (·.dst)=some t->nf ops done t:=by
   intro j want t hg ht;have:=il [] i l o j want rfl ho hg;simp only[mz] at this;rw[aw] at ht;obtain⟨oj,h1,h2⟩:=ht;exact⟨j,oj,this,h1,h2⟩
  have kP:pU o.op=true:=by
   have:=bJ.1 az.2 o (by simpa using iX ho);simp only[aq] at this;exact this.1
  have main:=JR (rd:=rd) (K:=wpOpsIn (FR rd) 0 C.P ops Q l) (Q:=Q) h hC aR hΦ hY kP sm hj jO hρ1 (λa' w' fW gz=>by
   have sv:=gz.size;refine ih (done++[i]) (by simpa using Qn) (λp i' q' o' j want e eC anh=>?_) (sv.trans aH) ?_ hq hρ2 (λa2 w2 s2 g2=>hQ a2 w2 ((gz.mono λt e=>⟨o,by simpa using iX ho,e⟩).trans s2) (by simpa using g2))
   .have:=il (i::p) i' q' o' j want (by rw[e];rfl) eC anh;simpa using this
   .have:(λu=>nf ops done u\/o.dst=some u)=nf ops (done++[i]):=by
     funext u;apply propext;constructor
     .rintro(⟨i',o',h1,h2,h3⟩|h1)
      .exact⟨i',o',by simp[h1],h2,h3⟩
      .exact⟨i,o,by simp,ho,h1⟩
     .rintro⟨i',o',h1,h2,h3⟩;rcases dm.1 h1 with h4|h4
      .exact .inl ⟨i',o',h4,h2,h3⟩
      .simp at h4;subst h4;rw[ho] at h2;cases h2;exact .inr h3
    rw[<-this];exact fW)
  simp only[wpOpsIn,ho];split
  .rename_i hw;rw[if_pos hw] at main;exact main
  .rename_i hw;rw[if_neg hw] at main;exact⟨λ_ _=>trivial,main⟩
end
def X4 (S:St):AgC->Bool
 |.dat _=>true
 |.obj j ver=>Nat.beq ver (S.ver j)
def AgC.zero:AgC->AgC
 |.dat t=>.dat t
 |.obj j _=>.obj j 0
def gf (S:St):Sh->Sh
 |.none=>.none
 |.dat t=>.dat t
 |.obj j ver=>bif Nat.beq ver (S.ver j) then .obj j 0 else .none
 |.ptr j ver off=>bif Nat.beq ver (S.ver j) then .ptr j 0 off else .none
 |.eptr j ver size off=>bif Nat.beq ver (S.ver j) then .eptr j 0 size off else .none
 |.opt _ _=>.none
 |.yv=>.yv
 |.fclo f caps=>bif caps.all (λc=>Nat.beq c.2 (S.ver c.1)) then .fclo f (caps.map λc=>(c.1,0)) else .none
 |.agg l=>bif l.all (X4 S) then .agg (l.map AgC.zero) else .none
def jr (S:St):Ob->Ob
 |.box ag shs=>.box ag (shs.map (gf S))
 |ob=>ob
def St.norm (S:St):St:=⟨λt=>gf S (S.r t),λj=>jr S (S.o j),λ_=>0⟩
def kr:Sh->Sh->Sh
 |.dat a,.dat b=>bif Ty.sub a b then .dat b else bif Ty.sub b a then .dat a else .none
 |.obj j v,.obj k u=>bif Nat.beq j k&&Nat.beq v u then .obj j v else .none
 |.ptr j v o,.ptr k u p=>bif Nat.beq j k&&Nat.beq v u&&Nat.beq o p then .ptr j v o else .none
 |.eptr j v s o,.eptr k u t p=>bif Nat.beq j k&&Nat.beq v u&&Nat.beq s t&&Nat.beq o p then .eptr j v s o else .none
 |.yv,.yv=>.yv
 |.fclo f a,.fclo g b=>bif Nat.beq f g&&xN a b then .fclo f a else .none
 |_,_=>.none
def y3:List Sh->List Sh->Option (List Sh)
 |[],[]=>some []
 |a::aa,b::bs=>(y3 aa bs).map (kr a b::·)
 |_,_=>none
def oN:Ob->Ob->Ob
 |.fz a,.fz b=>bif Ty.beq a b then .fz a else .dead
 |.fbox a,.fbox b=>bif Ty.beq a b then .fbox a else .dead
 |.box ag aa,.box bg bs=>bif ag==bg then(match y3 aa bs with|some cs=>.box ag cs|none=>.dead) else .dead
 |.row T e,.row U f=>bif Nat.beq T U&&Ty.beq e f then .row T e else .dead
 |.mp k e,.mp l f=>bif Ty.beq k l&&Ty.beq e f then .mp k e else .dead
 |.it k e,.it l f=>bif Ty.beq k l&&Ty.beq e f then .it k e else .dead
 |.tr,.tr=>.tr
 |_,_=>.dead
section
variable {C:Ctx} {S:St} {O:Env} {V:Im} {own:Nat->Option Nat} {hv:Nat->Value} {w0:World} {σ0:Base} {A:Nat->Prop} {a:Act} {w:World} {gs:List (Nat×Bool)} {Z:aV} {dst:Nat}
def LH {s:Sh}{v:Value}{d:D}(h:aK C S O V hv s v d):aK C S.norm O V hv (gf S s) v d/\∀gs s',gf S s≠.opt gs s':=by
 cases s with
 |none=>exact⟨trivial,λ_ _ e=>by cases e⟩
 |dat t=>exact⟨h,λ_ _ e=>by cases e⟩
 |obj j ver=>
  simp only[gf];cases hb:Nat.beq ver (S.ver j)
  .exact⟨trivial,λ_ _ e=>by cases e⟩
  .exact⟨⟨aY _,λ_=>h.2 (aA hb)⟩,λ_ _ e=>by cases e⟩
 |ptr j ver off=>
  simp only[gf];cases hb:Nat.beq ver (S.ver j)
  .exact⟨trivial,λ_ _ e=>by cases e⟩
  .exact⟨⟨aY _,λ_=>h.2 (aA hb)⟩,λ_ _ e=>by cases e⟩
 |eptr j ver size off=>
  simp only[gf];cases hb:Nat.beq ver (S.ver j)
  .exact⟨trivial,λ_ _ e=>by cases e⟩
  .exact⟨⟨aY _,λ_=>h.2 (aA hb)⟩,λ_ _ e=>by cases e⟩
 |opt gs s=>exact⟨trivial,λ_ _ e=>by cases e⟩
 |yv=>exact⟨h,λ_ _ e=>by cases e⟩
 |agg l=>
  simp only[gf];cases hb:l.all (X4 S)
  .exact⟨trivial,λ_ _ e=>by cases e⟩
  .refine⟨?_,λ_ _ e=>by cases e⟩;obtain⟨vs,ds,h1,h2,h3,h4,h5⟩:=h;refine⟨vs,ds,h1,h2,by simpa using h3,by simpa using h4,λi c hi=>?_⟩;simp only[cV,aC] at hi;obtain⟨c0,hc,rfl⟩:=hi;have:=bJ.1 hb _ (lf hc);have h6:=h5 i c0 hc;cases c0 with
   |dat t=>exact h6
   |obj j ver=>exact⟨aY _,λ_=>h6.2 (aA this)⟩
 |fclo f caps=>
  simp only[gf];cases hb:caps.all (λc=>Nat.beq c.2 (S.ver c.1))
  .exact⟨trivial,λ_ _ e=>by cases e⟩
  .refine⟨?_,λ_ _ e=>by cases e⟩;obtain⟨vs,h1,h2,h3⟩:=h;refine⟨vs,h1,by simpa using h2,λi j ver hi=>?_⟩;simp only[cV,aC] at hi;obtain⟨⟨j',v'⟩,hc,e⟩:=hi;cases e;have:=bJ.1 hb _ (lf hc);exact⟨aY _,λ_=>(h3 i _ _ hc).2 (aA this)⟩
def Inv.weaken (h:Inv C S O V own hv w0 σ0 A a w){S':St}{O':Env}(hr:∀t,aK C S' O' V hv (S'.r t) (a.tmps.getD t undef) (O'.r t))(ho:∀j,cR C S' O' V own hv w w0.heap.size j (S'.o j))
 (hn:∀t gs s,S'.r t≠.opt gs s) (ht:∀j,S'.o j=.tr->S.o j=.tr/\O'.o j=O.o j):Inv C S' O' V own hv w0 σ0 (λ_=>False) a w:=
 ⟨h.defers,h.ok,h.le,h.old,h.newc,h.newm,h.below,h.bw,h.owns,hr,ho,λt gs s e=>absurd e (hn t gs s),by
   obtain⟨t,fx,cx,h1,h5⟩:=h.frame;exact⟨t,fx,cx,h1,λj hj=>by rw[(ht j hj).2];exact h5 j (ht j hj).1⟩⟩
def acC {ob:Ob}(h:jr S ob=.tr):ob=.tr:=by
 cases ob<;>simp only[jr] at h<;>first|rfl|cases h
def aqS {x y:Ob}(h:oN x y=.tr):x=.tr/\y=.tr:=by
 cases x<;>cases y<;>simp only[oN] at h<;>first
  |exact⟨rfl,rfl⟩
  |(cases h;done)
  |skip
 .rename_i a b;cases hb:Ty.beq a b<;>rw[hb] at h<;>cases h
 .rename_i a b;cases hb:Ty.beq a b<;>rw[hb] at h<;>cases h
 .rename_i ag aa bg bs;cases hb:ag==bg<;>rw[hb] at h
  .cases h
  .simp only[zyx] at h;split at h<;>cases h
 .rename_i T e U f;cases hb:(Nat.beq T U&&Ty.beq e f)<;>rw[hb] at h<;>cases h
 .rename_i T e U f;cases hb:(Ty.beq T U&&Ty.beq e f)<;>rw[hb] at h<;>cases h
 .rename_i T e U f;cases hb:(Ty.beq T U&&Ty.beq e f)<;>rw[hb] at h<;>cases h
def Inv.norm (h:Inv C S O V own hv w0 σ0 A a w):Inv C S.norm O V own hv w0 σ0 (λ_=>False) a w:=by
 refine h.weaken (λt=>(LH (h.regs t)).1) (λj=>?_) (λt=>(LH (h.regs t)).2) (λj hj=>⟨acC hj,rfl⟩);have ba:=h.objs j;show cR C S.norm O V own hv w w0.heap.size j (jr S (S.o j));cases de:S.o j with
 |box ag shs=>
  rw[de] at ba;obtain⟨k,cs,T,ds,h1,h2,h3,h4,h5,h6,h7⟩:=ba;refine⟨k,cs,T,ds,h1,h2,h3,by simpa using h4,h5,by simpa using h6,λi s hi=>?_⟩;simp only[cV,aC] at hi;obtain⟨s0,Re,rfl⟩:=hi;have:=LH (h7 i s0 Re).2;exact⟨this.2,this.1⟩
 |_=>rw[de] at ba;exact ba
def If {b:Bool}{s:Sh}{v:Value}{d:D}(hs:∀gs s',s≠.opt gs s')(h:b=true->aK C S O V hv s v d):aK C S O V hv (bif b then s else .none) v d/\∀gs s',(bif b then s else Sh.none)≠.opt gs s':=by
 cases b with
 |true=>exact⟨h rfl,hs⟩
 |false=>exact⟨trivial,λ_ _ e=>by cases e⟩
def acu {s u:Sh}{v:Value}{d:D}(h:aK C S O V hv s v d):aK C S O V hv (kr s u) v d/\∀gs s',kr s u≠.opt gs s':=by
 cases s<;>cases u<;>simp only[kr]<;>first
  |exact⟨trivial,λ_ _ e=>by cases e⟩
  |exact If (λ_ _ e=>by cases e) (λ_=>h)
  |exact⟨h,λ_ _ e=>by cases e⟩
  |skip
 rename_i a b;cases h1:Ty.sub a b
 .exact If (λ_ _ e=>by cases e) (λ_=>h)
 .exact⟨Rep.sub h h1,λ_ _ e=>by cases e⟩
def acv {s u:Sh}{v:Value}{d:D}(h:aK C S O V hv u v d):aK C S O V hv (kr s u) v d/\∀gs s',kr s u≠.opt gs s':=by
 cases s<;>cases u<;>simp only[kr]<;>first
  |exact⟨trivial,λ_ _ e=>by cases e⟩
  |exact⟨h,λ_ _ e=>by cases e⟩
  |skip
 .rename_i a b;cases h1:Ty.sub a b
  .exact If (λ_ _ e=>by cases e) (λh2=>Rep.sub h h2)
  .exact⟨h,λ_ _ e=>by cases e⟩
 all_goals
  refine If (λ_ _ e=>by cases e) (λhb=>?_);simp only[aq] at hb
  first
   |(obtain⟨⟨⟨h1,h2⟩,h3⟩,h4⟩:=hb;rw[aA h1,aA h2,aA h3,aA h4];exact h)
   |(obtain⟨⟨h1,h2⟩,h3⟩:=hb;rw[aA h1,aA h2,aA h3];exact h)
   |(obtain⟨h1,h2⟩:=hb;rw[aA h1,aA h2];exact h)
   |(obtain⟨h1,h2⟩:=hb;rw[aA h1,O8 _ _ h2];exact h)
def R3:∀(aa bs cs:List Sh),y3 aa bs=some cs->cs.length=aa.length/\cs.length=bs.length/\∀(i:Nat) (c:Sh),cs[i]?=some c->∃x y,aa[i]?=some x/\bs[i]?=some y/\c=kr x y
 |[],[],cs,h=>by simp[y3] at h;subst h;simp
 |[],b::bs,cs,h=>by simp[y3] at h
 |a::aa,[],cs,h=>by simp[y3] at h
 |a::aa,b::bs,cs,h=>by
  simp only[y3,aC] at h;obtain⟨ds,hd,rfl⟩:=h;obtain⟨h1,h2,h3⟩:=R3 aa bs ds hd;refine⟨by simp[h1],by simp[h2],λi c hi=>?_⟩;cases i with
  |zero=>simp at hi;exact⟨a,b,rfl,rfl,hi.symm⟩
  |succ i=>simp at hi;simpa using h3 i c hi
def aqQ {j B:Nat}{x y:Ob}(h:cR C S O V own hv w B j x):cR C S O V own hv w B j (oN x y):=by
 cases x<;>cases y<;>simp only[oN]<;>first
  |trivial
  |(rename_i a b;cases Ty.beq a b;·trivial
    .exact h)
  |skip
 .rename_i ag aa bg bs;cases ag==bg
  .trivial
  .simp only[zyx];split
   .rename_i cs dY;obtain⟨l1,l2,qH⟩:=R3 aa bs cs dY;obtain⟨k,cells,T,ds,h1,h2,h3,h4,h5,h6,h7⟩:=h;refine⟨k,cells,T,ds,h1,h2,h3,by omega,h5,by omega,λi s hi=>?_⟩;obtain⟨x,y,hx,hy,rfl⟩:=qH i s hi;have:=acu (u:=y) (h7 i x hx).2;exact⟨this.2,this.1⟩
   .trivial
 .rename_i T e U f;cases Nat.beq T U&&Ty.beq e f
  .trivial
  .exact h
 .rename_i T e U f;cases Ty.beq T U&&Ty.beq e f
  .trivial
  .exact h
 .rename_i T e U f;cases Ty.beq T U&&Ty.beq e f
  .trivial
  .exact h
def aqR {j B:Nat}{x y:Ob}(h:cR C S O V own hv w B j y):cR C S O V own hv w B j (oN x y):=by
 cases x<;>cases y<;>simp only[oN]<;>first
  |trivial
  |skip
 .rename_i a b;cases hb:Ty.beq a b
  .trivial
  .rw[Ty.beq_eq _ _ hb];exact h
 .rename_i a b;cases hb:Ty.beq a b
  .trivial
  .rw[Ty.beq_eq _ _ hb];exact h
 .rename_i ag aa bg bs;cases ag==bg
  .trivial
  .simp only[zyx];split
   .rename_i cs dY;obtain⟨l1,l2,qH⟩:=R3 aa bs cs dY;obtain⟨k,cells,T,ds,h1,h2,h3,h4,h5,h6,h7⟩:=h;refine⟨k,cells,T,ds,h1,h2,h3,by omega,h5,by omega,λi s hi=>?_⟩;obtain⟨x,y,hx,hy,rfl⟩:=qH i s hi;have:=acv (s:=x) (h7 i y hy).2;exact⟨this.2,this.1⟩
   .trivial
 .rename_i T e U f;cases hb:(Nat.beq T U&&Ty.beq e f)
  .trivial
  .simp only[aq] at hb;rw[aA hb.1,Ty.beq_eq _ _ hb.2];exact h
 .rename_i T e U f;cases hb:(Ty.beq T U&&Ty.beq e f)
  .trivial
  .simp only[aq] at hb;rw[Ty.beq_eq _ _ hb.1,Ty.beq_eq _ _ hb.2];exact h
 .rename_i T e U f;cases hb:(Ty.beq T U&&Ty.beq e f)
  .trivial
  .simp only[aq] at hb;rw[Ty.beq_eq _ _ hb.1,Ty.beq_eq _ _ hb.2];exact h
end
section
variable {C:Ctx} {S T:St} {O O':Env} {V:Im} {own:Nat->Option Nat} {hv:Nat->Value} {w0:World} {σ0:Base} {A:Nat->Prop} {a:Act} {w:World} {gs:List (Nat×Bool)} {Z:aV} {dst:Nat}
def Inv.env (h:Inv C S O V own hv w0 σ0 (λ_=>False) a w)(hn:∀t gs s,S.r t≠.opt gs s)(hr:∀t,isNone (S.r t)=false->O'.r t=O.r t)(ho:∀j,pP (S.o j)=false->O'.o j=O.o j):
 Inv C S O' V own hv w0 σ0 (λ_=>False) a w:=by
 refine h.weaken (λt=>?_) (λj=>?_) hn (λj hj=>⟨hj,ho j (by rw[hj];rfl)⟩)
 .cases hs:isNone (S.r t) with
  |true=>cases hc:S.r t<;>rw[hc] at hs<;>simp[isNone] at hs;trivial
  |false=>
   rw[hr t hs];exact aK.mono' (.refl V) (.refl S hv) (hn t) (h.regs t)
 .cases hs:pP (S.o j) with
  |true=>cases hc:S.o j<;>rw[hc] at hs<;>simp[pP] at hs;trivial
  |false=>exact(h.objs j).mono (.refl V) (.refl S hv) rfl (ho j hs) (λk hk=>⟨hk,rfl⟩)
end
structure Snap where
 rs:List Sh
 os:List Ob
 deriving Inhabited
def eF:List Nat->List Ob->Nat->Ob
 |i::is,o::os,j=>bif Nat.beq i j then o else eF is os j
 |_,_,_=>.dead
def db:Sh->Sh
 |.opt _ _=>.none
 |s=>s
def Snap.st (ids:List Nat)(s:Snap):St:=⟨λt=>db (s.rs.getD t .none),λj=>eF ids s.os j,λ_=>0⟩
def St.snap (n:Nat)(ids:List Nat)(S:St):Snap:=⟨(List.range n).map λt=>gf S (S.r t),ids.map λj=>jr S (S.o j)⟩
def Snap.beq (a b:Snap):Bool:=zy a.rs b.rs&&B6 a.os b.os
def Snap.beq_eq (a b:Snap)(h:a.beq b=true):a=b:=by
 cases a;cases b;simp only[Snap.beq,aq] at h;rw[UQ _ _ h.1,acH _ _ h.2]
def Snap.meet (a b:Snap):Snap:=⟨List.zipWith kr a.rs b.rs,List.zipWith oN a.os b.os⟩
def axm (s:Sh):∀gs s',db s≠.opt gs s':=by
 intro gs s' e;cases s<;>simp[db] at e
def Snap.noOpt (ids:List Nat)(s:Snap):∀t gs s',(s.st ids).r t≠.opt gs s':=λt=>axm _
section
variable {C:Ctx} {S:St} {O:Env} {V:Im} {own:Nat->Option Nat} {hv:Nat->Value} {w0:World} {σ0:Base} {A:Nat->Prop} {a:Act} {w:World} {n:Nat} {ids:List Nat}
def FG (f:Nat->Ob)(P:Ob->Prop)(hd:P .dead)(j:Nat)(hf:P (f j)):∀ids:List Nat,P (eF ids (ids.map f) j)
 |[]=>hd
 |i::is=>by
  simp only[gq,eF];cases hb:Nat.beq i j
  .exact FG f P hd j hf is
  .rw[aA hb];exact hf
def NF {s:Sh}{v:Value}{d:D}(h:aK C S O V hv s v d):aK C S O V hv (db s) v d:=by
 cases s<;>first|exact h|trivial
def Inv.snap (h:Inv C S O V own hv w0 σ0 A a w)(n:Nat)(ids:List Nat):Inv C ((S.snap n ids).st ids) O V own hv w0 σ0 (λ_=>False) a w:=by
 have h1:=h.norm;have hc:Compat S.norm hv ((S.snap n ids).st ids) hv:=⟨λ_=>aY _,λ_ _=>rfl⟩
 refine h1.weaken (λt=>?_) (λj=>?_) (Snap.noOpt _ _) (λj hj=>⟨FG (λj=>jr S (S.o j)) (λob=>ob=.tr->jr S (S.o j)=.tr) (λe=>by cases e) j id ids hj,rfl⟩)
 .refine aK.mono' (O:=O) (.refl V) hc (Snap.noOpt _ _ t) ?_;show aK C S.norm O V hv (db (((List.range n).map λt=>gf S (S.r t)).getD t .none)) _ _;refine NF ?_;rw[aN,cV];by_cases ht:t<n
  .rw[rH ht];exact h1.regs t
  .rw[tB (by simpa using ht)];trivial
 .have ho:=(h1.objs j).mono (.refl V) hc (w:=w) (w':=w) rfl rfl (λk hk=>⟨hk,rfl⟩);exact FG (λj=>jr S (S.o j)) (λob=>cR C _ O V own hv w w0.heap.size j ob) trivial j ho ids
def NL {f:Sh->Sh->Sh}:∀(x y:List Sh) (t:Nat),(List.zipWith f x y).getD t .none=.none\/∃s u,x.getD t .none=s/\y.getD t .none=u/\(List.zipWith f x y).getD t .none=f s u
 |[],_,t=>.inl (by simp)
 |_::_,[],t=>.inl (by simp)
 |a::aa,b::bs,0=>.inr ⟨a,b,rfl,rfl,rfl⟩
 |a::aa,b::bs,t+1=>by simpa using NL (f:=f) aa bs t
def Ls {f:Ob->Ob->Ob}:∀(ids:List Nat) (x y:List Ob) (j:Nat),eF ids (List.zipWith f x y) j=.dead\/eF ids (List.zipWith f x y) j=f (eF ids x j) (eF ids y j)
 |[],_,_,_=>.inl rfl
 |_::_,[],_,_=>.inl rfl
 |_::_,_::_,[],_=>.inl rfl
 |i::is,a::aa,b::bs,j=>by
  simp only[List.zipWith_cons_cons,eF];cases Nat.beq i j
  .exact Ls is aa bs j
  .exact .inr rfl
def axk {s u:Sh}{v:Value}{d:D}(h:aK C S O V hv (db s) v d):aK C S O V hv (db (kr s u)) v d:=by
 cases hs:s with
 |opt gs s'=>cases u<;>simp[kr,db,aK]
 |_=>rw[hs] at h;exact NF (acu h).1
def axl {s u:Sh}{v:Value}{d:D}(h:aK C S O V hv (db u) v d):aK C S O V hv (db (kr s u)) v d:=by
 cases hs:u with
 |opt gs s'=>cases s<;>simp[kr,db,aK]
 |_=>rw[hs] at h;exact NF (acv h).1
def acw {x y:Snap}{j:Nat}(h:((x.meet y).st ids).o j=.tr):(x.st ids).o j=.tr/\(y.st ids).o j=.tr:=by
 change eF ids (List.zipWith oN x.os y.os) j=.tr at h;rcases Ls (f:=oN) ids x.os y.os j with h0|h0
 .rw[h0] at h;cases h
 .rw[h0] at h;exact aqS h
def Snap.meet_ok1 {x y:Snap}(h:Inv C (x.st ids) O V own hv w0 σ0 A a w):Inv C ((x.meet y).st ids) O V own hv w0 σ0 (λ_=>False) a w:=by
 have hc:Compat (x.st ids) hv ((x.meet y).st ids) hv:=⟨λ_=>aY _,λ_ _=>rfl⟩
 refine h.weaken (λt=>?_) (λj=>?_) (Snap.noOpt _ _) (λj hj=>⟨(acw hj).1,rfl⟩)
 .refine aK.mono' (O:=O) (.refl V) hc (Snap.noOpt _ _ t) ?_;show aK C (x.st ids) O V hv (db ((List.zipWith kr x.rs y.rs).getD t .none)) _ _;rcases NL (f:=kr) x.rs y.rs t with h0|⟨s,u,h1,h2,h3⟩
  .rw[h0];trivial
  .rw[h3];exact axk (by rw[<-h1];exact h.regs t)
 .refine cR.mono (S:=x.st ids) (O:=O) (own:=own) (hv:=hv) (.refl V) hc (w:=w) rfl rfl (λk hk=>⟨hk,rfl⟩) ?_;show cR C _ O V own hv w w0.heap.size j (eF ids (List.zipWith oN x.os y.os) j);rcases Ls (f:=oN) ids x.os y.os j with h0|h0
  .rw[h0];trivial
  .rw[h0];exact aqQ (h.objs j)
def Snap.meet_ok2 {x y:Snap}(h:Inv C (y.st ids) O V own hv w0 σ0 A a w):Inv C ((x.meet y).st ids) O V own hv w0 σ0 (λ_=>False) a w:=by
 have hc:Compat (y.st ids) hv ((x.meet y).st ids) hv:=⟨λ_=>aY _,λ_ _=>rfl⟩
 refine h.weaken (λt=>?_) (λj=>?_) (Snap.noOpt _ _) (λj hj=>⟨(acw hj).2,rfl⟩)
 .refine aK.mono' (O:=O) (.refl V) hc (Snap.noOpt _ _ t) ?_;show aK C (y.st ids) O V hv (db ((List.zipWith kr x.rs y.rs).getD t .none)) _ _;rcases NL (f:=kr) x.rs y.rs t with h0|⟨s,u,h1,h2,h3⟩
  .rw[h0];trivial
  .rw[h3];exact axl (by rw[<-h2];exact h.regs t)
 .refine cR.mono (S:=y.st ids) (O:=O) (own:=own) (hv:=hv) (.refl V) hc (w:=w) rfl rfl (λk hk=>⟨hk,rfl⟩) ?_;show cR C _ O V own hv w w0.heap.size j (eF ids (List.zipWith oN x.os y.os) j);rcases Ls (f:=oN) ids x.os y.os j with h0|h0
  .rw[h0];trivial
  .rw[h0];exact aqR (h.objs j)
end
def wD (C:Ctx)(S:St)(T:TypeId)(x:Operand):List Nat:=
 match fO S [] x,qW C.P T,C.P.info? T with
 |.ptr j _ off,some true,some inf=>(match S.o j with|.box _ shs=>DF ((shs.drop off).take inf.size)|_=>[])
 |_,_,_=>[]
def CT (C:Ctx)(S:St):ResultVar->Option (St×Ty×PE)
 |.tmp t=>(use C (S.fzs (cj S [] [.tmp t])) [] (.tmp t)).map λx=>(S.fzs (cj S [] [.tmp t]),x.1,x.2)
 |.cell b T=>
  match uI C (S.fzs (wD C S T (.tmp b))) [] 0 T (.tmp b) with
  |some (.dat ty,[.setR 0 e])=>some (S.fzs (wD C S T (.tmp b)),ty,e)
  |some (.obj j ver,[.setR _ _])=>
   bif Nat.beq ver (((S.fzs (wD C S T (.tmp b))).fz j).ver j) then
    match((S.fzs (wD C S T (.tmp b))).fz j).o j with
    |.fz ty=>some ((S.fzs (wD C S T (.tmp b))).fz j,ty,.o j)
    |_=>none
   else none
  |_=>none
def u5 (C:Ctx):List ResultVar->St->Option (St×List Ty×List PE)
 |[],S=>some (S,[],[])
 |x::xs,S=>(CT C S x).bind λr=>(u5 C xs r.1).map λq=>(q.1,r.2.1::q.2.1,r.2.2::q.2.2)
def afT (C:Ctx)(fn:Func)(S:St)(res:Ty):Option PE:=
 (u5 C fn.results.toList S).bind λr=>
    match r.2.1,r.2.2 with
    |[ty],[e]=>bif Ty.sub ty res then some e else none
    |gF,es=>bif Ty.sub (.tup gF) res then some (.tup es) else none
def afV (C:Ctx)(fn:Func)(S:St)(T:TypeId)(e:Ty):Option PE:=
 match fn.results.toList with
 |[.tmp t]=>
  match lM S [] t with
  |.obj j ver=>bif Nat.beq ver (S.ver j) then(match S.o j with|.row U f=>bif Nat.beq U T&&Ty.beq f e then some (.o j) else none|_=>none) else none
  |_=>none
 |[.cell b U]=>
  match uI C S [] 0 U (.tmp b) with
  |some (.obj j ver,[.setR _ _])=>bif Nat.beq ver (S.ver j) then(match S.o j with|.row U f=>bif Nat.beq U T&&Ty.beq f e then some (.o j) else none|_=>none) else none
  |_=>none
 |_=>none
def Li (S:St):Nat->List Sh->Bool
 |_,[]=>true
 |t,s::l=>uM s&&((oJ s||isNone s||Sh.beq (S.r t) s)&&Li S (t+1) l)
def RI (S:St)(shs:List Sh)(obs:List (Nat×Ob)):Bool:=Li S 0 shs&&obs.all λx=>Ob.beq (S.o x.1) x.2
def UF (gF:List Ty)(es:List PE)(res:Ty):Option PE:=
 match gF,es with
 |[ty],[e]=>bif Ty.sub ty res then some e else none
 |gF,es=>bif Ty.sub (.tup gF) res then some (.tup es) else none
def afU (C:Ctx)(fn:Func)(S:St)(res:Ty)(shs:List Sh)(obs:List (Nat×Ob)):Option PE:=
 (u5 C fn.results.toList S).bind λr=>bif RI r.1 shs obs then(UF r.2.1 r.2.2 res).map λe=>.tup (e::obs.map λx=>.o x.1) else none
def m5 (S:St):List AgC->List RC->Bool
 |[],[]=>true
 |.dat t::a,.dat u::l=>Ty.sub t u&&t.one&&m5 S a l
 |.obj j ver::a,.row T e::l=>Nat.beq ver (S.ver j)&&(match S.o j with|.row U f=>Nat.beq U T&&Ty.beq f e|_=>false)&&m5 S a l
 |_,_=>false
def pj:List AgC->List Nat
 |[]=>[]
 |.dat _::l=>pj l
 |.obj j _::l=>j::pj l
def nm (x:PE):List AgC->Nat->List PE
 |[],_=>[]
 |.dat _::l,i=>.cell x i::nm x l (i+1)
 |.obj j _::l,i=>.o j::nm x l (i+1)
def afX (C:Ctx)(fn:Func)(S:St)(l:List RC):Option PE:=
 match fn.results.toList with
 |[.tmp t]=>
  match lM S [] t with
  |.agg a=>bif m5 S a l&&iy (pj a) then some (.mk (nm (.r t) a 0)) else none
  |_=>none
 |[.cell b U]=>
  match uI C S [] 0 U (.tmp b) with
  |some (.agg a,[.setR t0 e])=>bif (m5 S a l&&iy (pj a))&&Nat.beq t0 0 then some (.mk (nm e a 0)) else none
  |_=>none
 |_=>none
def sH:List AgC->Nat->Option Nat
 |[],_=>none
 |.dat _::l,j=>(sH l j).map (·+1)
 |.obj i _::l,j=>bif Nat.beq i j then some 0 else(sH l j).map (·+1)
def zw (C:Ctx)(fn:Func)(s:Sig)(S:St):Option PE:=
 match s.mode with
 |.ob shs obs=>afU C fn S s.res shs obs
 |.dat=>afT C fn S s.res
 |.rows l=>afX C fn S l
 |.it J=>match fn.results.toList,S.o J with|[],.tr=>some (.o J)|_,_=>none
 |.row T e=>afV C fn S T e
def M2 (P:Program)(tmps:Array Value)(w:World):ResultVar->Value->Prop
 |.tmp t,v=>v=tmps.getD t undef
 |.cell a T,v=>∃k,tmps.getD a undef=.pointer (some k)/\(loadVar T k).run P w=.ok v w
def M3 (P:Program)(tmps:Array Value)(w:World):List ResultVar->List Value->Prop
 |[],[]=>True
 |x::xs,v::vs=>M2 P tmps w x v/\M3 P tmps w xs vs
 |_,_=>False
def wK:List Value->Value
 |[v]=>v
 |vs=>.tuple vs.toArray
section
variable {C:Ctx} {S:St} {O:Env} {V:Im} {own:Nat->Option Nat} {hv:Nat->Value} {w0:World} {σ0:Base} {A:Nat->Prop} {a:Act} {w:World} {gs:List (Nat×Bool)} {Z:aV} {dst:Nat}
def acd {P:Program}{tmps:Array Value}{w:World}(f:ResultVar->Sem Value)(hf1:∀t,f (.tmp t)=pure (tmps.getD t undef))(hf2:∀b T,f (.cell b T)=(do loadVar T (<-asAddr (tmps.getD b undef)))):
 ∀(l:List ResultVar) (vs:List Value),M3 P tmps w l vs->(l.mapM f).run P w=.ok vs w
 |[],[],_=>by simp[Sem.run_pure]
 |x::l,v::vs,h=>by
  obtain⟨hx,RD⟩:=h;have ih:=acd f hf1 hf2 l vs RD;rw[XO];have h1:(f x).run P w=.ok v w:=by
   cases x with
   |tmp t=>rw[hf1];simp only[M2] at hx;subst hx;simp[Sem.run_pure]
   |cell b T=>
    obtain⟨k,h1,h2⟩:=hx;rw[hf2,h1];simp[asAddr,h2]
  simp[Sem.run_bind,h1,ih,Sem.run_pure,Result.andThen_ok]
def zu {P:Program}{fn:Func}{tmps:Array Value}{w:World}{vs:List Value}(h:M3 P tmps w fn.results.toList vs):
 (results fn tmps).run P w=.ok (wK vs) w:=by
 unfold results;rw[Array.mapM_eq_mapM_toList];simp only[Sem.run_bind];simp only[bind_map_left,map_eq_pure_bind,Sem.run_bind,bind_assoc,pure_bind];rw[acd (tmps:=tmps) _ (λt=>rfl) (λb T=>rfl) _ _ h];simp only[Result.andThen_ok,Sem.run_pure];rcases vs with _|⟨v,_|⟨u,vs⟩⟩<;>simp[Sem.run_pure,wK]
def Lp {o:Oper}{T:TypeId}{b:Nat}{v:Value}(ho:o.op=.load T (.tmp b))(hx:(execOp a.eval o).run C.P w=.ok (.value v) w):M2 C.P a.tmps w (.cell b T) v:=by
 have he:a.eval (.tmp b)=a.tmps.getD b undef:=by simp[Act.eval]
 simp only[execOp,ho,Instr.loadAt,he] at hx;cases hp:a.tmps.getD b undef with
 |pointer p=>
  cases p with
  |none=>rw[hp] at hx;simp[Instr.sureAddr] at hx
  |some k=>
   rw[hp] at hx;refine⟨k,hp,?_⟩;simp[Instr.sureAddr] at hx;cases hr:(loadVar T k).run C.P w with
   |ok u w'=>rw[hr] at hx;simp at hx;rw[hx.1,hx.2]
   |halt u w'=>rw[hr] at hx;simp at hx
 |_=>rw[hp] at hx;simp[Instr.sureAddr] at hx
def atO (h:Inv C S O V own hv w0 σ0 A a w)(hC:CtxOK C σ0){x:ResultVar}{r:St×Ty×PE}(hr:CT C S x=some r):
 ∃V' own' v,V.le V'/\Inv C r.1 O V' own' hv w0 σ0 A a w/\M2 C.P a.tmps w x v/\Rep C.cap V' r.2.1 v (r.2.2.ev O):=by
 cases x with
 |tmp t=>
  simp only[CT,aC] at hr;obtain⟨y,hy,rfl⟩:=hr;obtain⟨σ1,dP,hle,h1⟩:=Inv.fzs (cj S [] [.tmp t]) h;refine⟨σ1,dP,a.tmps.getD t undef,hle,h1,rfl,?_⟩;have:=cQ (gs:=[]) h1 hC rfl hy;simpa [Act.eval] using this
 |cell b T=>
  simp only[CT] at hr;obtain⟨σ1,dP,hle,h1⟩:=Inv.fzs (wD C S T (.tmp b)) h;generalize Kk:S.fzs (wD C S T (.tmp b))=S1 at hr h1
  let o:Oper:={(default:Oper) with op:=.load T (.tmp b)}
  split at hr
  .rename_i ty e hl;cases hr;have hq:=FT (Z:=λ_ _=>none) (dst:=0) (gs:=[]) h1 hC rfl hl (o:=o) rfl;obtain⟨v,d,e1,e2,e3,e4⟩:=hq _ rfl;have hd:d=e.ev O:=by
        have:=congrArg (λx:Env=>x.r 0) e1;simpa [Env.setR,aO] using this.symm
   subst hd;exact⟨σ1,dP,v,hle,h1,Lp rfl e2,e3⟩
  .rename_i j ver t0 e0 hl;have hq:=FT (Z:=λ_ _=>none) (dst:=0) (gs:=[]) h1 hC rfl hl (o:=o) rfl;obtain⟨v,d,e1,e2,e3,e4⟩:=hq _ rfl;cases hb:Nat.beq ver ((S1.fz j).ver j)<;>simp only[hb,zyx,zyw] at hr
   .cases hr
   split at hr
   case h_2=>cases hr
   rename_i ty bj;cases hr;obtain⟨σ2,jS,kO,h2⟩:=h1.fz j;refine⟨σ2,jS,v,hle.trans kO,h2,Lp rfl e2,?_⟩;have ho:=h2.objs j;rw[bj] at ho;have ed:ver=S1.ver j:=by rw[aA hb,(J5 S1 j).1]
   rw[e3.2 ed];exact ho.2
  .cases hr
def UE (hC:CtxOK C σ0):∀(l:List ResultVar) {S:St} {V:Im} {own:Nat->Option Nat} {r:St×List Ty×List PE},Inv C S O V own hv w0 σ0 A a w->u5 C l S=some r->
 ∃V' own' vs,V.le V'/\Inv C r.1 O V' own' hv w0 σ0 A a w/\M3 C.P a.tmps w l vs/\vs.length=r.2.1.length/\r.2.2.length=r.2.1.length/\
  ∀(i:Nat) (t:Ty),r.2.1[i]?=some t->Rep C.cap V' t (vs.getD i undef) ((PE.evs O r.2.2).getD i .none)
 |[],S,V,own,r,h,hr=>by
  simp only[u5,aS] at hr;subst hr;exact⟨V,own,[],.refl V,h,trivial,rfl,rfl,λi t e=>by simp at e⟩
 |x::l,S,V,own,r,h,hr=>by
  simp only[u5,aw,aC] at hr;obtain⟨r1,h1,q,h2,rfl⟩:=hr;obtain⟨σ1,dP,v,hle,i1,hx,bY⟩:=atO h hC h1;obtain⟨σ2,jS,vs,kO,i2,RD,kN,oA,oF⟩:=UE hC l i1 h2;refine⟨σ2,jS,v::vs,hle.trans kO,i2,⟨hx,RD⟩,by simp[kN],by simp[oA],λi t e=>?_⟩;cases i with
  |zero=>simp at e;subst e;simpa [PE.evs] using bY.mono kO
  |succ i=>simp at e;simpa [PE.evs] using oF i t e
def H3 (C:Ctx)(s:Sig)(V:Im)(own:Nat->Option Nat)(w0 w:World)(tmps:Array Value)(d:D)(v:Value):Prop:=
 ∀shs obs,s.mode=.ob shs obs->∃hv dr os,d=.tup (dr::os)/\os.length=obs.length/\(∀k j,own k=some j->w0.heap.size<=k/\k<w.heap.size/\(∀o,V.c k o=none)/\V.m k=none)/\
  (∀(t:Nat) (sh:Sh),shs[t]?=some sh->oJ sh=false->∀d,aK C (gO shs obs) (nK obs [] os) V hv sh (tmps.getD t undef) d)/\(∀j,cR C (gO shs obs) (nK obs [] os) V own hv w w0.heap.size j (fh obs j))/\Rep C.cap V s.res v dr
def H3.no {C:Ctx}{s:Sig}{V:Im}{own:Nat->Option Nat}{w0 w:World}{tmps:Array Value}{d:D}{v:Value}(h:qX s.mode=false):H3 C s V own w0 w tmps d v:=λshs obs e=>by rw[e] at h;cases h
def N8 (C:Ctx)(w0:World)(σ0:Base)(fn:Func)(s:Sig)(d:D)(a:Act)(w:World):Prop:=
 ∃v V,(∃own t fx cx,FrOK V own w0.heap.size σ0 w t fx cx/\(∀J,s.mode=.it J->d=t)/\H3 C s V own w0 w a.tmps d v)/\(results fn a.tmps).run C.P w=.ok v w/\σ0.le V/\V.ok w/\Below σ0.B w0 w/\
  (∀k o x,V.c k o=some x->σ0.c k o=some x\/w0.heap.size<=k)/\(∀k x,V.m k=some x->σ0.m k=some x\/w0.heap.size<=k)/\nk C s V w0 w v d
def Inv.fr (h:Inv C S O V own hv w0 σ0 A a w){s:Sig}{d:D}{v:Value}(hm:∀J,s.mode≠.it J)(ho:qX s.mode=false):∃own t fx cx,FrOK V own w0.heap.size σ0 w t fx cx/\(∀J,s.mode=.it J->d=t)/\H3 C s V own w0 w a.tmps d v:=by
 obtain⟨t,fx,cx,h1,_⟩:=h.frame;exact⟨own,t,fx,cx,h1,λJ e=>absurd e (hm J),.no ho⟩
def atN {cap:Nat->Option CSig}{gF:List Ty}{es:List PE}{res:Ty}{pe:PE}{vs:List Value}(hr:UF gF es res=some pe)(kN:vs.length=gF.length)(oA:es.length=gF.length)
 (oF:∀(i:Nat) (t:Ty),gF[i]?=some t->Rep cap V t (vs.getD i undef) ((PE.evs O es).getD i .none)):Rep cap V res (wK vs) (pe.ev O):=by
 have many:gF.length≠1->(bif Ty.sub (.tup gF) res then some (PE.tup es) else none)=some pe->Rep cap V res (wK vs) (pe.ev O):=by
  intro aB hr;cases hb:Ty.sub (.tup gF) res<;>simp only[hb,zyx,zyw] at hr
  .cases hr
  cases hr;have cO:wK vs=Value.tuple vs.toArray:=by
   match vs,kN with
   |[],_=>rfl
   |[v],hl=>exact absurd hl.symm aB
   |_::_::_,_=>rfl
  rw[cO];exact Rep.sub (Rep.tup _ _ _ (by rw[kN]) (by rw[PE.evs_eq,gp,oA]) oF) hb
 match gF,es,vs,kN,oA,oF,many,hr with
 |[ty],[e],[v],_,_,oF,_,hr=>
  simp only[UF] at hr;cases hb:Ty.sub ty res<;>simp only[hb,zyx,zyw] at hr
  .cases hr
  cases hr;have:=oF 0 ty rfl;exact Rep.sub (by simpa [PE.evs,wK] using this) hb
 |[],[],_,_,_,_,many,hr=>exact many (by simp) hr
 |_::_::_,_::_::_,_,_,_,_,many,hr=>exact many (by simp) hr
def abC:∀{l:List Sh} {k:Nat},Li S k l=true->∀(t:Nat) (s:Sh),l[t]?=some s->oJ s=false->uM s=true/\(s=.none\/S.r (k+t)=s)
 |[],k,_,t,s,h,_=>by simp at h
 |x::l,k,hk,t,s,h,hd=>by
  simp only[Li,aq,fQ] at hk;cases t with
  |zero=>
   simp at h;subst h;refine⟨hk.1,?_⟩;rcases hk.2.1 with(h1|h1)|h1
   .rw[hd] at h1;cases h1
   .left;cases x<;>first|rfl|cases h1
   .exact .inr (Sh.beq_eq _ _ h1)
  |succ t=>
   simp at h;have:=abC hk.2.2 t s h hd
   rwa [vu,Dl 1 t] at this
def abV:∀{obs:List (Nat×Ob)},(obs.all λx=>Ob.beq (S.o x.1) x.2)=true->∀j,fh obs j=.dead\/(S.o j=fh obs j/\oM obs (obs.map λx=>O.o x.1) j=O.o j)
 |[],_,j=>.inl rfl
 |x::obs,h,j=>by
  simp only[rG,aq] at h;simp only[fh,gq,oM];cases hb:Nat.beq x.1 j<;>simp only[zyx,zyw]
  .exact abV h.2 j
  .rw[<-aA hb];exact .inr ⟨Ob.beq_eq _ _ h.1,rfl⟩
def axi {ty:Ty}{gF:List Ty}{es:List PE}(h:∀ty e,gF=[ty]->es=[e]->False)(hl:es.length=gF.length):gF.length≠1:=by
 intro h1
 match gF,es with
 |[ty],[e]=>exact h ty e rfl rfl
 |[],_=>simp at h1
 |_::_::_,_=>simp at h1
 |[_],[]=>simp at hl
 |[_],_::_::_=>simp at hl
def afW (h:Inv C S O V own hv w0 σ0 A a w){T:TypeId}{e:Ty}{j ver:Nat}{v:Value}{d:D}(hc:aK C S O V hv (.obj j ver) v d){pe:PE}
 (hr:(bif Nat.beq ver (S.ver j) then(match S.o j with|.row U f=>bif Nat.beq U T&&Ty.beq f e then some (PE.o j) else none|_=>none) else none)=some pe):
 ∃cells xs,pe.ev O=.list xs/\w.ownsRow w0.heap.size T e.size v xs.length cells/\fl C.cap V e cells xs/\∀k,v.ownBlock=some k->(∀o,V.c k o=none)/\V.m k=none:=by
 cases hb:Nat.beq ver (S.ver j)<;>simp only[hb,zyx,zyw] at hr
 .cases hr
 split at hr
 case h_2=>cases hr
 rename_i U f ho;cases bC:Nat.beq U T&&Ty.beq f e<;>simp only[bC,zyx,zyw] at hr
 .cases hr
 cases hr;simp only[aq] at bC;have hU:=aA bC.1;have hf:=Ty.beq_eq _ _ bC.2;subst hU hf;have hj:=h.objs j;rw[ho] at hj;obtain⟨cells,xs,h1,h2,h3,h4⟩:=hj;have hv':=hc.2 (aA hb);subst hv';exact⟨cells,xs,h1,h2,h3,λk hk=>(h.owns k j (h4 k hk)).2.2⟩
def afS:∀(l:List ResultVar) {S:St} {r:St×List Ty×List PE},u5 C l S=some r->r.1.ver=S.ver
 |[],S,r,h=>by simp only[u5,aS] at h;subst h;rfl
 |x::l,S,r,h=>by
  simp only[u5,aw,aC] at h;obtain⟨r1,h1,q,h2,rfl⟩:=h;rw[afS l h2];cases x with
  |tmp t=>
   simp only[CT,aC] at h1;obtain⟨y,_,rfl⟩:=h1;exact(py _ _).1
  |cell b T=>
   simp only[CT] at h1;split at h1
   .cases h1;exact(py _ _).1
   .rename_i j ver t0 e0 _;cases hb:Nat.beq ver (((S.fzs (wD C S T (.tmp b))).fz j).ver j)<;>simp only[hb,zyx,zyw] at h1
    .cases h1
    .split at h1
     .cases h1;rw[(J5 _ _).1];exact(py _ _).1
     .cases h1
   .cases h1
def S5:∀{a:List AgC} {i j ver:Nat},(pj a).Nodup->a[i]?=some (.obj j ver)->sH a j=some i
 |[],i,j,ver,_,h=>by simp at h
 |.dat t::a,i,j,ver,hn,h=>by
  cases i with
  |zero=>simp at h
  |succ i=>simp at h;simp only[sH];rw[S5 (a:=a) hn h];rfl
 |.obj k u::a,i,j,ver,hn,h=>by
  simp only[pj,nX] at hn;cases i with
  |zero=>simp at h;obtain⟨rfl,_⟩:=h;simp only[sH,ja];rfl
  |succ i=>
   simp at h;have hm:∀{a:List AgC} {i:Nat},a[i]?=some (.obj j ver)->j∈pj a:=by
        intro a
        induction a with
        |nil=>intro i h;simp at h
        |cons x a ih=>
         intro i h;cases i with
         |zero=>simp at h;subst h;simp[pj]
         |succ i=>simp at h;have:=ih h;cases x<;>simp[pj,this]
   have aB:k≠j:=λe=>hn.1 (e▸hm h);simp only[sH];rw[fS aB,zyw,S5 hn.2 h];rfl
def TI (h:Inv C S O V own hv w0 σ0 A a w){x0:PE}{vs:List Value}{ds:List D}(hd:x0.ev O=.agg ds)(ow:Nat->Option Nat):∀(a:List AgC) (l:List RC) (i:Nat),m5 S a l=true->(∀(n:Nat) (c:AgC),a[n]?=some c->nV C S V hv c (vs.getD (i+n) undef) (ds.getD (i+n) .none))->
 (∀(n j ver k:Nat),a[n]?=some (.obj j ver)->own k=some j->ow k=some (i+n))->
 a.length=l.length/\(PE.evc O (nm x0 a i)).length=l.length/\∀(n:Nat) (c:RC),l[n]?=some c->XW C V w0.heap.size w ow (i+n) c (vs.getD (i+n) undef) ((PE.evc O (nm x0 a i)).getD n .none)
 |[],[],i,_,_,_=>⟨rfl,rfl,λn c hc=>by simp at hc⟩
 |[],_::_,i,hf,_,_=>by simp[m5] at hf
 |x::a,l,i,hf,Kp,uq=>by
  have e:∀n,i+1+n=i+(n+1):=λn=>by omega
  have Ex:∀(n:Nat) (c:AgC),a[n]?=some c->nV C S V hv c (vs.getD (i+1+n) undef) (ds.getD (i+1+n) .none):=λn c hc=>by rw[e];exact Kp (n+1) c (by simpa using hc)
  have aaP:∀(n j ver k:Nat),a[n]?=some (.obj j ver)->own k=some j->ow k=some (i+1+n):=λn j ver k hc hk=>by rw[e];exact uq (n+1) j ver k (by simpa using hc) hk
  have h0:=Kp 0 x rfl;rw[iZ] at h0;cases x with
  |dat ty=>
   cases l with
   |nil=>simp[m5] at hf
   |cons y l=>
    cases y with
    |row T e=>simp[m5] at hf
    |dat u=>
     simp only[m5,aq] at hf;obtain⟨g1,g2,g3⟩:=TI h hd ow a l (i+1) hf.2 Ex aaP;have e1:PE.evc O (nm x0 (.dat ty::a) i)=ds.getD i .none::PE.evc O (nm x0 a (i+1)):=by
       simp only[nm,PE.evc,PE.ev,hd,D.c];have:=h0.2.dcells h0.1;simp only[D.cells] at this ⊢;rw[this];rfl
     rw[e1];refine⟨by simp[g1],by simp[g2],λn c hc=>?_⟩;cases n with
     |zero=>simp at hc;subst hc;exact⟨by rw[<-(Ty.sub_one _ _ hf.1.1).1];exact h0.1,h0.2.sub hf.1.1⟩
     |succ n=>simp at hc;have:=g3 n c hc;rw[e] at this;simpa using this
  |obj j ver=>
   cases l with
   |nil=>simp[m5] at hf
   |cons y l=>
    cases y with
    |dat u=>simp[m5] at hf
    |row T ty=>
     simp only[m5,aq] at hf;obtain⟨⟨f1,f2⟩,f3⟩:=hf;obtain⟨g1,g2,g3⟩:=TI h hd ow a l (i+1) f3 Ex aaP;have ba:=h.objs j;split at f2
     case h_2=>cases f2
     rename_i U f eo;rw[eo] at ba;simp only[aq] at f2;have q1:=aA f2.1;have q2:=Ty.beq_eq _ _ f2.2;subst q1 q2;obtain⟨cells,xs,k1,k2,k3,k4⟩:=ba;have uu:=h0.2 (aA f1);have e1:PE.evc O (nm x0 (.obj j ver::a) i)=.list xs::PE.evc O (nm x0 a (i+1)):=by
         simp only[nm,PE.evc,PE.ev,k1,D.cells];rfl
     rw[e1];refine⟨by simp[g1],by simp[g2],λn c hc=>?_⟩;cases n with
     |zero=>
      simp at hc;subst hc;rw[iZ,uu];exact⟨cells,xs,rfl,k2,k3,λk hk=>by have:=uq 0 j ver k rfl (k4 k hk);rwa [iZ] at this⟩
     |succ n=>simp at hc;have:=g3 n c hc;rw[e] at this;simpa using this
def atP (h:Inv C S O V own hv w0 σ0 A a w)(hC:CtxOK C σ0)(ed:∀j,S.ver j=0){fn:Func}{s:Sig}{pe:PE}(hr:zw C fn s S=some pe):N8 C w0 σ0 fn s (pe.ev O) a w:=by
 unfold zw at hr;split at hr
 .rename_i shs obs hm;simp only[afU,aw] at hr;obtain⟨r,aI,hr⟩:=hr;obtain⟨σ1,dP,vs,hle,h1,yH,kN,oA,oF⟩:=UE hC _ h aI;cases hb:RI r.1 shs obs<;>simp only[hb,zyx,zyw] at hr
  .cases hr
  simp only[aC] at hr;obtain⟨e,he,rfl⟩:=hr;simp only[RI,aq] at hb;have bY:=atN he kN oA oF;obtain⟨t,fx,cx,hf,_⟩:=h1.frame;have sl:Compat r.1 hv (gO shs obs) hv:=⟨λj=>by rw[afS _ aI,ed];exact pf _,λ_ _=>rfl⟩
  have QZ:(PE.evs O (e::obs.map λx=>.o x.1))=e.ev O::obs.map (λx=>O.o x.1):=by simp[PE.evs_eq,HL,PE.ev]
  refine⟨_,σ1,⟨dP,t,fx,cx,hf,(λJ e=>by rw[hm] at e;cases e),λUP aC3 e'=>?_⟩,zu yH,h1.le,h1.ok,h1.below,h1.newc,h1.newm,by unfold nk;rw[hm];trivial⟩;rw[hm] at e';cases e';refine⟨hv,e.ev O,obs.map λx=>O.o x.1,by simp only[PE.ev];rw[QZ],by simp,h1.owns,λt sh hs hd d=>?_,λj=>?_,bY⟩
  .obtain⟨dO,e1⟩:=abC hb.1 t sh hs hd;rcases e1 with e1|e1
   .subst e1;trivial
   .rw[fR] at e1;have:=h1.regs t;rw[e1] at this;have eY:∀gs s',sh≠.opt gs s':=λgs s' e=>by subst e;cases dO
    have:=aK.mono' (S':=gO shs obs) (O':=nK obs [] (obs.map λx=>O.o x.1)) (.refl σ1) sl eY this;cases sh with
    |dat t=>cases hd
    |opt gs s=>cases dO
    |eptr j v o q=>cases dO
    |agg l=>cases dO
    |_=>exact this
  .rcases abV (O:=O) hb.2 j with e1|⟨e1,e2⟩
   .rw[e1];trivial
   .rw[<-e1];exact(h1.objs j).mono (.refl σ1) sl rfl e2 (λk hk=>⟨hk,rfl⟩)
 .rename_i hm;simp only[afT,aw] at hr;obtain⟨r,aI,hr⟩:=hr;obtain⟨σ1,dP,vs,hle,h1,yH,kN,oA,oF⟩:=UE hC _ h aI;refine⟨_,σ1,h1.fr (λJ e=>by rw[hm] at e;cases e) (by rw[hm];rfl),zu yH,h.le.trans hle,h1.ok,h1.below,h1.newc,h1.newm,?_⟩;unfold nk;rw[hm];simp only;split at hr
  .rename_i ty e e1 e2;rw[e1] at kN oF;rw[e2] at oF;cases hb:Ty.sub ty s.res<;>simp only[hb,zyx,zyw] at hr
   .cases hr
   cases hr;obtain⟨v,rfl⟩:∃v,vs=[v]:=by
        match vs,kN with
        |[v],_=>exact⟨v,rfl⟩
   have:=oF 0 ty rfl;exact Rep.sub (by simpa [PE.evs,wK] using this) hb
  .rename_i aB;cases hb:Ty.sub (.tup r.2.1) s.res<;>simp only[hb,zyx,zyw] at hr
   .cases hr
   cases hr;have aaH:=axi (ty:=.bool) aB oA;have cO:wK vs=Value.tuple vs.toArray:=by
        match vs,kN with
        |[],_=>rfl
        |[v],hl=>rw[<-hl] at aaH;exact absurd rfl aaH
        |_::_::_,_=>rfl
   rw[cO];refine Rep.sub (Rep.tup _ _ _ (by rw[kN]) (by rw[PE.evs_eq,gp,oA]) oF) hb
 .rename_i l hm;have key:∃(v:Value) (x0:PE) (vs:List Value) (ds:List D) (ag:List AgC),(results fn a.tmps).run C.P w=.ok v w/\pe=.mk (nm x0 ag 0)/\x0.ev O=.agg ds/\v=.agg vs.toArray/\m5 S ag l=true/\iy (pj ag)=true/\
        vs.length=ag.length/\ds.length=ag.length/\∀(i:Nat) (c:AgC),ag[i]?=some c->nV C S V hv c (vs.getD i undef) (ds.getD i .none):=by
   unfold afX at hr;split at hr
   .rename_i t fu;split at hr
    case h_2=>cases hr
    rename_i ag ff;cases hb:(m5 S ag l&&iy (pj ag))<;>simp only[hb,zyx,zyw] at hr
    .cases hr
    cases hr;simp only[aq] at hb;have gY:=(nQ (gs:=[]) h rfl t).1;rw[ff] at gY;obtain⟨vs,ds,e1,e2,e3,e4,e5⟩:=gY;exact⟨_,.r t,vs,ds,ag,zu (vs:=[a.tmps.getD t undef]) (by rw[fu];exact⟨rfl,trivial⟩),rfl,e2,e1,hb.1,hb.2,e3,e4,e5⟩
   .rename_i b U fu;split at hr
    case h_2=>cases hr
    rename_i ag t0 x0 hl;cases hb:((m5 S ag l&&iy (pj ag))&&Nat.beq t0 0)<;>simp only[hb,zyx,zyw] at hr
    .cases hr
    cases hr;simp only[aq] at hb;obtain⟨hb,Rn⟩:=hb;obtain rfl:=aA Rn;have hq:=FT (Z:=λ_ _=>none) (dst:=0) (gs:=[]) h hC rfl hl (o:={(default:Oper) with op:=.load U (.tmp b)}) rfl;obtain⟨v,d,q1,q2,q3,_⟩:=hq _ rfl;obtain⟨vs,ds,e1,e2,e3,e4,e5⟩:=q3;have hd:x0.ev O=d:=by
     have:=congrArg (λe:Env=>e.r 0) q1;simpa [Env.setR,cv] using this
    exact⟨_,x0,vs,ds,ag,zu (vs:=[v]) (by rw[fu];exact⟨Lp rfl q2,trivial⟩),rfl,by rw[hd,e2],e1,hb.1,hb.2,e3,e4,e5⟩
   .cases hr
  obtain⟨v,x0,vs,ds,ag,ao,rfl,e2,e1,b1,b2,e3,e4,e5⟩:=key
  obtain⟨g1,g2,g3⟩:=TI h (x0:=x0) (vs:=vs) (ds:=ds) e2 (λk=>(own k).bind (sH ag)) ag l 0 b1 (λn c hc=>by rw[fR];exact e5 n c hc) (λn j ver k hc hk=>by
   show(own k).bind (sH ag)=some (0+n);rw[hk,lh,S5 (nJ b2) hc,fR])
  simp only[fR] at g3;refine⟨_,V,h.fr (λJ e=>by rw[hm] at e;cases e) (by rw[hm];rfl),ao,h.le,h.ok,h.below,h.newc,h.newm,?_⟩;unfold nk;rw[hm];refine⟨vs,PE.evc O (nm x0 ag 0),λk=>(own k).bind (sH ag),e1,by simp only[PE.ev],by omega,g2,g3,λk i hk=>?_⟩;cases ho:own k with
  |none=>
   have hk:(own k).bind (sH ag)=some i:=hk;rw[ho] at hk;cases hk
  |some j=>exact h.owns k j ho
 .rename_i J hm;split at hr
  case h_2=>cases hr
  rename_i fu hJ;cases hr;obtain⟨t,fx,cx,h1,h2⟩:=h.frame;refine⟨_,V,⟨own,t,fx,cx,h1,λJ' e=>?_,.no (by rw[hm];rfl)⟩,zu (vs:=[]) (by rw[fu];trivial),h.le,h.ok,h.below,h.newc,h.newm,by unfold nk;rw[hm];trivial⟩;exact(h2 J hJ).2
 .rename_i T e hm;have key:∃v,(results fn a.tmps).run C.P w=.ok v w/\∃cells xs,pe.ev O=.list xs/\w.ownsRow w0.heap.size T e.size v xs.length cells/\fl C.cap V e cells xs/\∀k,v.ownBlock=some k->(∀o,V.c k o=none)/\V.m k=none:=by
   unfold afV at hr;split at hr
   .rename_i t ht;split at hr
    case h_2=>cases hr
    rename_i j ver hs;have hc:=(nQ (gs:=[]) h rfl t).1;rw[hs] at hc;exact⟨_,zu (vs:=[a.tmps.getD t undef]) (by rw[ht];exact⟨rfl,trivial⟩),afW h hc hr⟩
   .rename_i b U hb;split at hr
    case h_2=>cases hr
    rename_i j ver t0 e0 hl;have hq:=FT (Z:=λ_ _=>none) (dst:=0) (gs:=[]) h hC rfl hl (o:={(default:Oper) with op:=.load U (.tmp b)}) rfl;obtain⟨v,d,e1,e2,e3,e4⟩:=hq _ rfl;exact⟨_,zu (vs:=[v]) (by rw[hb];exact⟨Lp rfl e2,trivial⟩),afW h e3 hr⟩
   .cases hr
  obtain⟨v,h1,h2⟩:=key;refine⟨v,V,h.fr (λJ e=>by rw[hm] at e;cases e) (by rw[hm];rfl),h1,h.le,h.ok,h.below,h.newc,h.newm,?_⟩;unfold nk;rw[hm];exact h2
def lR.drop {V:Im}{B D:Nat}:∀{ds:List Deferred},({target:=.collected D,args:=#[]}:Deferred)∉ds->lR V B ds->lR (V.drop D) B ds
 |[],_,_=>trivial
 |x::ds,hn,⟨⟨D',h1,h2,h3⟩,h⟩=>by
  simp only[cZ,not_or] at hn;refine⟨⟨D',h1,?_,h3⟩,lR.drop hn.2 h⟩;have:D'≠D:=λe=>hn.1 (by rw[h1,e]);simp[Im.drop,this,h2]
def Inv.shut (h:Inv C S O V own hv w0 σ0 A a w)(lu:σ0.fin){x:Deferred}{ds:List Deferred}(hd:a.defers=x::ds):
 ∃D,x.target=.collected D/\w.heap[D]?=some (.deferred (some []))/\Inv C S O (V.drop D) own hv w0 σ0 A {a with defers:=ds} (w.putObj D (.deferred none)):=by
 have pC:=h.defers;rw[hd] at pC;obtain⟨⟨D,rfl,hm,hB,QR⟩,yj⟩:=pC;have hD:w.heap[D]?=some (.deferred (some [])):=by
  rcases h.ok.m D _ hm with⟨h1,_⟩|⟨_,h2⟩
  .exact absurd rfl h1
  .exact h2
 have gz:∀k,k≠D->(w.putObj D (.deferred none)).heap[k]?=w.heap[k]?:=λk hk=>World.putObj_heap_other hk;have be:∀k j,own k=some j->k≠D:=λk j hk e=>by subst e;rw[(h.owns k j hk).2.2.2] at hm;cases hm
 have hR:Im.leR C.cap V (V.drop D):=⟨λr=>r.drop hm,λ_ _ _ e=>e⟩
 have EG:∀k x,(V.drop D).m k=some x->k≠D/\V.m k=some x:=by
  intro k x hx;simp only[Im.drop] at hx;split at hx
  .cases hx
  .rename_i aB;exact⟨aB,hx⟩
 refine⟨D,rfl,hD,yj.drop QR,⟨λk o v hc=>?_,λk es hc=>?_⟩,⟨h.le.c,λk es hc=>?_⟩,h.old,h.newc,λk es hc=>h.newm k es (EG k es hc).2,h.below.trans ⟨rfl,rfl,rfl,by simp,λk hk=>gz k (by have:=h.bw;omega)⟩,h.bw,λk j hk=>?_,λt=>?_,λj=>?_,h.opts,?_⟩
 .have h1:=h.ok.c k o v hc;have aB:k≠D:=λe=>by subst e;simp[World.cell?,hD] at h1
  rw[World.cell?_of_block (gz k aB)];exact h1
 .exact(h.ok.m k es (EG k es hc).2).keep (gz k (EG k es hc).1)
 .have aB:k≠D:=λe=>by
   subst e;have:=h.le.m _ _ hc;rw[hm] at this;cases this;have:=h.old lu _ hc;omega
  simp[Im.drop,aB,h.le.m k es hc]
 .obtain⟨g1,g2,g3,g4⟩:=h.owns k j hk;exact⟨g1,by simpa using g2,g3,by simp only[Im.drop];split<;>first|rfl|exact g4⟩
 .exact aK.monoR hR (.refl S hv) (λ_ _ _=>rfl) (λgs s e=>(h.opts t gs s e).2) (h.regs t)
 .exact(h.objs j).monoR hR (.refl S hv) rfl rfl (λk hk=>⟨hk,gz k (be k j hk)⟩)
 .obtain⟨t,fx,cx,hf,ht⟩:=h.frame;exact⟨t,fx,cx,⟨σ0.keep _ _ _ _ _ hf.F ⟨rfl,rfl,rfl,by simp,λk hk=>by omega⟩ (λk hk=>gz k λe=>by subst e;exact hf.d k hm hB hk),hf.own,hf.c,λk x hx=>hf.m k x (EG k x hx).2,λk hx=>hf.d k (EG k _ hx).2⟩,ht⟩
def tI (C:Ctx)(w0:World)(σ0:Base)(fn:Func)(s:Sig)(d:D)(tmps:Array Value):List Deferred->World->Prop
 |[],w=>N8 C w0 σ0 fn s d {tmps:=tmps,defers:=[]} w
 |x::ds,w=>∃D,x.target=.collected D/\w.heap[D]?=some (.deferred (some []))/\tI C w0 σ0 fn s d tmps ds (w.putObj D (.deferred none))
def Inv.retD (hC:CtxOK C σ0)(ed:∀j,S.ver j=0)(lu:σ0.fin){fn:Func}{s:Sig}{pe:PE}(hr:zw C fn s S=some pe):∀(ds:List Deferred) {V:Im} {a:Act} {w:World},Inv C S O V own hv w0 σ0 A a w->a.defers=ds->tI C w0 σ0 fn s (pe.ev O) a.tmps ds w
 |[],V,a,w,h,hd=>by
  have e:a={tmps:=a.tmps,defers:=[]}:=by cases a;simp only at hd;subst hd;rfl
  rw[e] at h;exact atP h hC ed hr
 |x::ds,V,a,w,h,hd=>by
  obtain⟨D,h1,h2,h3⟩:=h.shut lu hd;exact⟨D,h1,h2,Inv.retD hC ed lu hr ds (a:={a with defers:=ds}) h3 rfl⟩
end
def zK (C:Ctx)(f:Nat)(JS ys:List Ty)(ds xs:List D):Prop:=
 ∀(V:Im) (w:World) (yv:Value) (vs:List Value) (F:D->(Nat->Prop)->(Nat->Prop)->World->Prop) (fx cx:Nat->Prop) (m:Nat),V.ok w->CtxOK C V->rE C V JS vs ds->m<=xs.length->
  (∀t fx cx w,F t fx cx w->∀k,fx k->k<w.heap.size)->(∀t fx cx w,F t fx cx w->∀k,cx k->fx k)->
  (∀t fx cx w w',F t fx cx w->Below 0 w w'->(∀k,fx k->w'.heap[k]?=w.heap[k]?)->F t fx cx w')->
  F (.list []) fx cx w->(∀k o x,V.c k o=some x->¬cx k)->(∀k x,V.m k=some x->¬cx k)->
  (∀(i:Nat) (fx cx:Nat->Prop) (w1:World) (σ1:Im) (args:List Value) (ds':List D),i<=m->xs[i]?=some (.tup ds')->F (.list (xs.take i)) fx cx w1->σ1.ok w1->rE C σ1 ys args ds'->
    (∀k o x,σ1.c k o=some x->¬cx k)->(∀k x,σ1.m k=some x->¬cx k)->
    (∀k o x,σ1.c k o=some x->V.c k o=some x\/w.heap.size<=k)->(∀k x,σ1.m k=some x->V.m k=some x\/w.heap.size<=k)->
    X2 C.P yv args w1 λu w2=>u=.bool (decide (i<m))/\Below 0 w1 w2/\(∀k,k<w1.heap.size->¬cx k->w2.heap[k]?=w1.heap[k]?)/\
     ∃qy mD,F (.list (xs.take (i+1))) qy mD w2/\(∀k,qy k->k<w1.heap.size->fx k\/(∃o x,σ1.c k o=some x)\/(∃x,σ1.m k=some x/\x≠dw))/\(∀k,mD k->k<w1.heap.size->cx k))->
  Calls C.P f (#[yv]++vs.toArray) w λe w'=>(∃v,e=.returned v)/\∃fx cx,F (.list (xs.take (m+1))) fx cx w'
def la (C:Ctx)(Z:aV):Prop:=∀f cs ys,C.cap f=some cs->nF cs.args cs.res=some ys->(∃fn,C.P.funcs[f]?=some fn/\fn.body.isSome=true/\(fn.name== "runtime.NumGoroutine")=false)/\
 ∀ds d,Z f ds=some d->∃xs,d=.list xs/\(∀x,x∈xs->∃ds',x=.tup ds'/\ds'.length=ys.length)/\zK C f cs.caps ys ds xs
section
variable {C:Ctx} {S:St} {O:Env} {V:Im} {own:Nat->Option Nat} {hv:Nat->Value} {w0:World} {σ0:Base} {A:Nat->Prop} {a:Act} {w:World}
def Inv.mono_regs (h:Inv C S O V own hv w0 σ0 A a w){τ:Im}(hle:V.le τ)(t:Nat):aK C S O τ hv (S.r t) (a.tmps.getD t undef) (O.r t):=
 aK.mono hle (.refl S hv) (λ_ _ _=>rfl) (λgs s e=>(h.opts t gs s e).2) (h.regs t)
def Inv.joinIm (h:Inv C S O V own hv w0 σ0 A a w){τ:Im}(hτ:τ.ok w)(hd:∀k,τ.m k≠some dw)(hoc:∀k o v,τ.c k o=some v->own k=none)(hom:∀k v,τ.m k=some v->own k=none)
 (dD:∀k o v,τ.c k o=some v->V.c k o=some v\/w0.heap.size<=k) (dp:∀k v,τ.m k=some v->V.m k=some v\/w0.heap.size<=k)
 (dC:∀t fx cx,FrOK V own w0.heap.size σ0 w t fx cx->(∀k o v,τ.c k o=some v->¬cx k)/\∀k v,τ.m k=some v->¬cx k):Inv C S O (V.plus τ) own hv w0 σ0 A a w where
 defers:=h.defers.mono (Im.plus_le1 V τ)
 ok:=Im.plus_ok h.ok hτ
 le:=h.le.trans (Im.plus_le1 V τ)
 old:=h.old
 newc:=λk o x e=>(Im.plus_c e).elim (h.newc k o x) λe=>(dD k o x e).elim (h.newc k o x) .inr
 newm:=λk x e=>(Im.plus_m e).elim (h.newm k x) λe=>(dp k x e).elim (h.newm k x) .inr
 below:=h.below
 bw:=h.bw
 owns:=λk j hk=>by
  obtain⟨g1,g2,g3,g4⟩:=h.owns k j hk;refine⟨g1,g2,λo=>?_,?_⟩
  .cases e:(V.plus τ).c k o with
   |none=>rfl
   |some x=>
    rcases Im.plus_c e with e|e
    .rw[g3 o] at e;cases e
    .rw[hoc k o x e] at hk;cases hk
  .cases e:(V.plus τ).m k with
   |none=>rfl
   |some x=>
    rcases Im.plus_m e with e|e
    .rw[g4] at e;cases e
    .rw[hom k x e] at hk;cases hk
 regs:=h.mono_regs (Im.plus_le1 V τ)
 objs:=λj=>(h.objs j).mono (Im.plus_le1 V τ) (.refl S hv) rfl rfl λk hk=>⟨hk,rfl⟩
 opts:=h.opts
 frame:=by
  obtain⟨t,fx,cx,hf,ht⟩:=h.frame;obtain⟨h1,h2⟩:=dC t fx cx hf;exact⟨t,fx,cx,⟨hf.F,hf.own,λk o x e=>(Im.plus_c e).elim (hf.c k o x) (h1 k o x),λk x e=>(Im.plus_m e).elim (hf.m k x) (h2 k x),λk e=>(Im.plus_m e).elim (hf.d k) λe=>absurd e (hd k)⟩,ht⟩
def Inv.keep (h:Inv C S O V own hv w0 σ0 A a w){w':World}{X:Nat->Prop}(hb:Below 0 w w')(hX:∀k,X k->w'.heap[k]?=w.heap[k]?)(h0:∀k,k<w0.heap.size->X k)(ho:∀k j,own k=some j->X k)(hc:∀k o v,V.c k o=some v->X k)(hm:∀k v,V.m k=some v->X k)
 (dC:∀t fx cx,FrOK V own w0.heap.size σ0 w t fx cx->∀k,fx k->X k):Inv C S O V own hv w0 σ0 A a w' where
 defers:=h.defers
 ok:=⟨λk o v e=>by rw[World.cell?_of_block (hX k (hc k o v e))];exact h.ok.c k o v e,λk v e=>(h.ok.m k v e).keep (hX k (hm k v e))⟩
 le:=h.le
 old:=h.old
 newc:=h.newc
 newm:=h.newm
 below:=h.below.trans ⟨hb.os,hb.tape,hb.output,hb.size,λk hk=>hX k (h0 k (xG hk h.bw))⟩
 bw:=h.bw
 owns:=λk j hk=>let⟨g1,g2,g3⟩:=h.owns k j hk;⟨g1,xG g2 hb.size,g3⟩
 regs:=h.regs
 objs:=λj=>(h.objs j).mono (.refl V) (.refl S hv) rfl rfl λk hk=>⟨hk,hX k (ho k j hk)⟩
 opts:=h.opts
 frame:=by
  obtain⟨t,fx,cx,hf,ht⟩:=h.frame;exact⟨t,fx,cx,⟨σ0.keep _ _ _ _ _ hf.F hb λk hk=>hX k (dC t fx cx hf k hk),hf.own,hf.c,hf.m,hf.d⟩,ht⟩
end
def Base.rnd (σ0:Base)(V:Im)(own:Nat->Option Nat)(w:World)(t:D)(X:Nat->Prop):Base:=
 {V with
  B:=σ0.B
  fin:=False
  F:=λt' fx cx w'=>t'=t/\(∀k,fx k↔(k<w.heap.size/\own k=none/\V.m k≠some dw/\¬X k))/\(∀k,cx k↔(fx k/\(∀o,V.c k o=none)/\V.m k=none))/\w.heap.size<=w'.heap.size/\∀k,fx k->w'.heap[k]?=w.heap[k]?
  lt:=λt' fx cx w' h k hk=>xG ((h.2.1 k).1 hk).1 h.2.2.2.1
  sub:=λt' fx cx w' h k hk=>((h.2.2.1 k).1 hk).1
  keep:=λt' fx cx w' lO h hb hs=>⟨h.1,h.2.1,h.2.2.1,cn h.2.2.2.1 hb.size,λk hk=>(hs k hk).trans (h.2.2.2.2 k hk)⟩}
section
variable {C:Ctx} {S S':St} {O O':Env} {V V':Im} {own own':Nat->Option Nat} {hv hv':Nat->Value} {w0:World} {σ0:Base} {A A':Nat->Prop} {a a':Act} {w w':World} {X:Nat->Prop}
def Inv.toRnd (h:Inv C S O V own hv w0 σ0 A a w){t:D}(ht:∀j,S.o j=.tr->(∃ys,C.yl=some (j,ys))/\O.o j=t):Inv C S O V own hv w0 (σ0.rnd V own w t X) A a w:=by
 refine⟨h.defers,h.ok,.refl V,(λhf=>hf.elim),(λ_ _ _ e=>.inl e),(λ_ _ e=>.inl e),h.below,h.bw,h.owns,h.regs,h.objs,h.opts,t,λk=>k<w.heap.size/\own k=none/\V.m k≠some dw/\¬X k,λk=>(k<w.heap.size/\own k=none/\V.m k≠some dw/\¬X k)/\(∀o,V.c k o=none)/\V.m k=none,
  ⟨⟨rfl,λ_=>.rfl,λ_=>.rfl,aY _,λ_ _=>rfl⟩,λk j hk hf=>?_,λk o x e hc=>?_,λk x e hc=>?_,λk e _ hf=>hf.2.2.1 e⟩,ht⟩
 .have:=hf.2.1;rw[hk] at this;cases this
 .have:=hc.2.1 o;rw[e] at this;cases this
 .have:=hc.2.2;rw[e] at this;cases this
def Inv.markSame {w1:World}(h:V.ok w1)(h':V'.ok w')(hle:V.le V'){k:Nat}(hk:V.m k=some dw):w'.heap[k]?=w1.heap[k]?:=by
 have e1:w1.heap[k]?=some (.deferred (some [])):=by
  rcases h.m k _ hk with⟨h1,_⟩|⟨_,h2⟩
  .exact absurd rfl h1
  .exact h2
 have e2:w'.heap[k]?=some (.deferred (some [])):=by
  rcases h'.m k _ (hle.m k _ hk) with⟨h1,_⟩|⟨_,h2⟩
  .exact absurd rfl h1
  .exact h2
 rw[e1,e2]
def Inv.rndSame {w1:World}{t:D}(az:V.ok w1)(h':Inv C S' O' V' own' hv' w0 (σ0.rnd V own w1 t X) A' a' w'){k:Nat}(hk:k<w1.heap.size)(ho:own k=none)(hX:¬X k):w'.heap[k]?=w1.heap[k]?:=by
 by_cases hd:V.m k=some dw
 .exact Inv.markSame az h'.ok h'.le hd
 .obtain⟨t',fx,cx,hf,_⟩:=h'.frame;obtain⟨_,f2,_,_,f5⟩:=hf.F;exact f5 k ((f2 k).2 ⟨hk,ho,hd,hX⟩)
def Inv.rndBelow {w1:World}{t:D}(h:Inv C S O V own hv w0 σ0 A a w1)(h':Inv C S' O' V' own' hv' w0 (σ0.rnd V own w1 t X) A' a' w'):Below 0 w1 w':=by
 obtain⟨t',fx,cx,hf,_⟩:=h'.frame;obtain⟨_,_,_,f4,_⟩:=hf.F;exact⟨h'.below.os.trans h.below.os.symm,h'.below.tape.trans h.below.tape.symm,h'.below.output.trans h.below.output.symm,f4,λk hk=>by omega⟩
def Inv.rndOwn {w1:World}{t:D}(h':Inv C S' O' V' own' hv' w0 (σ0.rnd V own w1 t X) A' a' w'){k j:Nat}(hk:own' k=some j)(hX:¬X k):(∃i,own k=some i)\/w1.heap.size<=k:=by
 obtain⟨t',fx,cx,hf,_⟩:=h'.frame;obtain⟨_,f2,_,_,_⟩:=hf.F;cases e:own k with
 |some i=>exact .inl ⟨i,rfl⟩
 |none=>
  refine .inr (Nat.le_of_not_lt λah=>?_);by_cases hd:V.m k=some dw
  .have:=(h'.owns k j hk).2.2.2;rw[h'.le.m k _ hd] at this;cases this
  .exact hf.own k j hk ((f2 k).2 ⟨ah,e,hd,hX⟩)
def Inv.rndC {w1:World}{t:D}(h':Inv C S' O' V' own' hv' w0 (σ0.rnd V own w1 t X) A' a' w'){k:Nat}(hk:(∃o x,V'.c k o=some x)\/∃x,V'.m k=some x)(hX:¬X k):(∃o x,V.c k o=some x)\/(∃x,V.m k=some x)\/(∃i,own k=some i)\/w1.heap.size<=k:=by
 obtain⟨t',fx,cx,hf,_⟩:=h'.frame;obtain⟨_,f2,f3,_,_⟩:=hf.F;cases e:own k with
 |some i=>exact .inr (.inr (.inl ⟨i,rfl⟩))
 |none=>
  by_cases hm:∃x,V.m k=some x
  .exact .inr (.inl hm)
  by_cases hc:∃o x,V.c k o=some x
  .exact .inl hc
  refine .inr (.inr (.inr (Nat.le_of_not_lt λah=>?_)));have hmn:V.m k=none:=by
   cases e2:V.m k with
   |none=>rfl
   |some x=>exact absurd ⟨x,e2⟩ hm
  have l7:cx k:=(f3 k).2 ⟨(f2 k).2 ⟨ah,e,by rw[hmn];simp,hX⟩,λo=>by
   cases e2:V.c k o with
   |none=>rfl
   |some x=>exact absurd ⟨o,x,e2⟩ hc,hmn⟩
  rcases hk with⟨o,x,hk⟩|⟨x,hk⟩
  .exact hf.c k o x hk l7
  .exact hf.m k x hk l7
def Inv.ofRnd {w1:World}(h:Inv C S O V own hv w0 σ0 A a w1){t:D}{fx cx:Nat->Prop}(dC:FrOK V own w0.heap.size σ0 w1 t fx cx)(hX:∀k,fx k->¬X k)(h':Inv C S' O' V' own' hv' w0 (σ0.rnd V own w1 t X) A' a' w'):
 Inv C S' O' V' own' hv' w0 σ0 A' a' w':=by
 have hb:=h.rndBelow h';have kJ:=h';obtain⟨t',qy,mD,hf,ht⟩:=kJ.frame;obtain⟨f1,f2,f3,f4,f5⟩:=hf.F;have ah:=σ0.lt _ _ _ _ dC.F;have bU:=σ0.sub _ _ _ _ dC.F
 have qN:∀k,fx k->own k=none:=λk hk=>by
  cases e:own k with
  |none=>rfl
  |some j=>exact absurd hk (dC.own k j e)
 have mS:∀k,cx k->¬((∃o x,V'.c k o=some x)\/∃x,V'.m k=some x):=λk hk hc=>by
  have h1:=bU k hk;rcases Inv.rndC h' hc (hX k h1) with⟨o,x,e⟩|⟨x,e⟩|⟨j,e⟩|e
  .exact dC.c k o x e hk
  .exact dC.m k x e hk
  .exact dC.own k j e h1
  .have:=ah k h1;omega
 refine⟨h'.defers,h'.ok,h.le.trans h'.le,h.old,λk o x e=>(h'.newc k o x e).elim (h.newc k o x) .inr,λk x e=>(h'.newm k x e).elim (h.newm k x) .inr,h'.below,h'.bw,h'.owns,h'.regs,h'.objs,h'.opts,t,fx,cx,
  ⟨σ0.keep _ _ _ _ _ dC.F hb λk hk=>Inv.rndSame h.ok h' (ah k hk) (qN k hk) (hX k hk),λk j hk l9=>?_,λk o x e hc=>mS k hc (.inl ⟨o,x,e⟩),λk x e hc=>mS k hc (.inr ⟨x,e⟩),λk e hB l9=>?_⟩,λj hj=>⟨(ht j hj).1,by rw[(ht j hj).2,f1]⟩⟩
 .rcases Inv.rndOwn h' hk (hX k l9) with⟨i,e⟩|e
  .exact dC.own k i e l9
  .have:=ah k l9;omega
 .by_cases hd:V.m k=some dw
  .exact dC.d k hd hB l9
  .exact hf.d k e hB ((f2 k).2 ⟨ah k l9,qN k l9,hd,hX k l9⟩)
def Inv.restore (h:Inv C S O V own hv w0 σ0 A a w)(hn:∀t gs s,S.r t≠.opt gs s)(hd:lR V w0.heap.size a'.defers)(hr:∀t,isNone (S.r t)=false->a'.tmps.getD t undef=a.tmps.getD t undef/\O'.r t=O.r t)(ho:∀j,pP (S.o j)=false->O'.o j=O.o j):
 Inv C S O' V own hv w0 σ0 (λ_=>False) a' w:=by
 refine⟨hd,h.ok,h.le,h.old,h.newc,h.newm,h.below,h.bw,h.owns,λt=>?_,λj=>?_,λt gs s e=>absurd e (hn t gs s),?_⟩
 .cases hs:isNone (S.r t) with
  |true=>cases hc:S.r t<;>rw[hc] at hs<;>simp[isNone] at hs;trivial
  |false=>
   rw[(hr t hs).1,(hr t hs).2];exact aK.mono' (.refl V) (.refl S hv) (hn t) (h.regs t)
 .cases hs:pP (S.o j) with
  |true=>cases hc:S.o j<;>rw[hc] at hs<;>simp[pP] at hs;trivial
  |false=>exact(h.objs j).mono (.refl V) (.refl S hv) rfl (ho j hs) (λk hk=>⟨hk,rfl⟩)
 .obtain⟨t,fx,cx,h1,h2⟩:=h.frame;exact⟨t,fx,cx,h1,λj hj=>⟨(h2 j hj).1,by rw[ho j (by rw[hj];rfl)];exact(h2 j hj).2⟩⟩
def lR.mem {V:Im}{B:Nat}:∀{ds:List Deferred} {d:Deferred},d∈ds->lR V B ds->∃D,d={target:=.collected D,args:=#[]}/\V.m D=some dw
 |x::ds,d,hm,⟨⟨D,h1,h2,_⟩,h⟩=>by
  rcases cZ.1 hm with e|e
  .subst e;exact⟨D,h1,h2⟩
  .exact lR.mem e h
def Im.mark (V:Im)(D:Nat):Im:=⟨V.c,λk=>if k=D then some dw else V.m k⟩
def YX (w:World)(o1 o2:Obj):Below w.heap.size w ((w.alloc o1).alloc o2):=(((Below.refl _ w).alloc (aY _) o1).alloc (by simp) o2)
def Inv.enter (h:Inv C S O V own hv w0 σ0 A a w)(r:Loop):
 Inv C S O (V.mark w.heap.size) own hv w0 σ0 A {a with defers:={target:=.collected w.heap.size,args:=#[]}::a.defers} ((w.alloc (.deferred (some []))).alloc (.loop r)):=by
 have hD:((w.alloc (.deferred (some []))).alloc (.loop r)).heap[w.heap.size]?=some (.deferred (some [])):=(Below.heap_alloc _ _ _ (by simp)).trans (World.alloc_heap_new w _);have hle:V.le (V.mark w.heap.size):=by
  refine⟨λ_ _ _ e=>e,λk x e=>?_⟩;have:k≠w.heap.size:=by have:=h.ltm e;omega
  simp[Im.mark,this,e]
 have EZ:∀k x,(V.mark w.heap.size).m k=some x->V.m k=some x\/(k=w.heap.size/\x=dw):=by
  intro k x e;simp only[Im.mark] at e;split at e
  .rename_i e2;cases e;exact .inr ⟨e2,rfl⟩
  .exact .inl e
 have hb:=YX w (.deferred (some [])) (.loop r);have az:(V.mark w.heap.size).ok ((w.alloc (.deferred (some []))).alloc (.loop r)):=by
  have h1:=h.ok.below hb;refine⟨h1.c,λk x e=>?_⟩;rcases EZ k x e with e|⟨rfl,rfl⟩
  .exact h1.m k x e
  .exact .inr ⟨rfl,hD⟩
 have hw:=h.world hle az hb (λ_ _ _ e=>.inl e) (λk x e=>(EZ k x e).imp id λe=>by omega);have pC:=hw.defers;refine⟨⟨⟨_,rfl,by simp[Im.mark],h.below.size,λhm=>?_⟩,pC⟩,hw.ok,hw.le,hw.old,hw.newc,hw.newm,hw.below,hw.bw,hw.owns,hw.regs,hw.objs,hw.opts,hw.frame⟩;obtain⟨D,e1,e2⟩:=lR.mem hm h.defers;have:D=w.heap.size:=by cases e1;rfl
 subst this;have:=h.ltm e2;omega
end
end Cx
