/-
  Shared texts of this claim.
-/
import Derived.Test.YtopjnikcppafdaaGreatDoorMAD
import Derived.Tactics
import Derived.RangeFuncIn
import Derived.OrdersIn
import Derived.RangeFuncRecord
set_option linter.defProp false
set_option linter.unusedSimpArgs false
set_option linter.unusedVariables false
namespace Cx
open Go Go.RowKit
inductive Gh where
 |fz (j:Nat)|fbox (b:Nat)|rereg (t j:Nat)|recell (b i j:Nat)|home (b i j:Nat) (T:TypeId)
def Gh.run (C:Ctx)(S:St):Gh->Option (St×List PI)
 |.fz j=>some (S.fz j,[])
 |.fbox b=>Fe S b
 |.rereg t j=>Io S t j
 |.recell b i j=>Il S b i j
 |.home b i j T=>F1 C S b i j T
def oD (C:Ctx):List Gh->St->Option (St×List PI)
 |[],S=>some (S,[])
 |g::gs,S=>(g.run C S).bind λr=>(oD C gs r.1).map λq=>(q.1,r.2++q.2)
def tX {Z:aS}:∀{a b:List PI} {O:Env},PI.runs Z (a++b) O=(PI.runs Z a O).bind (PI.runs Z b)
 |[],b,O=>by simp[PI.runs]
 |x::a,b,O=>by
  simp only[IZ,PI.runs];cases x.run Z O with
  |none=>rfl
  |some ρ1=>simp[tX (a:=a) (b:=b)]
def BW (S:St)(ops:Array Oper)(o:Oper):Option (List (Nat×Bool)):=
 match o.guard with
 |none=>some []
 |some (j,want)=>
  match(ops[j]?).bind (·.dst) with
  |some t=>
   match S.r t with
   |.dat .bool=>some [(t,want)]
   |.opt gs (.dat .bool)=>some ((t,want)::gs)
   |_=>none
  |none=>none
def ahJ (S:St)(gs:List (Nat×Bool)):Op->List Nat
 |.build _ ps=>dq S gs (ps.toList.map (·.2))
 |.buildSlice _ _ ps=>dq S gs (ps.toList.map (·.2))
 |.box _ x=>match gL S gs x with|.agg _=>[]|_=>dq S gs [x]
 |.pick _ x y=>dq S gs [x,y]
 |.slice _ x _ _ _=>dq S gs [x]
 |.mapUpdate _ _ k v=>dq S gs [k,v]
 |.insert _ _ k v=>dq S gs [k,v]
 |.store _ x v=>match gL S gs x with|.eptr ..=>dq S gs [v]|_=>[]
 |_=>[]
def Eu:List Sh->List Nat
 |[]=>[]
 |.obj j _::r=>j::Eu r
 |_::r=>Eu r
def Jt (S:St)(gs:List (Nat×Bool)):List Operand->List Nat
 |[]=>[]
 |x::xs=>
  match gL S gs x with
  |.ptr j ver off=>bif Nat.beq ver (S.ver j)&&(match S.o j with|.box ..=>true|_=>false) then j::Jt S gs xs else Jt S gs xs
  |_=>Jt S gs xs
def afJ (C:Ctx):Fn->Bool
 |.func f=>(match C.sig f with|some s=>rQ s.mode|none=>false)
 |_=>false
def auq {α:Type}{b:Bool}{x:α}{l:List α}(h:x∈bif b then[] else l):x∈l:=by
 cases b with
 |true=>cases h
 |false=>exact h
def pre (C:Ctx)(S:St)(gs:List (Nat×Bool))(op:Op):List Gh:=
 match op with
 |.makeFunc fn _ caps=>
  bif afJ C fn then[] else(Jt S gs caps.toList).flatMap λb=>(match S.o b with|.box _ shs=>(Eu shs).map .fz|_=>[])++[.fbox b]
 |.load T x=>
  match gL S gs x,rP C.P T,C.P.info? T with
  |.ptr j _ off,some true,some inf=>bif PG C j then[] else(match S.o j with|.box _ shs=>((Eu ((shs.drop off).take inf.size)).filter λj=>lM (S.o j)).map .fz|_=>[])
  |_,_,_=>[]
 |.build T ps=>((ahJ S gs (.build T ps)).filter λj=> !(C.fr.any (Nat.beq (3000000+j)))).map .fz
 |op=>(ahJ S gs op).map .fz
def Vd (C:Ctx)(S:St)(gs:List (Nat×Bool))(o:Oper):List Gh:=
 match o.op,o.dst with
 |.assign x,some t=>bif C.fr.any (Nat.beq t) then(dq S gs [x]).map .fz else[]
 |_,_=>[]
def QI (P:Program):Nat->TypeId->List (Option TypeId)
 |0,_=>[]
 |n+1,t=>
  match P.underlying t with
  |some (.struct fs)=>fs.toList.flatMap λf=>QI P n f.type
  |some (.array len e)=>(List.replicate len (QI P n e)).flatten
  |some (.slice e)=>[some e]
  |_=>[none]
def homes (P:Program)(b off:Nat)(T:TypeId):List Gh:=
 ((QI P 12 T).zipIdx).filterMap λx=>x.1.map λe=>.home b (off+x.2) (gX b (off+x.2)) e
def Mn (nh:List Nat)(l:List Gh):List Gh:=l.filter λg=>match g with|.home _ _ j _=> !(nh.any (Nat.beq j))|_=>true
def aiU (b off n:Nat):List Gh:=(List.range n).map λi=>.recell b (off+i) (gX b (off+i))
def post (C:Ctx)(S:St)(o:Oper):List Gh:=
 match o.op,o.dst with
 |.assign _,some t=>[.rereg t t]
 |.alloc T,some t=>Mn C.nh (homes C.P t 0 T)
 |.store T x _,_=>
  match gL S [] x with
  |.ptr j _ off=>Mn C.nh (homes C.P j off T)++aiU j off (match C.P.info? T with|some i=>i.size|none=>0)
  |_=>[]
 |_,_=>[]
def MJ:Sh->Bool
 |.opt ..=>false
 |_=>true
def vL (C:Ctx)(S:St)(dst:Nat)(T:TypeId)(x:Operand):ls:=
 match x with
 |.const v=>(qI C.P T).bind λt=>(qK t).bind λz=>bif kf t v then some (S.setR dst (.dat z.1),[.setR dst (.con z.2)]) else none
 |_=>none
def core (C:Ctx)(S:St)(gs:List (Nat×Bool))(o:Oper):Option (St×List PI):=
 match o.dst with
 |some dst=>
  match M5 C S gs dst o.op with
  |some r=>bif MJ r.1 then some (S.setR dst (uK gs r.1),r.2) else none
  |none=>
   match o.op,gs with
   |.assign x,[]=>
    bif C.fr.any (Nat.beq dst) then
          match zt C S [] dst x with
          |some r=>some (S.setR dst r.1,r.2)
          |none=>vL C S dst o.type x
    else
    match EX C S dst o.type x with
    |some r=>some r
    |none=>
     match zt C S [] dst x with
     |some r=>some (S.setR dst r.1,r.2)
     |none=>vL C S dst o.type x
   |.alloc T,[]=>EL C S dst T
   |.box T x,[]=>EN C S dst T x
   |.buildSlice T n ps,gs=>
    match gs with
    |[]=>yp C S [] dst T n ps.toList
    |_=>BI C S gs dst T n ps.toList
   |.makeSlice T l c,[]=>EV C S dst T l c
   |.makeMap T r,[]=>ET C S dst T r
   |.range T x,[]=>EY C S dst T x
   |.convert T U x,[]=>EO C S dst T U x
   |.call c,gs=>
    match c.callee,gs with
    |.builtin .append,[]=>
     match c.args.toList,c.argTypes.toList with
     |[s,x],[T,T']=>bif Nat.beq T T' then EM C S dst T s x else none
     |_,_=>none
    |.value (.func f),gs=>
     match BG C S gs dst f c.args.toList with
     |some r=>some (r.1.setR dst (uK gs r.2.1),r.2.2)
     |none=>
      match gs with
      |[]=>
       match ER C S dst f c.args.toList with
       |some r=>some r
       |none=>
        match ES C S dst f c.args.toList with
        |some r=>some r
        |none=>
        match EP C S dst f c.args.toList with
        |some r=>some r
        |none=>(sT C S f c.args.toList []).map (rZ S (some dst))
      |_=>none
    |.value x,gs=>
     match yq C S gs dst x c.args.toList with
     |some r=>some (r.1.setR dst (uK gs r.2.1),r.2.2)
     |none=>
      match x,gs with
      |.tmp t,[]=>(BH C S t c.args.toList).map (rZ S (some dst))
      |_,_=>none
    |_,_=>none
   |.makeFunc fn first caps,[]=>EW C S dst fn first caps
   |_,_=>none
 |none=>
  match o.op,gs with
  |.store T x v,[]=>EZ C S T x v
  |.mapUpdate T m k v,[]=>BJ C S T m k v
  |.insert T m k v,[]=>BJ C S T m k v
  |.panic _,[]=>some (S,[.chk (.nt (.con (.bool true)))])
  |.call c,[]=>
   match c.callee with
   |.value (.func f)=>(sT C S f c.args.toList []).map (rZ S none)
   |.value (.tmp t)=>(BH C S t c.args.toList).map (rZ S none)
   |_=>none
  |_,_=>none
def ahn (dst:Nat)(l:List PI):Bool:=l.all λp=>p.modR.all (Nat.beq dst)&&p.modO.isEmpty
def Lh (gs:List (Nat×Bool))(dst:Option Nat)(l:List PI):Bool:=
 match gs,dst with
 |[],_=>true
 |_,some d=>ahn d l
 |_,none=>false
def KW (C:Ctx)(S:St)(ops:Array Oper)(o:Oper):Option (St×List PI):=
 (BW S ops o).bind λgs=>
 (oD C (pre C S gs o.op++Vd C S gs o) S).bind λr1=>
 (core C r1.1 gs o).bind λr2=>
 (oD C (post C r2.1 o) r2.1).bind λr3=>
 bif Lh gs o.dst r2.2 then some (r3.1,r1.2++r2.2++r3.2) else none
def ID:PI:=.chk (.con (.v (.bool false)))
def EG (C:Ctx)(S:St)(ops:Array Oper)(o:Oper):Option (St×List PI):=
 match KW C S ops o with
 |some r=>some r
 |none=>some (match o.dst with|some d=>S.setR d .none|none=>S,[ID])
section
variable {C:Ctx} {S:St} {O:Env} {V:Im} {own:Nat->Option Nat} {hv:Nat->Value} {w0:World} {σ0:Base} {A:Nat->Prop} {a:Act} {w:World} {gs:List (Nat×Bool)} {Z:aS} {dst:Nat}
def Gh.sound {g:Gh}{r:St×List PI}(h:Good C w0 σ0 S O A a w)(hr:g.run C S=some r):DP C w0 σ0 Z S O A a w r:=by
 obtain⟨V,own,hv,h⟩:=h;cases g with
 |fz j=>
  simp only[Gh.run,aZ] at hr;subst hr;intro O' ak;rw[qF ak];obtain⟨V',own',_,h'⟩:=h.fz j;exact⟨V',own',hv,h'⟩
 |fbox b=>exact ao8 h hr
 |rereg t j=>exact awI h hr
 |recell b i j=>exact awH h hr
 |home b i j T=>exact ari h hr
def Rw:∀(l:List Gh) {S:St} {O O':Env} {r:St×List PI},Good C w0 σ0 S O A a w->oD C l S=some r->PI.runs Z r.2 O=some O'->Good C w0 σ0 r.1 O' A a w
 |[],S,O,O',r,h,hr,ak=>by
  simp only[oD,aZ] at hr;subst hr;rw[qF ak];exact h
 |g::l,S,O,O',r,h,hr,ak=>by
  simp only[oD,az,aB] at hr;obtain⟨q,hq,q2,gY,rfl⟩:=hr;simp only[tX,az] at ak;obtain⟨ρ1,h1,h2⟩:=ak;exact Rw (r:=q2) l (Gh.sound (Z:=Z) h hq ρ1 h1) gY h2
def acB (h:Good C w0 σ0 S O A a w){ops:Array Oper}{o:Oper}(hg:BW S ops o=some gs):Region.wanted o (yielded ops a.tmps)=holds gs O:=by
 obtain⟨V,own,hv,h⟩:=h;unfold BW at hg;unfold Region.wanted;split at hg
 .rename_i e;cases hg;simp[e,holds]
 .rename_i j want e;simp only[e];split at hg
  case h_2=>cases hg
  rename_i t ht;have gy:=h.regs t;have hy:∀v,a.tmps.getD t undef=v->(∀b,v=.bool b->yielded ops a.tmps j=some b)/\(v=undef->yielded ops a.tmps j=none):=by
   intro v hv';unfold yielded;rw[ht];simp only[pE];rw[fe] at hv';cases rI:a.tmps[t]? with
   |none=>rw[rI] at hv';simp at hv';subst hv';exact⟨λb e=>absurd e (by simp[undef]),λ_=>rfl⟩
   |some u=>rw[rI] at hv';simp at hv';subst hv';exact⟨λb e=>by subst e;rfl,λe=>by subst e;rfl⟩
  split at hg
  .rename_i es;cases hg;rw[es] at gy;obtain⟨b,gu,de⟩:=Rep.bool_inv gy;rw[(hy _ gu).1 b rfl];simp[holds,de,D.b_bool]
  .rename_i bM es;cases hg;rw[es] at gy;simp only[holds,sJ];cases hh:holds bM O with
   |true=>
    obtain⟨b,gu,de⟩:=Rep.bool_inv (gy.1 hh);rw[(hy _ gu).1 b rfl];unfold holds at hh;rw[hh,de];simp[D.b_bool]
   |false=>
    rw[(hy _ (gy.2 hh)).2 rfl];unfold holds at hh;rw[hh];simp
  .cases hg
def acA (h:Good C w0 σ0 S O A a w){ops:Array Oper}{o:Oper}(hg:BW S ops o=some gs)(hj:∀j want t,o.guard=some (j,want)->(ops[j]?).bind (·.dst)=some t->A t):∀g,g∈gs->A g.1:=by
 obtain⟨V,own,hv,h⟩:=h;unfold BW at hg;split at hg
 .cases hg;simp
 .rename_i j want e;split at hg
  case h_2=>cases hg
  rename_i t ht;have hA:=hj j want t e ht;split at hg
  .cases hg;intro g hm;simp at hm;subst hm;exact hA
  .rename_i bM es;cases hg;intro g hm;rcases cB.1 hm with e'|fG
   .subst e';exact hA
   .exact(h.opts t bM _ es).1 g fG
  .cases hg
def auY (h:Inv C S O V own hv w0 σ0 A a w)(hC:CtxOK C σ0)(hg:holds gs O=true){o:Oper}{r:Sh×List PI}(hr:M5 C S gs dst o.op=some r):eL C S O V hv Z dst a w o r:=by
 unfold M5 at hr;split at hr
 .rename_i x e;exact ahp h hC hg hr (.inl e)
 .rename_i c x y e;exact auX h hC hg hr e
 .rename_i op T x y T' e;exact auK h hC hg hr e
 .rename_i op T x e;exact au0 h hC hg hr e
 .rename_i s d x e;exact auM h hC hg hr e
 .rename_i T x e;exact GN h hC hg hr e
 .rename_i T x i e;exact auO h hC hg hr e
 .rename_i T x i e;exact auP h hC hg hr e
 .rename_i T x i e;exact auR h hC hg hr e
 .rename_i T x i e;exact auS h hC hg hr e
 .rename_i x i e;exact auN h hC hg hr e
 .rename_i T m k ok e;exact auV h hC hg hr e
 .rename_i T x lo hi mx e;exact auZ h hC hg hr e
 .rename_i f a b e;exact auQ h hC hg hr e
 .rename_i T ps e;exact auL h hC hg hr e
 .rename_i x e;exact auW h hC hg hr e
 .cases hr;intro O' ak;have:=(WT hg ak).1;cases this
 .rename_i c e;split at hr
  .rename_i x T hc ha ht;refine auT h hC hg hr ?_;rw[e];cases c with|mk callee args argTypes=>
   simp only at hc ha ht;have h1:args=#[x]:=by rw[<-vt];exact ha
   have h2:argTypes=#[T]:=by rw[<-vt];exact ht
   rw[hc,h1,h2]
  .rename_i x y hc ha;refine aho (ts:=c.argTypes) h hC hg hr ?_;rw[e];cases c with|mk callee args argTypes=>
   simp only at hc ha;have h1:args=#[x,y]:=by rw[<-vt];exact ha
   rw[hc,h1];rfl
  .rename_i x y hc ha;refine aho (ts:=c.argTypes) h hC hg hr ?_;rw[e];cases c with|mk callee args argTypes=>
   simp only at hc ha;have h1:args=#[x,y]:=by rw[<-vt];exact ha
   rw[hc,h1];rfl
  .cases hr
 .cases hr
def ann (h:Inv C S O V own hv w0 σ0 A a w)(ht:¬A dst)(af:dst<a.tmps.size){T:TypeId}{x:Operand}{r:St×List PI}(hr:vL C S dst T x=some r){o:Oper}(hd:o.dst=some dst)(ho:o.op=.assign x):bS C w0 σ0 Z S O A a w o r:=by
 unfold vL at hr;split at hr
 case h_2=>cases hr
 rename_i v;simp only[az] at hr;obtain⟨t,_,z,hz,hr⟩:=hr;cases hc:kf t v<;>simp only[hc,zyy,zyx] at hr
 .cases hr
 cases hr;have bI:=(Af (cap:=C.cap) (V:=V) hz hc).1;refine bS.value hd λO' ak=>⟨v,w,by simp[execOp,ho,Act.eval],?_⟩
 have hρ:O'=O.setR dst z.2:=by simp[PI.runs,PI.run,PE.ev] at ak;exact ak.symm
 subst hρ;exact⟨_,_,_,h.setReg ht (s:=.dat z.1) bI af (λ_ _ e=>by cases e)⟩
def amo (h:Inv C S O V own hv w0 σ0 A a w)(hC:CtxOK C σ0)(aY:dN C)(hΦ:du C Z){o:Oper}(ht:∀d,o.dst=some d->¬A d/\d<a.tmps.size)(eC:∀g,g∈gs->A g.1)(hg:holds gs O=true){r:St×List PI}
 (hr:core C S gs o=some r):bS C w0 σ0 Z S O A a w o r:=by
 unfold core at hr;split at hr
 .rename_i dst hd;obtain⟨gA,gB⟩:=ht dst hd;split at hr
  .rename_i q hq;cases fH:MJ q.1<;>simp only[fH,zyy,zyx] at hr
   .cases hr
   cases hr;have SO:=auY (Z:=Z) h hC hg hq;cases gs with
   |nil=>exact SO.eff h gA gB hd
   |cons g bM=>exact SO.effG h gA gB eC hg hd
  .rename_i Sv;clear Sv;split at hr
   .rename_i x e
    have mv:∀r,(match zt C S [] dst x with|some r=>some (S.setR dst r.1,r.2)|none=>vL C S dst o.type x)=some r->bS C w0 σ0 Z S O A a w o r:=by
     intro r hr;split at hr
     .rename_i q hq;cases hr;exact(ahp (Z:=Z) h hC hg hq (.inr e)).eff h gA gB hd
     .exact ann h gA gB hr hd e
    cases dS:C.fr.any (Nat.beq dst)<;>simp only[dS,zyy,zyx] at hr
    .split at hr
     .rename_i q hq;cases hr;exact anh h hC gA gB hq hd e
     .exact mv r hr
    .exact mv r hr
   .rename_i T e;exact amO h gA gB hr hd e
   .rename_i T x e;exact amS h hC gA gB hr hd e
   .rename_i T n ps e;split at hr
    .exact amU h hC gA gB hr hd e
    .exact am8 h hC gA gB eC hg hr hd e
   .rename_i T l c e;exact anc h hC gA gB hr hd e
   .rename_i T m e;exact ana h gA gB hr hd e
   .rename_i T x e;exact anj h gA gB hr hd e
   .rename_i T U x e;exact amW h hC gA gB hr hd e
   .rename_i c e;cases c with|mk callee args argTypes=>
    split at hr
    .rename_i hc;simp only at hc;split at hr
     .rename_i s x T T' ha S7;simp only at ha S7;cases hT:Nat.beq T T'<;>simp only[hT,zyy,zyx] at hr
      .cases hr
      have BZ:=ay hT;subst BZ;refine amQ h hC gA gB hr hd ?_;have h1:args=#[s,x]:=by rw[<-vt];exact ha
      have h2:argTypes=#[T,T]:=by rw[<-vt];exact S7
      rw[e,hc,h1,h2]
     .cases hr
    .rename_i f hc;simp only at hc;split at hr
     .rename_i q hq;cases hr;exact am6 h hC aY hΦ gA gB eC hg hq hd (by rw[e,hc])
     .split at hr
      .split at hr
       .rename_i q hq;cases hr;exact am2 h hC aY hΦ gA gB hq hd (by rw[e,hc])
       .split at hr
        .rename_i q hq;cases hr;exact am4 h hC aY hΦ gA gB hq hd (by rw[e,hc])
        split at hr
        .rename_i q hq;cases hr;exact am0 h hC aY hΦ gA gB hq hd (by rw[e,hc])
        .simp only[aB] at hr;obtain⟨q,hq,rfl⟩:=hr;rw[<-hd];exact abU h hC aY hΦ ht hq (by rw[e,hc])
      .cases hr
    .rename_i x hnf hc;simp only at hc;split at hr
     .rename_i q hq;cases hr;exact amY h hC aY hΦ gA gB eC hg hq hd (by rw[e,hc])
     .split at hr
      .simp only[aB] at hr;obtain⟨q,hq,rfl⟩:=hr;rw[<-hd];exact abS h hC aY hΦ ht hq (by rw[e,hc])
      .cases hr
    .cases hr
   .rename_i fn first caps e;exact anf h gA gB hr hd e
   .cases hr
 .rename_i hd;split at hr
  .rename_i T x v e;exact anl h hC hr hd e
  .rename_i T m k v e;exact abW h hC hr hd (.inl e)
  .rename_i T m k v e;exact abW h hC hr hd (.inr e)
  .cases hr;intro O' ak;simp[PI.runs,PI.run,PE.ev,D.bool,D.b] at ak
  .rename_i c e;cases c with|mk callee args argTypes=>
   split at hr
   .rename_i f hc;simp only at hc;simp only[aB] at hr;obtain⟨q,hq,rfl⟩:=hr;rw[<-hd];exact abU h hC aY hΦ ht hq (by rw[e,hc])
   .rename_i t hc;simp only at hc;simp only[aB] at hr;obtain⟨q,hq,rfl⟩:=hr;rw[<-hd];exact abS h hC aY hΦ ht hq (by rw[e,hc])
   .cases hr
  .cases hr
def amm {g:Nat×Bool}{bM:List (Nat×Bool)}{o:Oper}{r:St×List PI}(hr:core C S (g::bM) o=some r):
 ∃dst S2 s,o.dst=some dst/\r.1=S2.setR dst (.opt (g::bM) s)/\((∃js,S2=S.fzs js)\/∃j,S2=S.newO j .dead)/\(∀gs s',s≠.opt gs s')/\(∀x,o.op≠.assign x)/\(∀T,o.op≠.alloc T)/\∀T x v,o.op≠.store T x v:=by
 unfold core at hr;split at hr
 .rename_i dst hd;split at hr
  .rename_i q hq;cases fH:MJ q.1<;>simp only[fH,zyy,zyx] at hr
   .cases hr
   cases hr;refine⟨dst,S,q.1,hd,rfl,.inl ⟨[],rfl⟩,(λgs s' e=>by rw[e] at fH;cases fH),λx e=>?_,λT e=>?_,λT x v e=>?_⟩<;>(rw[e] at hq;simp[M5] at hq)
  .rename_i Sv;clear Sv;split at hr
   case h_4=>
        rename_i T n ps e;split at hr
        .rename_i hx;cases hx
        .unfold BI at hr;split at hr
         case h_2=>cases hr
         simp only[az] at hr;obtain⟨e0,he0,hr⟩:=hr;split at hr
         .cases hr;exact⟨dst,_,.dat (.slice e0.rol),hd,rfl,.inr ⟨dst,rfl⟩,(λ_ _ e=>by cases e),(λx e'=>by rw[e] at e';cases e'),(λx e'=>by rw[e] at e';cases e'),(λ_ _ _ e'=>by rw[e] at e';cases e')⟩
         .cases hr
   case h_9=>
        rename_i c e;split at hr
        .rename_i hx;cases hx
        .rename_i f hc;split at hr
         .rename_i q hq;cases hr;simp only[BG,az] at hq;obtain⟨s,hs,hq⟩:=hq;split at hq
          case h_2=>cases hq
          simp only[az] at hq;obtain⟨u,hu,hq⟩:=hq;cases cg:Ty.subs u.1 s.args<;>simp only[cg,zyy,zyx] at hq
          .cases hq
          cases hq;refine⟨dst,_,.dat s.res,hd,rfl,?_,(λ_ _ e=>by cases e),(λx e'=>by rw[e] at e';cases e'),(λx e'=>by rw[e] at e';cases e'),(λ_ _ _ e'=>by rw[e] at e';cases e')⟩;left;cases s.res.pure
          .exact⟨_,rfl⟩
          .exact⟨[],rfl⟩
         .cases hr
        .rename_i x hnf hc;have hr:∃q,yq C S (g::bM) dst x c.args.toList=some q/\(q.1.setR dst (uK (g::bM) q.2.1),q.2.2)=r:=by
          split at hr
          .rename_i q hq;cases hr;exact⟨q,hq,rfl⟩
          .split at hr
           all_goals (first|(cases hr;done)|(rename_i hx;cases hx;done)|(rename_i hx _;cases hx;done)|(rename_i hx _ _;cases hx;done)|(rename_i hx;exact absurd hx (by simp)))
         obtain⟨q,hq,rfl⟩:=hr;unfold yq at hq;split at hq
         case h_2=>cases hq
         rename_i aa r0 ee hu0;split at hq
         case h_1=>cases hq
         simp only[az] at hq;obtain⟨u,hu,hq⟩:=hq;cases cg:Ty.subs u.1 aa<;>simp only[cg,zyy,zyx] at hq
         .cases hq
         cases hq;refine⟨dst,_,.dat r0,hd,rfl,?_,(λ_ _ e=>by cases e),(λx e'=>by rw[e] at e';cases e'),(λx e'=>by rw[e] at e';cases e'),(λ_ _ _ e'=>by rw[e] at e';cases e')⟩;left;cases r0.pure
         .exact⟨_,rfl⟩
         .exact⟨[],rfl⟩
        .cases hr
   all_goals (first|(cases hr;done)|(rename_i hx;cases hx;done)|(rename_i hx _;cases hx;done))
 .split at hr
  all_goals (first|(cases hr;done)|(rename_i hx;cases hx;done)|(rename_i hx _;cases hx;done))
def adN {O ρ1:Env}:∀{l:List (Nat×Bool)},(∀g,g∈l->ρ1.r g.1=O.r g.1)->holds l ρ1=holds l O
 |[],_=>rfl
 |x::l,h=>by
  have ih:=adN (l:=l) λy hy=>h y (fq _ hy);unfold holds at ih ⊢;simp only[sJ];rw[ih,h x (fR ..)]
def acv:∀(l:List Gh) {S:St} {r:St×List PI},oD C l S=some r->∀t,t∉r.2.flatMap PI.modR
 |[],S,r,hr=>by simp only[oD,aZ] at hr;subst hr;simp
 |g::l,S,r,hr=>by
  simp only[oD,az,aB] at hr;obtain⟨q,hq,q2,gY,rfl⟩:=hr;have ih:=acv l gY;have hg:∀t,t∉q.2.flatMap PI.modR:=by
   cases g with
   |fz j=>simp only[Gh.run,aZ] at hq;subst hq;simp
   |fbox b=>
    simp only[Gh.run,Fe] at hq;split at hq
    case h_2=>cases hq
    simp only[az] at hq;obtain⟨x,hx,hq⟩:=hq;rename_i ag shs eo;cases ag<;>simp only[zyy,zyx] at hq
    .split at hq
     .cases hq;simp[PI.modR]
     .cases hq
    .cases hq;simp[PI.modR]
   |rereg t j=>
    simp only[Gh.run,Io] at hq;split at hq
    .rename_i j' ver es;cases hb:(Nat.beq ver (S.ver j')&&lM (S.o j')&& !Nat.beq j' j)<;>simp only[hb,zyy,zyx] at hq<;>cases hq<;>simp[PI.modR]
    .cases hq;simp
   |recell b i j=>
    simp only[Gh.run,Il] at hq;split at hq
    .split at hq
     .rename_i ag shs eo j' ver es;cases hb:(Nat.beq ver (S.ver j')&&lM (S.o j')&& !Nat.beq j' j&& !Nat.beq b j&& !Nat.beq b j')<;>simp only[hb,zyy,zyx] at hq<;>cases hq<;>simp[PI.modR]
     .cases hq;simp
    .cases hq;simp
   |home b i j T=>
    simp only[Gh.run,F1] at hq;split at hq
    .split at hq
     .cases hb:(!Nat.beq b j)<;>simp only[hb,zyy,zyx] at hq<;>cases hq<;>simp[PI.modR]
     .cases hq;simp
    .cases hq;simp
  intro t hm;rw[List.flatMap_append,dC] at hm;exact hm.elim (hg t) (ih t)
def amc (h:Good C w0 σ0 S O A a w)(hC:CtxOK C σ0)(aY:dN C)(hΦ:du C Z){ops:Array Oper}{o:Oper}(ht:∀d,o.dst=some d->¬A d/\d<a.tmps.size)
 (hj:∀j want t,o.guard=some (j,want)->(ops[j]?).bind (·.dst)=some t->A t) {r:St×List PI} (hr:KW C S ops o=some r) {O':Env} (ak:PI.runs Z r.2 O=some O')
 {K:Act->World->Prop} {Q:Exit->Act->World->Prop} (hK:∀a' w',Good C w0 σ0 r.1 O' (λu=>A u\/o.dst=some u) a' w'->a'.tmps.size=a.tmps.size->K a' w'):
 if Region.wanted o (yielded ops a.tmps) then o.wp C.P a w K Q else K (a.put o.dst undef) w:=by
 simp only[KW,az] at hr;obtain⟨gs,eC,r1,ml,r2,ng,r3,yW,hr⟩:=hr;have Ca:=acA h eC hj;rw[acB h eC];cases hc:Lh gs o.dst r2.2<;>simp only[hc,zyy,zyx] at hr
 .cases hr
 cases hr;simp only[tX,az] at ak;obtain⟨ρ2,⟨ρ1,hρ1,hρ2⟩,hρ3⟩:=ak;have h1:=Rw _ h ml hρ1;have cw:=h1;obtain⟨σ1,dt,aL,i1⟩:=cw;have LM:holds gs ρ1=holds gs O:=by
  cases gs with
  |nil=>rfl
  |cons g bM=>
   have hb:=(PI.runs_but hρ1).r
   have:∀x,x∈(g::bM)->ρ1.r x.1=O.r x.1:=λx hm=>hb x.1 (by
        intro cV;exact acv _ ml x.1 cV)
   exact adN this
 cases hh:holds gs O with
 |true=>
  simp only[if_true];rw[hh] at LM;refine amo i1 hC aY hΦ ht Ca LM ng ρ2 hρ2 K Q (λa' w' lF aI=>?_);exact hK a' w' (Rw (r:=r3) _ lF yW hρ3) aI
 |false=>
  simp only[xE,if_false];rw[hh] at LM;cases gs with
  |nil=>simp[holds] at hh
  |cons g bM=>
   obtain⟨dst,S2,s,hd,hS,BY,hns,n1,n2,n3⟩:=amm ng;obtain⟨t1,t2⟩:=ht dst hd;have rN:post C r2.1 o=[]:=by
        unfold post;split
        .rename_i x t e _;exact absurd e (n1 x)
        .rename_i T t e _;exact absurd e (n2 T)
        .rename_i T x v e;exact absurd e (n3 T x v)
        .rfl
   rw[rN] at yW;simp only[oD,aZ] at yW;subst yW;have:=qF hρ3;subst this;obtain⟨σ2,jB,i2⟩:∃σ2 jB,Inv C S2 ρ1 σ2 jB aL w0 σ0 A a w:=by
        rcases BY with⟨js,rfl⟩|⟨j,rfl⟩
        .obtain⟨σ2,jB,_,i2⟩:=Inv.fzs js i1;exact⟨σ2,jB,i2⟩
        .exact⟨σ1,dt,i1.kill j⟩
   have F3:=i2.passed t1 t2 Ca LM (s:=s) hns (O'.r dst);have hρe:ρ1.setR dst (O'.r dst)=O':=by
        have hb:=PI.runs_but hρ2;simp only[Lh,hd] at hc;unfold ahn at hc;rw[cN] at hc
        have e1:∀t,t≠dst->O'.r t=ρ1.r t:=λt au=>hb.r t (λhm=>by
         obtain⟨p,hp,wg⟩:=xQ.1 hm;have:=hc p hp;simp only[ao] at this;have:=cN.1 this.1 t wg;exact au (ay this).symm)
        have e2:∀t,O'.o t=ρ1.o t:=λt=>hb.o t (λhm=>by
         obtain⟨p,hp,wg⟩:=xQ.1 hm;have:=hc p hp;simp only[ao] at this;have h9:=aay.1 this.2;rw[h9] at wg;cases wg)
        have r1:bW ρ1.r dst (O'.r dst)=O'.r:=by
         funext t;rw[fp];split
         .rename_i e;subst e;rfl
         .rename_i au;exact(e1 t au).symm
        have r2:ρ1.o=O'.o:=funext λt=>(e2 t).symm;cases O' with|mk a b=>simp only[Env.setR] at r1 r2 ⊢;rw[r1,r2]
   rw[hρe] at F3;have ky:(λu=>A u\/o.dst=some u)=(λu=>A u\/u=dst):=by funext u;rw[hd];simp[eq_comm]
   rw[ky] at hK;rw[hd];refine hK _ _ ?_ (size_put _ _ _);simp only;rw[hS];exact⟨_,_,_,F3⟩
def ame (h:Good C w0 σ0 S O A a w)(hC:CtxOK C σ0)(aY:dN C)(hΦ:du C Z){ops:Array Oper}{o:Oper}(ht:∀d,o.dst=some d->¬A d/\d<a.tmps.size)
 (hj:∀j want t,o.guard=some (j,want)->(ops[j]?).bind (·.dst)=some t->A t) {r:St×List PI} (hr:EG C S ops o=some r) {O':Env} (ak:PI.runs Z r.2 O=some O')
 {K:Act->World->Prop} {Q:Exit->Act->World->Prop} (hK:∀a' w',Good C w0 σ0 r.1 O' (λu=>A u\/o.dst=some u) a' w'->a'.tmps.size=a.tmps.size->K a' w'):
 if Region.wanted o (yielded ops a.tmps) then o.wp C.P a w K Q else K (a.put o.dst undef) w:=by
 unfold EG at hr;split at hr
 .rename_i q hq;cases hr;exact amc h hC aY hΦ ht hj hq ak hK
 .cases hr;simp[PI.runs,PI.run,ID,PE.ev,D.b_bool] at ak
end
def tL:Op->Bool
 |.defer _=>false
 |_=>true
def FR (rd:Option Nat):Fence:={Fence.wide with round:=rd}
def abj {rd:Option Nat}{n:Nat}{P:Program}{f:FuncId}{args:Array Value}{w:World}{R:Ending->World->Prop}(h:Calls P f args w R):CallsIn (FR rd) n P f args w R:=
 (callsIn_wide (n:=n)).2 h
def ahq {rd:Option Nat}{n:Nat}{P:Program}{o:Oper}{a:Act}{w:World}{K:Act->World->Prop}{Q:Exit->Act->World->Prop}(bo:tL o.op=true)(h:o.wp P a w K Q):o.wpIn (FR rd) n P a w K Q:=by
 refine⟨λ_ _=>trivial,?_⟩;rw[Oper.semAt_eq _ _ _ (λc e=>by rw[e] at bo;cases bo)];unfold Oper.wp at h;generalize (execOp a.eval o).run P w=x at h;have fH:∀{p:Prop},((FR rd).depth.isSome=true->p):=λe=>by cases e
 cases x with
 |ok v w'=>
  cases v with
  |value v=>exact h
  |skip=>exact h
  |defer d=>exact h
  |enter f args=>
   refine⟨fH,(abj h).mono λe lj hh=>?_⟩;cases e<;>exact hh
  |row row args=>
   refine⟨fH,λc cs _=>?_⟩;obtain⟨v,w2,h1,h2⟩:=h c cs;exact⟨v,w2,h1,stepsIn_wide.2 h2⟩
  |_=>exact h.elim
 |halt v w'=>
  cases v with
  |panic v=>exact h
  |_=>exact h.elim
structure SameBut (D:Nat->Prop) (a a':Act):Prop where
 size:a'.tmps.size=a.tmps.size
 get:∀t,¬D t->a'.tmps.getD t undef=a.tmps.getD t undef
def SameBut.refl (D:Nat->Prop)(a:Act):SameBut D a a:=⟨rfl,λ_ _=>rfl⟩
def SameBut.trans {D:Nat->Prop}{a b c:Act}(h:SameBut D a b)(k:SameBut D b c):SameBut D a c:=⟨k.size.trans h.size,λt ht=>(k.get t ht).trans (h.get t ht)⟩
def SameBut.mono {D D':Nat->Prop}{a b:Act}(h:SameBut D a b)(hd:∀t,D t->D' t):SameBut D' a b:=⟨h.size,λt ht=>h.get t λe=>ht (hd t e)⟩
def SameBut.put (a:Act)(d:Option Tmp)(v:Value)(ds:List Deferred):SameBut (λt=>d=some t) a ({a with defers:=ds}.put d v):=by
 refine⟨size_put _ _ _,λt ht=>?_⟩;cases d with
 |none=>rfl
 |some u=>
  have:t≠u:=λe=>ht (by rw[e]);rw[zZ];simp[this]
def Oper.wp_same {P:Program}{o:Oper}{a:Act}{w:World}{K:Act->World->Prop}{Q:Exit->Act->World->Prop}(h:o.wp P a w (λa' w'=>SameBut (λt=>o.dst=some t) a a'->K a' w') Q):o.wp P a w K Q:=by
 unfold Oper.wp at h ⊢;generalize (execOp a.eval o).run P w=x at h ⊢;cases x with
 |ok v w'=>
  cases v with
  |value v=>exact h (SameBut.put a _ _ a.defers)
  |skip=>exact h (SameBut.put a _ _ a.defers)
  |defer d=>exact h (SameBut.put a _ _ _)
  |enter f args=>
   refine Calls.mono h λe lj hh=>?_;cases e with
   |returned v=>exact hh (SameBut.put a _ _ a.defers)
   |panicked c=>exact hh
   |outgrown=>exact hh
  |row row args=>exact Rows.mono h λv lj hh=>hh (SameBut.put a _ _ a.defers)
  |_=>exact h
 |halt v w'=>
  cases v with
  |panic v=>exact h
  |_=>exact h
def YOK (P:Program)(v:Value)(args:List Value)(w:World)(R:Value->World->Prop):Prop:=
 ∀(rd:Option Nat) (o:Oper) (a:Act) (x:Operand) (aa:Array Operand) (ts:Array TypeId) (K:Act->World->Prop) (Q:Exit->Act->World->Prop),
  o.op=.call {callee:=.value x,args:=aa,argTypes:=ts}->a.eval x=v->aa.toList.map a.eval=args->(∀u w',R u w'->K (a.put o.dst u) w')->o.wpIn (FR rd) 0 P a w K Q
def nL:Nat:=1000000009
def uv (C:Ctx)(Z:aS)(w0:World)(σ0:Base):Prop:=∀J ys,C.yl=some (J,ys)->σ0.B=0/\(∀t fx cx w,σ0.F t fx cx w->∃xs,t=.list xs)/\
 ∀(xs ds':List D) (d:D),Z nL [.list (xs++[.tup ds'])]=some d->∀(fx cx:Nat->Prop) (w1:World) (σ1:Im) (args:List Value),σ0.F (.list xs) fx cx w1->σ1.ok w1->qL C σ1 ys args ds'->
  (∀k o x,σ1.c k o=some x->¬cx k)->(∀k x,σ1.m k=some x->¬cx k)->
  (∀k o x,σ1.c k o=some x->σ0.c k o=some x\/w0.heap.size<=k)->(∀k x,σ1.m k=some x->σ0.m k=some x\/w0.heap.size<=k)->
  YOK C.P C.yv args w1 λu w2=>∃b,d=.v (.bool b)/\u=.bool b/\Below 0 w1 w2/\(∀k,k<w1.heap.size->¬cx k->w2.heap[k]?=w1.heap[k]?)/\
   ∃oC kN,σ0.F (.list (xs++[.tup ds'])) oC kN w2/\(∀k,oC k->k<w1.heap.size->fx k\/(∃o x,σ1.c k o=some x)\/(∃x,σ1.m k=some x/\x≠cC))/\(∀k,kN k->k<w1.heap.size->cx k)
def OP (gs:List (Nat×Bool))(J:Nat)(x:PE):PE:=
 match gs with
 |[]=>.app (.o J) (.lst [x])
 |_=>.pick (.nt (.imp gs (.con (.v (.bool false))))) (.app (.o J) (.lst [x])) (.o J)
def KY (C:Ctx)(S:St)(ops:Array Oper)(o:Oper):Option (St×List PI):=
 match o.dst,o.op,C.yl with
 |some dst,.call {callee:=.value (.tmp t),args:=args,..},some (J,ys)=>
  (BW S ops o).bind λgs=>
    match nC S gs t with
    |.yv=>
     match(S.fzs (dq S gs args.toList)).o J with
     |.tr=>
      (qJ C (S.fzs (dq S gs args.toList)) gs args.toList).bind λu=>
        bif Ty.subs u.1 ys then some ((S.fzs (dq S gs args.toList)).setR dst (uK gs (.dat .bool)),[.setO J (OP gs J (.tup u.2)),.call gs dst nL [.o J]]) else none
     |_=>none
    |_=>none
 |_,_,_=>none
def yn (C:Ctx)(S:St)(ops:Array Oper)(o:Oper):Option (St×List PI):=
 match KY C S ops o with
 |some r=>some r
 |none=>EG C S ops o
section
variable {C:Ctx} {S:St} {O:Env} {V:Im} {own:Nat->Option Nat} {hv:Nat->Value} {w0:World} {σ0:Base} {A:Nat->Prop} {a:Act} {w:World} {gs:List (Nat×Bool)} {Z:aS} {dst:Nat}
def axS (gs:List (Nat×Bool))(J:Nat)(x:PE)(O:Env):(OP gs J x).ev O=if holds gs O=true then .list ((O.o J).l++[x.ev O]) else O.o J:=by
 cases gs with
 |nil=>simp[OP,PE.ev,PE.evs,holds,D.l_list]
 |cons g gs=>
  simp only[OP,PE.ev,PE.evs,D.b_bool,D.l_list,Pe,Bool.not_not];cases holds (g::gs) O<;>rfl
def Inv.yielded (h:Inv C S O V own hv w0 σ0 A a w)(hB:σ0.B=0){J:Nat}{ys:List Ty}(hJ:C.yl=some (J,ys))(Lu:S.o J=.tr){w2:World}(hb:Below 0 w w2){t:D}{fx cx:Nat->Prop}(hf:FrOK V own w0.heap.size σ0 w t fx cx)
 (hs:∀k,k<w.heap.size->¬cx k->w2.heap[k]?=w.heap[k]?) {t':D} {oC kN:Nat->Prop} (hF:σ0.F t' oC kN w2)
 (h1:∀k,oC k->k<w.heap.size->fx k\/(∃o x,V.c k o=some x)\/(∃x,V.m k=some x/\x≠cC)) (h2:∀k,kN k->k<w.heap.size->cx k):Inv C S (O.setO J t') V own hv w0 σ0 A a w2:=by
 have cg:=σ0.sub _ _ _ _ hf.F;have cH:∀k o x,V.c k o=some x->w2.heap[k]?=w.heap[k]?:=λk o x e=>hs k (h.lt e) (hf.c k o x e);have Ce:∀k x,V.m k=some x->w2.heap[k]?=w.heap[k]?:=λk x e=>hs k (h.ltm e) (hf.m k x e);have SI:∀k j,own k=some j->w2.heap[k]?=w.heap[k]?:=λk j e=>hs k (h.owns k j e).2.1 λhc=>hf.own k j e (cg k hc)
 refine⟨h.defers,⟨λk o v e=>by rw[World.cell?_of_block (cH k o v e)];exact h.ok.c k o v e,λk x e=>(h.ok.m k x e).keep (Ce k x e),h.ok.fz cH⟩,h.le,h.old,h.newc,h.newm,h.below.trans (hb.mono (by omega)),h.bw,
  λk j e=>let⟨g1,g2,g3⟩:=h.owns k j e;⟨g1,lu g2 hb.size,g3⟩,λu=>aG.mono (S:=S) (O:=O) (O':=O.setO J t') (.refl V) (.refl S hv) (d:=O.r u) (λ_ _ _=>rfl) (λgs s e=>(h.opts u gs s e).2) (h.regs u),λj=>?_,h.opts,
  t',oC,kN,⟨hF,λk j e hk=>?_,λk o x e hc=>hf.c k o x e (h2 k hc (h.lt e)),λk x e hc=>hf.m k x e (h2 k hc (h.ltm e)),λk e RD hk=>?_⟩,λj hj=>?_⟩
 .by_cases Cc:j=J
  .subst Cc;rw[Lu];trivial
  .exact(h.objs j).mono (.refl V) (.refl S hv) rfl (by simp[Env.setO,bB _ _ Cc]) (λk e=>⟨e,SI k j e⟩)
 .obtain⟨_,g2,g3,g4⟩:=h.owns k j e;rcases h1 k hk g2 with e1|⟨o,x,e1⟩|⟨x,e1,_⟩
  .exact hf.own k j e e1
  .rw[g3 o] at e1;cases e1
  .rw[g4] at e1;cases e1
 .rcases h1 k hk (h.ltm e) with e1|⟨o,x,e1⟩|⟨x,e1,e2⟩
  .exact hf.d k e RD e1
  .have c1:=h.ok.c k o x e1;rcases h.ok.m k _ e with⟨m1,_⟩|⟨_,m2⟩|⟨m3,_⟩
   .exact m1 rfl
   .simp[World.cell?,m2] at c1
   .exact xd m3.symm
  .rw[e] at e1;cases e1;exact e2 rfl
 .obtain⟨_,_,_,_,ht⟩:=h.frame;obtain⟨⟨ys',e1⟩,_⟩:=ht j hj;rw[hJ] at e1;cases e1;exact⟨⟨_,hJ⟩,aN _ _ _⟩
def amf {rd:Option Nat}(h:Good C w0 σ0 S O A a w)(hC:CtxOK C σ0)(hY:uv C Z w0 σ0){ops:Array Oper}{o:Oper}(ht:∀d,o.dst=some d->¬A d/\d<a.tmps.size)
 (hj:∀j want t,o.guard=some (j,want)->(ops[j]?).bind (·.dst)=some t->A t) {r:St×List PI} (hr:KY C S ops o=some r) {O':Env} (ak:PI.runs Z r.2 O=some O')
 {K:Act->World->Prop} {Q:Exit->Act->World->Prop} (hK:∀a' w',Good C w0 σ0 r.1 O' (λu=>A u\/o.dst=some u) a' w'->SameBut (λt=>o.dst=some t) a a'->K a' w'):
 if Region.wanted o (yielded ops a.tmps) then o.wpIn (FR rd) 0 C.P a w K Q else K (a.put o.dst undef) w:=by
 unfold KY at hr;split at hr
 case h_2=>cases hr
 rename_i _ _ dst t args ts J ys hd eD mq;simp only[az] at hr;obtain⟨gs,eC,hr⟩:=hr;split at hr
 case h_2=>cases hr
 rename_i Gp;split at hr
 case h_2=>cases hr
 rename_i Lu;simp only[az] at hr;obtain⟨u,hu,hr⟩:=hr;cases cg:Ty.subs u.1 ys<;>simp only[cg,zyy,zyx] at hr
 .cases hr
 cases hr;have Ca:=acA h eC hj;rw[acB h eC];obtain⟨V,own,hv,i⟩:=h;obtain⟨σ1,dt,hle,i1⟩:=Inv.fzs (dq S gs args.toList) i;obtain⟨t1,t2⟩:=ht dst hd;have ky:(λu=>A u\/o.dst=some u)=(λu=>A u\/u=dst):=by funext u;rw[hd];simp[eq_comm]
 rw[ky] at hK;simp only[PI.runs,PI.run,pE,axS,az] at ak;cases hh:holds gs O with
 |false=>
  simp only[hh,xE,if_false] at ak ⊢;have e1:O.setO J (O.o J)=O:=by
   cases O with|mk r o=>simp only[Env.setO];congr 1;funext x;rw[fp];split<;>simp_all
  rw[e1,hh] at ak;obtain⟨ρ1,e2,e3⟩:=ak;cases e2;cases e3;cases gs with
  |nil=>simp[holds] at hh
  |cons g bM=>
   have F3:=i1.passed t1 t2 Ca hh (s:=.dat .bool) (λ_ _ e=>by cases e) (O.r dst);have e4:O.setR dst (O.r dst)=O:=by
        cases O with|mk r o=>simp only[Env.setR];congr 1;funext x;rw[fp];split<;>simp_all
   rw[e4] at F3;rw[hd];exact hK _ _ ⟨_,_,_,F3⟩ (by rw[hd];exact SameBut.put a (some dst) undef a.defers)
 |true=>
  simp only[hh,if_true] at ak ⊢;have ju:=DE i1 hC hh hu cg;obtain⟨tr,fx,cx,hf,uW⟩:=i1.frame;obtain⟨_,hρJ⟩:=uW J Lu;obtain⟨hB,aqQ,Tn⟩:=hY J ys mq;obtain⟨xs,rfl⟩:=aqQ _ _ _ _ hf.F;rw[hρJ] at ak;simp only[D.l_list,PE.ev] at ak;obtain⟨ρ1,e2,e3⟩:=ak;cases e3;have hh2:holds gs (O.setO J (.list (xs++[.tup (PE.evs O u.2)])))=true:=hh;rw[hh2] at e2;simp only[zyy,PE.evs,PE.ev,Env.setO,aN,aB] at e2;obtain⟨d,e4,e5⟩:=e2;have hy:=Tn xs (PE.evs O u.2) d e4 fx cx w σ1 (args.toList.map a.eval) hf.F i1.ok ju hf.c hf.m i1.newc i1.newm;have ct:a.eval (.tmp t)=C.yv:=by
   have:=(nD i hh t).1;rw[Gp] at this;have h9:a.tmps.getD t undef=C.yv:=this;simpa [Act.eval] using h9
  refine hy rd o a (.tmp t) args ts K Q eD ct rfl λv w2 rN=>?_;obtain⟨b,rfl,rfl,hb,hs,oC,kN,hF,h1,h2⟩:=rN;have i2:=i1.yielded hB mq Lu hb hf hs hF h1 h2;refine hK _ _ ?_ (SameBut.put a _ _ a.defers);rw[hd,<-e5];change Good C w0 σ0 _ ((O.setO J (.list (xs++[.tup (PE.evs O u.2)]))).setR dst (.v (.bool b))) _ _ _;have hh3:holds gs ((O.setO J (.list (xs++[.tup (PE.evs O u.2)]))).setR dst (.v (.bool b)))=true:=by
   rw[F0 (t:=dst) λg hm e=>t1 (by rw[<-e];exact Ca g hm)];exact hh2
  cases gs with
  |nil=>exact⟨_,_,_,i2.setReg t1 (s:=.dat .bool) (.bool b) t2 (λ_ _ e=>by cases e)⟩
  |cons g bM=>
   refine⟨_,_,_,i2.setReg t1 (s:=.opt (g::bM) (.dat .bool)) ⟨λ_=>.bool b,λe=>absurd (hh3.symm.trans e) (by decide)⟩ t2 (λgs s e=>?_)⟩;cases e;exact⟨Ca,λ_ _ e=>by cases e⟩
def abA {rd:Option Nat}(h:Good C w0 σ0 S O A a w)(hC:CtxOK C σ0)(aY:dN C)(hΦ:du C Z)(hY:uv C Z w0 σ0){ops:Array Oper}{o:Oper}(bo:tL o.op=true)(ht:∀d,o.dst=some d->¬A d/\d<a.tmps.size)
 (hj:∀j want t,o.guard=some (j,want)->(ops[j]?).bind (·.dst)=some t->A t) {r:St×List PI} (hr:yn C S ops o=some r) {O':Env} (ak:PI.runs Z r.2 O=some O')
 {K:Act->World->Prop} {Q:Exit->Act->World->Prop} (hK:∀a' w',Good C w0 σ0 r.1 O' (λu=>A u\/o.dst=some u) a' w'->SameBut (λt=>o.dst=some t) a a'->K a' w'):
 if Region.wanted o (yielded ops a.tmps) then o.wpIn (FR rd) 0 C.P a w K Q else K (a.put o.dst undef) w:=by
 unfold yn at hr;split at hr
 .rename_i q hq;cases hr;exact amf h hC hY ht hj hq ak hK
 .have:=ame (K:=λa' w'=>SameBut (λt=>o.dst=some t) a a'->K a' w') (Q:=Q) h hC aY hΦ ht hj hr ak (λa' w' g _ hs=>hK a' w' g hs);split
  .rename_i hw;rw[if_pos hw] at this;exact ahq bo (Oper.wp_same this)
  .rename_i hw;rw[if_neg hw] at this;exact this (SameBut.put a _ _ a.defers)
end
def vJ (C:Ctx)(ops:Array Oper):List Nat->St->Option (St×List PI)
 |[],S=>some (S,[])
 |i::l,S=>
  match ops[i]? with
  |some o=>(yn C S ops o).bind λr=>(vJ C ops l r.1).map λq=>(q.1,r.2++q.2)
  |none=>none
def Dn (n:Nat)(ops:Array Oper):Bool:=
 hZ (ops.toList.filterMap (·.dst))&&ops.toList.all λo=>tL o.op&&match o.dst with|some d=>Nat.blt d n|none=>true
section
variable {C:Ctx} {S:St} {O:Env} {V:Im} {own:Nat->Option Nat} {hv:Nat->Value} {w0:World} {σ0:Base} {A:Nat->Prop} {a:Act} {w:World} {gs:List (Nat×Bool)} {Z:aS} {dst:Nat}
def zU (ops:Array Oper)(done:List Nat):Nat->Prop:=λt=>∃i o,i∈done/\ops[i]?=some o/\o.dst=some t
def KX.dst_once {ops:Array Oper}(bo:(ops.toList.filterMap (·.dst)).Nodup){i j:Nat}{o o':Oper}{d:Nat}(hi:ops[i]?=some o)(hj:ops[j]?=some o')(hd:o.dst=some d)(gw:o'.dst=some d)(au:i≠j):False:=by
 have key:∀(l:List Oper),(l.filterMap (·.dst)).Nodup->∀(i j:Nat) (o o':Oper),l[i]?=some o->l[j]?=some o'->o.dst=some d->o'.dst=some d->i=j:=by
  intro l
  induction l with
  |nil=>intro _ i j o o' hi;simp at hi
  |cons x l ih=>
   intro bo i j o o' hi hj hd gw;have cV:∀(k:Nat) (y:Oper),l[k]?=some y->y.dst=some d->d∈l.filterMap (·.dst):=λk y hk hy=>Ar.2 ⟨y,kh hk,hy⟩;cases hx:x.dst with
   |none=>
    rw[List.filterMap_cons_none hx] at bo;cases i with
    |zero=>simp at hi;subst hi;rw[hx] at hd;cases hd
    |succ i=>
     cases j with
     |zero=>simp at hj;subst hj;rw[hx] at gw;cases gw
     |succ j=>simp at hi hj;rw[ih bo i j o o' hi hj hd gw]
   |some y=>
    rw[List.filterMap_cons_some hx,pB] at bo;cases i with
    |zero=>
     simp at hi;subst hi;rw[hx] at hd;cases hd;cases j with
     |zero=>rfl
     |succ j=>simp at hj;exact absurd (cV j o' hj gw) bo.1
    |succ i=>
     cases j with
     |zero=>
      simp at hj;subst hj;rw[hx] at gw;cases gw;simp at hi;exact absurd (cV i o hi hd) bo.1
     |succ j=>simp at hi hj;rw[ih bo.2 i j o o' hi hj hd gw]
 exact au (key ops.toList bo i j o o' (by simpa using hi) (by simpa using hj) hd gw)
def BF (ops:Array Oper):Nat->Prop:=λt=>∃o,o∈ops.toList/\o.dst=some t
def KX (hC:CtxOK C σ0)(aY:dN C)(hΦ:du C Z)(hY:uv C Z w0 σ0){ops:Array Oper}{n:Nat}(ar:Dn n ops=true){rd:Option Nat}{Q:Exit->Act->World->Prop}:
 ∀(l done:List Nat) {S:St} {O O':Env} {a:Act} {w:World} {r:St×List PI},(done++l).Nodup->(∀p i q o j want,l=p++i::q->ops[i]?=some o->o.guard=some (j,want)->j∈done++p)->
  a.tmps.size=n->Good C w0 σ0 S O (zU ops done) a w->vJ C ops l S=some r->PI.runs Z r.2 O=some O'->
  (∀a' w',SameBut (BF ops) a a'->Good C w0 σ0 r.1 O' (zU ops (done++l)) a' w'->Q .normal a' w')->wpOpsIn (FR rd) 0 C.P ops Q l a w:=by
 simp only[Dn,ao] at ar;have bo:=qn ar.1;intro l
 induction l with
 |nil=>
  intro done S O O' a w r _ _ aI h hr ak hQ;simp only[vJ,aZ] at hr;subst hr;rw[qF ak] at hQ;simp only[wpOpsIn];exact hQ a w (.refl _ _) (by simpa using h)
 |cons i l ih=>
  intro done S O O' a w r RX oH aI h hr ak hQ;simp only[vJ] at hr;split at hr
  case h_2=>cases hr
  rename_i o ho;simp only[az,aB] at hr;obtain⟨r1,ml,q,hq,rfl⟩:=hr;simp only[tX,az] at ak;obtain⟨ρ1,hρ1,hρ2⟩:=ak;have B7:∀d,o.dst=some d->¬zU ops done d/\d<a.tmps.size:=by
   intro d hd;refine⟨λ⟨i',o',df,jb,gw⟩=>?_,?_⟩
   ·
        have au:i'≠i:=by
         intro e;subst e;rw[I1] at RX;exact RX.2.2 i' df i' (fR ..) rfl
        exact KX.dst_once bo jb ho gw hd au
   .have:=cN.1 ar.2 o (by
     have:=qM ho;simpa using this)
    simp only[hd,ao] at this;rw[aI];simpa [pC] using this.2
  have hj:∀j want t,o.guard=some (j,want)->(ops[j]?).bind (·.dst)=some t->zU ops done t:=by
   intro j want t hg ht;have:=oH [] i l o j want rfl ho hg;simp only[um] at this;rw[az] at ht;obtain⟨oj,h1,h2⟩:=ht;exact⟨j,oj,this,h1,h2⟩
  have nf:tL o.op=true:=by
   have:=cN.1 ar.2 o (by simpa using qM ho);simp only[ao] at this;exact this.1
  have main:=abA (rd:=rd) (K:=wpOpsIn (FR rd) 0 C.P ops Q l) (Q:=Q) h hC aY hΦ hY nf B7 hj ml hρ1 (λa' w' lF iJ=>by
   have wu:=iJ.size;refine ih (done++[i]) (by simpa using RX) (λp i' q' o' j want e jb aqo=>?_) (wu.trans aI) ?_ hq hρ2 (λa2 w2 s2 g2=>hQ a2 w2 ((iJ.mono λt e=>⟨o,by simpa using qM ho,e⟩).trans s2) (by simpa using g2))
   .have:=oH (i::p) i' q' o' j want (by rw[e];rfl) jb aqo;simpa using this
   .have:(λu=>zU ops done u\/o.dst=some u)=zU ops (done++[i]):=by
     funext u;apply propext;constructor
     .rintro(⟨i',o',h1,h2,h3⟩|h1)
      .exact⟨i',o',by simp[h1],h2,h3⟩
      .exact⟨i,o,by simp,ho,h1⟩
     .rintro⟨i',o',h1,h2,h3⟩;rcases dC.1 h1 with h4|h4
      .exact .inl ⟨i',o',h4,h2,h3⟩
      .simp at h4;subst h4;rw[ho] at h2;cases h2;exact .inr h3
    rw[<-this];exact lF)
  simp only[wpOpsIn,ho];split
  .rename_i hw;rw[if_pos hw] at main;exact main
  .rename_i hw;rw[if_neg hw] at main;exact⟨λ_ _=>trivial,main⟩
end
def aaU (S:St):AgC->Bool
 |.dat _=>true
 |.obj j ver=>Nat.beq ver (S.ver j)
def AgC.zero:AgC->AgC
 |.dat t=>.dat t
 |.obj j _=>.obj j 0
def iM (S:St):Sh->Sh
 |.none=>.none
 |.dat t=>.dat t
 |.obj j ver=>bif Nat.beq ver (S.ver j) then .obj j 0 else .none
 |.ptr j ver off=>bif Nat.beq ver (S.ver j) then .ptr j 0 off else .none
 |.eptr j ver size off=>bif Nat.beq ver (S.ver j) then .eptr j 0 size off else .none
 |.opt _ _=>.none
 |.yv=>.yv
 |.fclo f caps=>bif caps.all (λc=>Nat.beq c.2 (S.ver c.1)) then .fclo f (caps.map λc=>(c.1,0)) else .none
 |.agg l=>bif l.all (aaU S) then .agg (l.map AgC.zero) else .none
def j0 (S:St):Ob->Ob
 |.box ag shs=>.box ag (shs.map (iM S))
 |ob=>ob
def St.norm (S:St):St:=⟨λt=>iM S (S.r t),λj=>j0 S (S.o j),λ_=>0⟩
def jZ:Sh->Sh->Sh
 |.dat a,.dat b=>bif Ty.sub a b then .dat b else bif Ty.sub b a then .dat a else .none
 |.obj j v,.obj k u=>bif Nat.beq j k&&Nat.beq v u then .obj j v else .none
 |.ptr j v o,.ptr k u p=>bif Nat.beq j k&&Nat.beq v u&&Nat.beq o p then .ptr j v o else .none
 |.eptr j v s o,.eptr k u t p=>bif Nat.beq j k&&Nat.beq v u&&Nat.beq s t&&Nat.beq o p then .eptr j v s o else .none
 |.yv,.yv=>.yv
 |.fclo f a,.fclo g b=>bif Nat.beq f g&&yg a b then .fclo f a else .none
 |_,_=>.none
def zm:List Sh->List Sh->Option (List Sh)
 |[],[]=>some []
 |a::aa,b::bs=>(zm aa bs).map (jZ a b::·)
 |_,_=>none
def oW:Ob->Ob->Ob
 |.fz a,.fz b=>bif Ty.beq a b then .fz a else .dead
 |.fbox a,.fbox b=>bif Ty.beq a b then .fbox a else .dead
 |.box ag aa,.box bg bs=>bif ag==bg then(match zm aa bs with|some cs=>.box ag cs|none=>.dead) else .dead
 |.row T e,.row U f=>bif Nat.beq T U&&Ty.beq e f then .row T e else .dead
 |.mp k e,.mp l f=>bif Ty.beq k l&&Ty.beq e f then .mp k e else .dead
 |.it k e,.it l f=>bif Ty.beq k l&&Ty.beq e f then .it k e else .dead
 |.tr,.tr=>.tr
 |_,_=>.dead
section
variable {C:Ctx} {S:St} {O:Env} {V:Im} {own:Nat->Option Nat} {hv:Nat->Value} {w0:World} {σ0:Base} {A:Nat->Prop} {a:Act} {w:World} {gs:List (Nat×Bool)} {Z:aS} {dst:Nat}
def MI {s:Sh}{v:Value}{d:D}(h:aG C S O V hv s v d):aG C S.norm O V hv (iM S s) v d/\∀gs s',iM S s≠.opt gs s':=by
 cases s with
 |none=>exact⟨trivial,λ_ _ e=>by cases e⟩
 |dat t=>exact⟨h,λ_ _ e=>by cases e⟩
 |obj j ver=>
  simp only[iM];cases hb:Nat.beq ver (S.ver j)
  .exact⟨trivial,λ_ _ e=>by cases e⟩
  .exact⟨⟨aX _,λ_=>h.2 (ay hb)⟩,λ_ _ e=>by cases e⟩
 |ptr j ver off=>
  simp only[iM];cases hb:Nat.beq ver (S.ver j)
  .exact⟨trivial,λ_ _ e=>by cases e⟩
  .exact⟨⟨aX _,λ_=>h.2 (ay hb)⟩,λ_ _ e=>by cases e⟩
 |eptr j ver size off=>
  simp only[iM];cases hb:Nat.beq ver (S.ver j)
  .exact⟨trivial,λ_ _ e=>by cases e⟩
  .exact⟨⟨aX _,λ_=>h.2 (ay hb)⟩,λ_ _ e=>by cases e⟩
 |opt gs s=>exact⟨trivial,λ_ _ e=>by cases e⟩
 |yv=>exact⟨h,λ_ _ e=>by cases e⟩
 |agg l=>
  simp only[iM];cases hb:l.all (aaU S)
  .exact⟨trivial,λ_ _ e=>by cases e⟩
  .refine⟨?_,λ_ _ e=>by cases e⟩;obtain⟨vs,ds,h1,h2,h3,h4,h5⟩:=h;refine⟨vs,ds,h1,h2,by simpa using h3,by simpa using h4,λi c hi=>?_⟩;simp only[bX,aB] at hi;obtain⟨c0,hc,rfl⟩:=hi;have:=cN.1 hb _ (kh hc);have h6:=h5 i c0 hc;cases c0 with
   |dat t=>exact h6
   |obj j ver=>exact⟨aX _,λ_=>h6.2 (ay this)⟩
 |fclo f caps=>
  simp only[iM];cases hb:caps.all (λc=>Nat.beq c.2 (S.ver c.1))
  .exact⟨trivial,λ_ _ e=>by cases e⟩
  .refine⟨?_,λ_ _ e=>by cases e⟩;obtain⟨vs,h1,h2,h3⟩:=h;refine⟨vs,h1,by simpa using h2,λi j ver hi=>?_⟩;simp only[bX,aB] at hi;obtain⟨⟨j',v'⟩,hc,e⟩:=hi;cases e;have:=cN.1 hb _ (kh hc);exact⟨aX _,λ_=>(h3 i _ _ hc).2 (ay this)⟩
def Inv.weaken (h:Inv C S O V own hv w0 σ0 A a w){S':St}{O':Env}(hr:∀t,aG C S' O' V hv (S'.r t) (a.tmps.getD t undef) (O'.r t))(ho:∀j,bY C S' O' V own hv w w0.heap.size j (S'.o j))
 (hn:∀t gs s,S'.r t≠.opt gs s) (ht:∀j,S'.o j=.tr->S.o j=.tr/\O'.o j=O.o j):Inv C S' O' V own hv w0 σ0 (λ_=>False) a w:=
 ⟨h.defers,h.ok,h.le,h.old,h.newc,h.newm,h.below,h.bw,h.owns,hr,ho,λt gs s e=>absurd e (hn t gs s),by
   obtain⟨t,fx,cx,h1,h5⟩:=h.frame;exact⟨t,fx,cx,h1,λj hj=>by rw[(ht j hj).2];exact h5 j (ht j hj).1⟩⟩
def afC {ob:Ob}(h:j0 S ob=.tr):ob=.tr:=by
 cases ob<;>simp only[j0] at h<;>first|rfl|cases h
def auo {x y:Ob}(h:oW x y=.tr):x=.tr/\y=.tr:=by
 cases x<;>cases y<;>simp only[oW] at h<;>first
  |exact⟨rfl,rfl⟩
  |(cases h;done)
  |skip
 .rename_i a b;cases hb:Ty.beq a b<;>rw[hb] at h<;>cases h
 .rename_i a b;cases hb:Ty.beq a b<;>rw[hb] at h<;>cases h
 .rename_i ag aa bg bs;cases hb:ag==bg<;>rw[hb] at h
  .cases h
  .simp only[zyy] at h;split at h<;>cases h
 .rename_i T e U f;cases hb:(Nat.beq T U&&Ty.beq e f)<;>rw[hb] at h<;>cases h
 .rename_i T e U f;cases hb:(Ty.beq T U&&Ty.beq e f)<;>rw[hb] at h<;>cases h
 .rename_i T e U f;cases hb:(Ty.beq T U&&Ty.beq e f)<;>rw[hb] at h<;>cases h
def Inv.norm (h:Inv C S O V own hv w0 σ0 A a w):Inv C S.norm O V own hv w0 σ0 (λ_=>False) a w:=by
 refine h.weaken (λt=>(MI (h.regs t)).1) (λj=>?_) (λt=>(MI (h.regs t)).2) (λj hj=>⟨afC hj,rfl⟩);have bj:=h.objs j;show bY C S.norm O V own hv w w0.heap.size j (j0 S (S.o j));cases cR:S.o j with
 |box ag shs=>
  rw[cR] at bj;obtain⟨k,cs,T,ds,h1,h2,h3,h4,h5,h6,h7⟩:=bj;refine⟨k,cs,T,ds,h1,h2,h3,by simpa using h4,h5,by simpa using h6,λi s hi=>?_⟩;simp only[bX,aB] at hi;obtain⟨s0,hs0,rfl⟩:=hi;have:=MI (h7 i s0 hs0).2;exact⟨this.2,this.1⟩
 |_=>rw[cR] at bj;exact bj
def Jq {b:Bool}{s:Sh}{v:Value}{d:D}(hs:∀gs s',s≠.opt gs s')(h:b=true->aG C S O V hv s v d):aG C S O V hv (bif b then s else .none) v d/\∀gs s',(bif b then s else Sh.none)≠.opt gs s':=by
 cases b with
 |true=>exact⟨h rfl,hs⟩
 |false=>exact⟨trivial,λ_ _ e=>by cases e⟩
def afr {s u:Sh}{v:Value}{d:D}(h:aG C S O V hv s v d):aG C S O V hv (jZ s u) v d/\∀gs s',jZ s u≠.opt gs s':=by
 cases s<;>cases u<;>simp only[jZ]<;>first
  |exact⟨trivial,λ_ _ e=>by cases e⟩
  |exact Jq (λ_ _ e=>by cases e) (λ_=>h)
  |exact⟨h,λ_ _ e=>by cases e⟩
  |skip
 rename_i a b;cases h1:Ty.sub a b
 .exact Jq (λ_ _ e=>by cases e) (λ_=>h)
 .exact⟨Rep.sub h h1,λ_ _ e=>by cases e⟩
def afs {s u:Sh}{v:Value}{d:D}(h:aG C S O V hv u v d):aG C S O V hv (jZ s u) v d/\∀gs s',jZ s u≠.opt gs s':=by
 cases s<;>cases u<;>simp only[jZ]<;>first
  |exact⟨trivial,λ_ _ e=>by cases e⟩
  |exact⟨h,λ_ _ e=>by cases e⟩
  |skip
 .rename_i a b;cases h1:Ty.sub a b
  .exact Jq (λ_ _ e=>by cases e) (λh2=>Rep.sub h h2)
  .exact⟨h,λ_ _ e=>by cases e⟩
 all_goals
  refine Jq (λ_ _ e=>by cases e) (λhb=>?_);simp only[ao] at hb
  first
   |(obtain⟨⟨⟨h1,h2⟩,h3⟩,h4⟩:=hb;rw[ay h1,ay h2,ay h3,ay h4];exact h)
   |(obtain⟨⟨h1,h2⟩,h3⟩:=hb;rw[ay h1,ay h2,ay h3];exact h)
   |(obtain⟨h1,h2⟩:=hb;rw[ay h1,ay h2];exact h)
   |(obtain⟨h1,h2⟩:=hb;rw[ay h1,QD _ _ h2];exact h)
def TR:∀(aa bs cs:List Sh),zm aa bs=some cs->cs.length=aa.length/\cs.length=bs.length/\∀(i:Nat) (c:Sh),cs[i]?=some c->∃x y,aa[i]?=some x/\bs[i]?=some y/\c=jZ x y
 |[],[],cs,h=>by simp[zm] at h;subst h;simp
 |[],b::bs,cs,h=>by simp[zm] at h
 |a::aa,[],cs,h=>by simp[zm] at h
 |a::aa,b::bs,cs,h=>by
  simp only[zm,aB] at h;obtain⟨ds,hd,rfl⟩:=h;obtain⟨h1,h2,h3⟩:=TR aa bs ds hd;refine⟨by simp[h1],by simp[h2],λi c hi=>?_⟩;cases i with
  |zero=>simp at hi;exact⟨a,b,rfl,rfl,hi.symm⟩
  |succ i=>simp at hi;simpa using h3 i c hi
def aum {j B:Nat}{x y:Ob}(h:bY C S O V own hv w B j x):bY C S O V own hv w B j (oW x y):=by
 cases x<;>cases y<;>simp only[oW]<;>first
  |trivial
  |(rename_i a b;cases Ty.beq a b;·trivial
    .exact h)
  |skip
 .rename_i ag aa bg bs;cases ag==bg
  .trivial
  .simp only[zyy];split
   .rename_i cs cH;obtain⟨l1,l2,rI⟩:=TR aa bs cs cH;obtain⟨k,cells,T,ds,h1,h2,h3,h4,h5,h6,h7⟩:=h;refine⟨k,cells,T,ds,h1,h2,h3,by omega,h5,by omega,λi s hi=>?_⟩;obtain⟨x,y,hx,hy,rfl⟩:=rI i s hi;have:=afr (u:=y) (h7 i x hx).2;exact⟨this.2,this.1⟩
   .trivial
 .rename_i T e U f;cases Nat.beq T U&&Ty.beq e f
  .trivial
  .exact h
 .rename_i T e U f;cases Ty.beq T U&&Ty.beq e f
  .trivial
  .exact h
 .rename_i T e U f;cases Ty.beq T U&&Ty.beq e f
  .trivial
  .exact h
def aun {j B:Nat}{x y:Ob}(h:bY C S O V own hv w B j y):bY C S O V own hv w B j (oW x y):=by
 cases x<;>cases y<;>simp only[oW]<;>first
  |trivial
  |skip
 .rename_i a b;cases hb:Ty.beq a b
  .trivial
  .rw[Ty.beq_eq _ _ hb];exact h
 .rename_i a b;cases hb:Ty.beq a b
  .trivial
  .rw[Ty.beq_eq _ _ hb];exact h
 .rename_i ag aa bg bs;cases ag==bg
  .trivial
  .simp only[zyy];split
   .rename_i cs cH;obtain⟨l1,l2,rI⟩:=TR aa bs cs cH;obtain⟨k,cells,T,ds,h1,h2,h3,h4,h5,h6,h7⟩:=h;refine⟨k,cells,T,ds,h1,h2,h3,by omega,h5,by omega,λi s hi=>?_⟩;obtain⟨x,y,hx,hy,rfl⟩:=rI i s hi;have:=afs (s:=x) (h7 i y hy).2;exact⟨this.2,this.1⟩
   .trivial
 .rename_i T e U f;cases hb:(Nat.beq T U&&Ty.beq e f)
  .trivial
  .simp only[ao] at hb;rw[ay hb.1,Ty.beq_eq _ _ hb.2];exact h
 .rename_i T e U f;cases hb:(Ty.beq T U&&Ty.beq e f)
  .trivial
  .simp only[ao] at hb;rw[Ty.beq_eq _ _ hb.1,Ty.beq_eq _ _ hb.2];exact h
 .rename_i T e U f;cases hb:(Ty.beq T U&&Ty.beq e f)
  .trivial
  .simp only[ao] at hb;rw[Ty.beq_eq _ _ hb.1,Ty.beq_eq _ _ hb.2];exact h
end
section
variable {C:Ctx} {S T:St} {O O':Env} {V:Im} {own:Nat->Option Nat} {hv:Nat->Value} {w0:World} {σ0:Base} {A:Nat->Prop} {a:Act} {w:World} {gs:List (Nat×Bool)} {Z:aS} {dst:Nat}
def Inv.env (h:Inv C S O V own hv w0 σ0 (λ_=>False) a w)(hn:∀t gs s,S.r t≠.opt gs s)(hr:∀t,isNone (S.r t)=false->O'.r t=O.r t)(ho:∀j,qh (S.o j)=false->O'.o j=O.o j):
 Inv C S O' V own hv w0 σ0 (λ_=>False) a w:=by
 refine h.weaken (λt=>?_) (λj=>?_) hn (λj hj=>⟨hj,ho j (by rw[hj];rfl)⟩)
 .cases hs:isNone (S.r t) with
  |true=>cases hc:S.r t<;>rw[hc] at hs<;>simp[isNone] at hs;trivial
  |false=>
   rw[hr t hs];exact aG.mono' (.refl V) (.refl S hv) (hn t) (h.regs t)
 .cases hs:qh (S.o j) with
  |true=>cases hc:S.o j<;>rw[hc] at hs<;>simp[qh] at hs;trivial
  |false=>exact(h.objs j).mono (.refl V) (.refl S hv) rfl (ho j hs) (λk hk=>⟨hk,rfl⟩)
end
structure Snap where
 rs:List Sh
 os:List Ob
 deriving Inhabited
def dy:List Nat->List Ob->Nat->Ob
 |i::is,o::os,j=>bif Nat.beq i j then o else dy is os j
 |_,_,_=>.dead
def cJ:Sh->Sh
 |.opt _ _=>.none
 |s=>s
def Snap.st (ids:List Nat)(s:Snap):St:=⟨λt=>cJ (s.rs.getD t .none),λj=>dy ids s.os j,λ_=>0⟩
def St.snap (n:Nat)(ids:List Nat)(S:St):Snap:=⟨(List.range n).map λt=>iM S (S.r t),ids.map λj=>j0 S (S.o j)⟩
def Snap.beq (a b:Snap):Bool:=zW a.rs b.rs&&CL a.os b.os
def Snap.beq_eq (a b:Snap)(h:a.beq b=true):a=b:=by
 cases a;cases b;simp only[Snap.beq,ao] at h;rw[WZ _ _ h.1,afM _ _ h.2]
def Snap.meet (a b:Snap):Snap:=⟨List.zipWith jZ a.rs b.rs,List.zipWith oW a.os b.os⟩
def aAq (s:Sh):∀gs s',cJ s≠.opt gs s':=by
 intro gs s' e;cases s<;>simp[cJ] at e
def Snap.noOpt (ids:List Nat)(s:Snap):∀t gs s',(s.st ids).r t≠.opt gs s':=λt=>aAq _
section
variable {C:Ctx} {S:St} {O:Env} {V:Im} {own:Nat->Option Nat} {hv:Nat->Value} {w0:World} {σ0:Base} {A:Nat->Prop} {a:Act} {w:World} {n:Nat} {ids:List Nat}
def zh (f:Nat->Ob)(P:Ob->Prop)(hd:P .dead)(j:Nat)(hf:P (f j)):∀ids:List Nat,P (dy ids (ids.map f) j)
 |[]=>hd
 |i::is=>by
  simp only[iS,dy];cases hb:Nat.beq i j
  .exact zh f P hd j hf is
  .rw[ay hb];exact hf
def O8 {s:Sh}{v:Value}{d:D}(h:aG C S O V hv s v d):aG C S O V hv (cJ s) v d:=by
 cases s<;>first|exact h|trivial
def Inv.snap (h:Inv C S O V own hv w0 σ0 A a w)(n:Nat)(ids:List Nat):Inv C ((S.snap n ids).st ids) O V own hv w0 σ0 (λ_=>False) a w:=by
 have h1:=h.norm;have hc:Compat S.norm hv ((S.snap n ids).st ids) hv:=⟨λ_=>aX _,λ_ _=>rfl⟩
 refine h1.weaken (λt=>?_) (λj=>?_) (Snap.noOpt _ _) (λj hj=>⟨zh (λj=>j0 S (S.o j)) (λob=>ob=.tr->j0 S (S.o j)=.tr) (λe=>by cases e) j id ids hj,rfl⟩)
 .refine aG.mono' (O:=O) (.refl V) hc (Snap.noOpt _ _ t) ?_;show aG C S.norm O V hv (cJ (((List.range n).map λt=>iM S (S.r t)).getD t .none)) _ _;refine O8 ?_;rw[aE,bX];by_cases ht:t<n
  .rw[pz ht];exact h1.regs t
  .rw[kg (by simpa using ht)];trivial
 .have ho:=(h1.objs j).mono (.refl V) hc (w:=w) (w':=w) rfl rfl (λk hk=>⟨hk,rfl⟩);exact zh (λj=>j0 S (S.o j)) (λob=>bY C _ O V own hv w w0.heap.size j ob) trivial j ho ids
def Pb {f:Sh->Sh->Sh}:∀(x y:List Sh) (t:Nat),(List.zipWith f x y).getD t .none=.none\/∃s u,x.getD t .none=s/\y.getD t .none=u/\(List.zipWith f x y).getD t .none=f s u
 |[],_,t=>.inl (by simp)
 |_::_,[],t=>.inl (by simp)
 |a::aa,b::bs,0=>.inr ⟨a,b,rfl,rfl,rfl⟩
 |a::aa,b::bs,t+1=>by simpa using Pb (f:=f) aa bs t
def Mx {f:Ob->Ob->Ob}:∀(ids:List Nat) (x y:List Ob) (j:Nat),dy ids (List.zipWith f x y) j=.dead\/dy ids (List.zipWith f x y) j=f (dy ids x j) (dy ids y j)
 |[],_,_,_=>.inl rfl
 |_::_,[],_,_=>.inl rfl
 |_::_,_::_,[],_=>.inl rfl
 |i::is,a::aa,b::bs,j=>by
  simp only[List.zipWith_cons_cons,dy];cases Nat.beq i j
  .exact Mx is aa bs j
  .exact .inr rfl
def aAo {s u:Sh}{v:Value}{d:D}(h:aG C S O V hv (cJ s) v d):aG C S O V hv (cJ (jZ s u)) v d:=by
 cases hs:s with
 |opt gs s'=>cases u<;>simp[jZ,cJ,aG]
 |_=>rw[hs] at h;exact O8 (afr h).1
def aAp {s u:Sh}{v:Value}{d:D}(h:aG C S O V hv (cJ u) v d):aG C S O V hv (cJ (jZ s u)) v d:=by
 cases hs:u with
 |opt gs s'=>cases s<;>simp[jZ,cJ,aG]
 |_=>rw[hs] at h;exact O8 (afs h).1
def aft {x y:Snap}{j:Nat}(h:((x.meet y).st ids).o j=.tr):(x.st ids).o j=.tr/\(y.st ids).o j=.tr:=by
 change dy ids (List.zipWith oW x.os y.os) j=.tr at h;rcases Mx (f:=oW) ids x.os y.os j with h0|h0
 .rw[h0] at h;cases h
 .rw[h0] at h;exact auo h
def Snap.meet_ok1 {x y:Snap}(h:Inv C (x.st ids) O V own hv w0 σ0 A a w):Inv C ((x.meet y).st ids) O V own hv w0 σ0 (λ_=>False) a w:=by
 have hc:Compat (x.st ids) hv ((x.meet y).st ids) hv:=⟨λ_=>aX _,λ_ _=>rfl⟩
 refine h.weaken (λt=>?_) (λj=>?_) (Snap.noOpt _ _) (λj hj=>⟨(aft hj).1,rfl⟩)
 .refine aG.mono' (O:=O) (.refl V) hc (Snap.noOpt _ _ t) ?_;show aG C (x.st ids) O V hv (cJ ((List.zipWith jZ x.rs y.rs).getD t .none)) _ _;rcases Pb (f:=jZ) x.rs y.rs t with h0|⟨s,u,h1,h2,h3⟩
  .rw[h0];trivial
  .rw[h3];exact aAo (by rw[<-h1];exact h.regs t)
 .refine bY.mono (S:=x.st ids) (O:=O) (own:=own) (hv:=hv) (.refl V) hc (w:=w) rfl rfl (λk hk=>⟨hk,rfl⟩) ?_;show bY C _ O V own hv w w0.heap.size j (dy ids (List.zipWith oW x.os y.os) j);rcases Mx (f:=oW) ids x.os y.os j with h0|h0
  .rw[h0];trivial
  .rw[h0];exact aum (h.objs j)
def Snap.meet_ok2 {x y:Snap}(h:Inv C (y.st ids) O V own hv w0 σ0 A a w):Inv C ((x.meet y).st ids) O V own hv w0 σ0 (λ_=>False) a w:=by
 have hc:Compat (y.st ids) hv ((x.meet y).st ids) hv:=⟨λ_=>aX _,λ_ _=>rfl⟩
 refine h.weaken (λt=>?_) (λj=>?_) (Snap.noOpt _ _) (λj hj=>⟨(aft hj).2,rfl⟩)
 .refine aG.mono' (O:=O) (.refl V) hc (Snap.noOpt _ _ t) ?_;show aG C (y.st ids) O V hv (cJ ((List.zipWith jZ x.rs y.rs).getD t .none)) _ _;rcases Pb (f:=jZ) x.rs y.rs t with h0|⟨s,u,h1,h2,h3⟩
  .rw[h0];trivial
  .rw[h3];exact aAp (by rw[<-h2];exact h.regs t)
 .refine bY.mono (S:=y.st ids) (O:=O) (own:=own) (hv:=hv) (.refl V) hc (w:=w) rfl rfl (λk hk=>⟨hk,rfl⟩) ?_;show bY C _ O V own hv w w0.heap.size j (dy ids (List.zipWith oW x.os y.os) j);rcases Mx (f:=oW) ids x.os y.os j with h0|h0
  .rw[h0];trivial
  .rw[h0];exact aun (h.objs j)
end
def wL (C:Ctx)(S:St)(T:TypeId)(x:Operand):List Nat:=
 match gL S [] x,rP C.P T,C.P.info? T with
 |.ptr j _ off,some true,some inf=>(match S.o j with|.box _ shs=>Eu ((shs.drop off).take inf.size)|_=>[])
 |_,_,_=>[]
def Dp (C:Ctx)(S:St):ResultVar->Option (St×Ty×PE)
 |.tmp t=>(use C (S.fzs (dq S [] [.tmp t])) [] (.tmp t)).map λx=>(S.fzs (dq S [] [.tmp t]),x.1,x.2)
 |.cell b T=>
  match CO C (S.fzs (wL C S T (.tmp b))) [] 0 T (.tmp b) with
  |some (.dat ty,[.setR 0 e])=>some (S.fzs (wL C S T (.tmp b)),ty,e)
  |some (.obj j ver,[.setR _ _])=>
   bif Nat.beq ver (((S.fzs (wL C S T (.tmp b))).fz j).ver j) then
    match((S.fzs (wL C S T (.tmp b))).fz j).o j with
    |.fz ty=>some ((S.fzs (wL C S T (.tmp b))).fz j,ty,.o j)
    |_=>none
   else none
  |_=>none
def vk (C:Ctx):List ResultVar->St->Option (St×List Ty×List PE)
 |[],S=>some (S,[],[])
 |x::xs,S=>(Dp C S x).bind λr=>(vk C xs r.1).map λq=>(q.1,r.2.1::q.2.1,r.2.2::q.2.2)
def aiX (C:Ctx)(fn:Func)(S:St)(res:Ty):Option PE:=
 (vk C fn.results.toList S).bind λr=>
    match r.2.1,r.2.2 with
    |[ty],[e]=>bif Ty.sub ty res then some e else none
    |fO,es=>bif Ty.sub (.tup fO) res then some (.tup es) else none
def aiZ (C:Ctx)(fn:Func)(S:St)(T:TypeId)(e:Ty):Option PE:=
 match fn.results.toList with
 |[.tmp t]=>
  match nC S [] t with
  |.obj j ver=>bif Nat.beq ver (S.ver j) then(match S.o j with|.row U f=>bif Nat.beq U T&&Ty.beq f e then some (.o j) else none|_=>none) else none
  |_=>none
 |[.cell b U]=>
  match CO C S [] 0 U (.tmp b) with
  |some (.obj j ver,[.setR _ _])=>bif Nat.beq ver (S.ver j) then(match S.o j with|.row U f=>bif Nat.beq U T&&Ty.beq f e then some (.o j) else none|_=>none) else none
  |_=>none
 |_=>none
def Mo (S:St):Nat->List Sh->Bool
 |_,[]=>true
 |t,s::l=>vc s&&((qg s||isNone s||Sh.beq (S.r t) s)&&Mo S (t+1) l)
def Tz (S:St)(shs:List Sh)(obs:List (Nat×Ob)):Bool:=Mo S 0 shs&&obs.all λx=>Ob.beq (S.o x.1) x.2
def WL (fO:List Ty)(es:List PE)(res:Ty):Option PE:=
 match fO,es with
 |[ty],[e]=>bif Ty.sub ty res then some e else none
 |fO,es=>bif Ty.sub (.tup fO) res then some (.tup es) else none
def aiY (C:Ctx)(fn:Func)(S:St)(res:Ty)(shs:List Sh)(obs:List (Nat×Ob)):Option PE:=
 (vk C fn.results.toList S).bind λr=>bif Tz r.1 shs obs then(WL r.2.1 r.2.2 res).map λe=>.tup (e::obs.map λx=>.o x.1) else none
def mF (S:St):List AgC->List RC->Bool
 |[],[]=>true
 |.dat t::a,.dat u::l=>Ty.sub t u&&t.one&&mF S a l
 |.obj j ver::a,.row T e::l=>Nat.beq ver (S.ver j)&&(match S.o j with|.row U f=>Nat.beq U T&&Ty.beq f e|_=>false)&&mF S a l
 |_,_=>false
def pG:List AgC->List Nat
 |[]=>[]
 |.dat _::l=>pG l
 |.obj j _::l=>j::pG l
def mS (x:PE):List AgC->Nat->List PE
 |[],_=>[]
 |.dat _::l,i=>.cell x i::mS x l (i+1)
 |.obj j _::l,i=>.o j::mS x l (i+1)
def ai1 (C:Ctx)(fn:Func)(S:St)(l:List RC):Option PE:=
 match fn.results.toList with
 |[.tmp t]=>
  match nC S [] t with
  |.agg a=>bif mF S a l&&hZ (pG a) then some (.mk (mS (.r t) a 0)) else none
  |_=>none
 |[.cell b U]=>
  match CO C S [] 0 U (.tmp b) with
  |some (.agg a,[.setR t0 e])=>bif (mF S a l&&hZ (pG a))&&Nat.beq t0 0 then some (.mk (mS e a 0)) else none
  |_=>none
 |_=>none
def tN:List AgC->Nat->Option Nat
 |[],_=>none
 |.dat _::l,j=>(tN l j).map (·+1)
 |.obj i _::l,j=>bif Nat.beq i j then some 0 else(tN l j).map (·+1)
def zT (C:Ctx)(fn:Func)(s:Sig)(S:St):Option PE:=
 match s.mode with
 |.ob shs obs=>aiY C fn S s.res shs obs
 |.dat=>aiX C fn S s.res
 |.rows l=>ai1 C fn S l
 |.it J=>match fn.results.toList,S.o J with|[],.tr=>some (.o J)|_,_=>none
 |.row T e=>aiZ C fn S T e
def Oo (P:Program)(tmps:Array Value)(w:World):ResultVar->Value->Prop
 |.tmp t,v=>v=tmps.getD t undef
 |.cell a T,v=>∃k,tmps.getD a undef=.pointer (some k)/\(loadVar T k).run P w=.ok v w
def Oq (P:Program)(tmps:Array Value)(w:World):List ResultVar->List Value->Prop
 |[],[]=>True
 |x::xs,v::vs=>Oo P tmps w x v/\Oq P tmps w xs vs
 |_,_=>False
def wQ:List Value->Value
 |[v]=>v
 |vs=>.tuple vs.toArray
section
variable {C:Ctx} {S:St} {O:Env} {V:Im} {own:Nat->Option Nat} {hv:Nat->Value} {w0:World} {σ0:Base} {A:Nat->Prop} {a:Act} {w:World} {gs:List (Nat×Bool)} {Z:aS} {dst:Nat}
def afc {P:Program}{tmps:Array Value}{w:World}(f:ResultVar->Sem Value)(hf1:∀t,f (.tmp t)=pure (tmps.getD t undef))(hf2:∀b T,f (.cell b T)=(do loadVar T (<-asAddr (tmps.getD b undef)))):
 ∀(l:List ResultVar) (vs:List Value),Oq P tmps w l vs->(l.mapM f).run P w=.ok vs w
 |[],[],_=>by simp[Sem.run_pure]
 |x::l,v::vs,h=>by
  obtain⟨hx,Gn⟩:=h;have ih:=afc f hf1 hf2 l vs Gn;rw[aaA];have h1:(f x).run P w=.ok v w:=by
   cases x with
   |tmp t=>rw[hf1];simp only[Oo] at hx;subst hx;simp[Sem.run_pure]
   |cell b T=>
    obtain⟨k,h1,h2⟩:=hx;rw[hf2,h1];simp[asAddr,h2]
  simp[Sem.run_bind,h1,ih,Sem.run_pure,Result.andThen_ok]
def zS {P:Program}{fn:Func}{tmps:Array Value}{w:World}{vs:List Value}(h:Oq P tmps w fn.results.toList vs):
 (results fn tmps).run P w=.ok (wQ vs) w:=by
 unfold results;rw[Array.mapM_eq_mapM_toList];simp only[Sem.run_bind];simp only[bind_map_left,map_eq_pure_bind,Sem.run_bind,bind_assoc,pure_bind];rw[afc (tmps:=tmps) _ (λt=>rfl) (λb T=>rfl) _ _ h];simp only[Result.andThen_ok,Sem.run_pure];rcases vs with _|⟨v,_|⟨u,vs⟩⟩<;>simp[Sem.run_pure,wQ]
def Mu {o:Oper}{T:TypeId}{b:Nat}{v:Value}(ho:o.op=.load T (.tmp b))(hx:(execOp a.eval o).run C.P w=.ok (.value v) w):Oo C.P a.tmps w (.cell b T) v:=by
 have he:a.eval (.tmp b)=a.tmps.getD b undef:=by simp[Act.eval]
 simp only[execOp,ho,Instr.loadAt,he] at hx;cases hp:a.tmps.getD b undef with
 |pointer p=>
  cases p with
  |none=>rw[hp] at hx;simp[Instr.sureAddr] at hx
  |some k=>
   rw[hp] at hx;refine⟨k,hp,?_⟩;simp[Instr.sureAddr] at hx;cases hr:(loadVar T k).run C.P w with
   |ok u w'=>rw[hr] at hx;simp at hx;rw[hx.1,hx.2]
   |halt u w'=>rw[hr] at hx;simp at hx
 |_=>rw[hp] at hx;simp[Instr.sureAddr] at hx
def awP (h:Inv C S O V own hv w0 σ0 A a w)(hC:CtxOK C σ0){x:ResultVar}{r:St×Ty×PE}(hr:Dp C S x=some r):
 ∃V' own' v,V.le V'/\Inv C r.1 O V' own' hv w0 σ0 A a w/\Oo C.P a.tmps w x v/\Rep C.cap V' r.2.1 v (r.2.2.ev O):=by
 cases x with
 |tmp t=>
  simp only[Dp,aB] at hr;obtain⟨y,hy,rfl⟩:=hr;obtain⟨σ1,dt,hle,h1⟩:=Inv.fzs (dq S [] [.tmp t]) h;refine⟨σ1,dt,a.tmps.getD t undef,hle,h1,rfl,?_⟩;have:=cv (gs:=[]) h1 hC rfl hy;simpa [Act.eval] using this
 |cell b T=>
  simp only[Dp] at hr;obtain⟨σ1,dt,hle,h1⟩:=Inv.fzs (wL C S T (.tmp b)) h;generalize hS1:S.fzs (wL C S T (.tmp b))=S1 at hr h1
  let o:Oper:={(default:Oper) with op:=.load T (.tmp b)}
  split at hr
  .rename_i ty e hl;cases hr;have hq:=GN (Z:=λ_ _=>none) (dst:=0) (gs:=[]) h1 hC rfl hl (o:=o) rfl;obtain⟨v,d,e1,e2,e3,e4⟩:=hq _ rfl;have hd:d=e.ev O:=by
        have:=congrArg (λx:Env=>x.r 0) e1;simpa [Env.setR,aN] using this.symm
   subst hd;exact⟨σ1,dt,v,hle,h1,Mu rfl e2,e3⟩
  .rename_i j ver t0 e0 hl;have hq:=GN (Z:=λ_ _=>none) (dst:=0) (gs:=[]) h1 hC rfl hl (o:=o) rfl;obtain⟨v,d,e1,e2,e3,e4⟩:=hq _ rfl;cases hb:Nat.beq ver ((S1.fz j).ver j)<;>simp only[hb,zyy,zyx] at hr
   .cases hr
   split at hr
   case h_2=>cases hr
   rename_i ty br;cases hr;obtain⟨σ2,jB,iI,h2⟩:=h1.fz j;refine⟨σ2,jB,v,hle.trans iI,h2,Mu rfl e2,?_⟩;have ho:=h2.objs j;rw[br] at ho;have dF:ver=S1.ver j:=by rw[ay hb,(Ld S1 j).1]
   rw[e3.2 dF];exact ho.2
  .cases hr
def WK (hC:CtxOK C σ0):∀(l:List ResultVar) {S:St} {V:Im} {own:Nat->Option Nat} {r:St×List Ty×List PE},Inv C S O V own hv w0 σ0 A a w->vk C l S=some r->
 ∃V' own' vs,V.le V'/\Inv C r.1 O V' own' hv w0 σ0 A a w/\Oq C.P a.tmps w l vs/\vs.length=r.2.1.length/\r.2.2.length=r.2.1.length/\
  ∀(i:Nat) (t:Ty),r.2.1[i]?=some t->Rep C.cap V' t (vs.getD i undef) ((PE.evs O r.2.2).getD i .none)
 |[],S,V,own,r,h,hr=>by
  simp only[vk,aZ] at hr;subst hr;exact⟨V,own,[],.refl V,h,trivial,rfl,rfl,λi t e=>by simp at e⟩
 |x::l,S,V,own,r,h,hr=>by
  simp only[vk,az,aB] at hr;obtain⟨r1,h1,q,h2,rfl⟩:=hr;obtain⟨σ1,dt,v,hle,i1,hx,bI⟩:=awP h hC h1;obtain⟨σ2,jB,vs,iI,i2,Gn,na,uU,oP⟩:=WK hC l i1 h2;refine⟨σ2,jB,v::vs,hle.trans iI,i2,⟨hx,Gn⟩,by simp[na],by simp[uU],λi t e=>?_⟩;cases i with
  |zero=>simp at e;subst e;simpa [PE.evs] using bI.mono iI
  |succ i=>simp at e;simpa [PE.evs] using oP i t e
def Jb (C:Ctx)(s:Sig)(V:Im)(own:Nat->Option Nat)(w0 w:World)(tmps:Array Value)(d:D)(v:Value):Prop:=
 ∀shs obs,s.mode=.ob shs obs->∃hv dr os,d=.tup (dr::os)/\os.length=obs.length/\(∀k j,own k=some j->w0.heap.size<=k/\k<w.heap.size/\(∀o,V.c k o=none)/\V.m k=none)/\
  (∀(t:Nat) (sh:Sh),shs[t]?=some sh->qg sh=false->∀d,aG C (fi shs obs) (lQ obs [] os) V hv sh (tmps.getD t undef) d)/\(∀j,bY C (fi shs obs) (lQ obs [] os) V own hv w w0.heap.size j (ei obs j))/\Rep C.cap V s.res v dr
def Jb.no {C:Ctx}{s:Sig}{V:Im}{own:Nat->Option Nat}{w0 w:World}{tmps:Array Value}{d:D}{v:Value}(h:rQ s.mode=false):Jb C s V own w0 w tmps d v:=λshs obs e=>by rw[e] at h;cases h
def PB (C:Ctx)(w0:World)(σ0:Base)(fn:Func)(s:Sig)(d:D)(a:Act)(w:World):Prop:=
 ∃v V,(∃own t fx cx,FrOK V own w0.heap.size σ0 w t fx cx/\(∀J,s.mode=.it J->d=t)/\Jb C s V own w0 w a.tmps d v)/\(results fn a.tmps).run C.P w=.ok v w/\σ0.le V/\V.ok w/\Below σ0.B w0 w/\
  (∀k o x,V.c k o=some x->σ0.c k o=some x\/w0.heap.size<=k)/\(∀k x,V.m k=some x->σ0.m k=some x\/w0.heap.size<=k)/\lx C s V w0 w v d
def Inv.fr (h:Inv C S O V own hv w0 σ0 A a w){s:Sig}{d:D}{v:Value}(hm:∀J,s.mode≠.it J)(ho:rQ s.mode=false):∃own t fx cx,FrOK V own w0.heap.size σ0 w t fx cx/\(∀J,s.mode=.it J->d=t)/\Jb C s V own w0 w a.tmps d v:=by
 obtain⟨t,fx,cx,h1,_⟩:=h.frame;exact⟨own,t,fx,cx,h1,λJ e=>absurd e (hm J),.no ho⟩
def awO {cap:Nat->Option CSig}{fO:List Ty}{es:List PE}{res:Ty}{pe:PE}{vs:List Value}(hr:WL fO es res=some pe)(na:vs.length=fO.length)(uU:es.length=fO.length)
 (oP:∀(i:Nat) (t:Ty),fO[i]?=some t->Rep cap V t (vs.getD i undef) ((PE.evs O es).getD i .none)):Rep cap V res (wQ vs) (pe.ev O):=by
 have many:fO.length≠1->(bif Ty.sub (.tup fO) res then some (PE.tup es) else none)=some pe->Rep cap V res (wQ vs) (pe.ev O):=by
  intro au hr;cases hb:Ty.sub (.tup fO) res<;>simp only[hb,zyy,zyx] at hr
  .cases hr
  cases hr;have ct:wQ vs=Value.tuple vs.toArray:=by
   match vs,na with
   |[],_=>rfl
   |[v],hl=>exact absurd hl.symm au
   |_::_::_,_=>rfl
  rw[ct];exact Rep.sub (Rep.tup _ _ _ (by rw[na]) (by rw[PE.evs_eq,ef,uU]) oP) hb
 match fO,es,vs,na,uU,oP,many,hr with
 |[ty],[e],[v],_,_,oP,_,hr=>
  simp only[WL] at hr;cases hb:Ty.sub ty res<;>simp only[hb,zyy,zyx] at hr
  .cases hr
  cases hr;have:=oP 0 ty rfl;exact Rep.sub (by simpa [PE.evs,wQ] using this) hb
 |[],[],_,_,_,_,many,hr=>exact many (by simp) hr
 |_::_::_,_::_::_,_,_,_,_,many,hr=>exact many (by simp) hr
def aeE:∀{l:List Sh} {k:Nat},Mo S k l=true->∀(t:Nat) (s:Sh),l[t]?=some s->qg s=false->vc s=true/\(s=.none\/S.r (k+t)=s)
 |[],k,_,t,s,h,_=>by simp at h
 |x::l,k,hk,t,s,h,hd=>by
  simp only[Mo,ao,kL] at hk;cases t with
  |zero=>
   simp at h;subst h;refine⟨hk.1,?_⟩;rcases hk.2.1 with(h1|h1)|h1
   .rw[hd] at h1;cases h1
   .left;cases x<;>first|rfl|cases h1
   .exact .inr (Sh.beq_eq _ _ h1)
  |succ t=>
   simp at h;have:=aeE hk.2.2 t s h hd
   rwa [qU,Av 1 t] at this
def ae1:∀{obs:List (Nat×Ob)},(obs.all λx=>Ob.beq (S.o x.1) x.2)=true->∀j,ei obs j=.dead\/(S.o j=ei obs j/\oV obs (obs.map λx=>O.o x.1) j=O.o j)
 |[],_,j=>.inl rfl
 |x::obs,h,j=>by
  simp only[sJ,ao] at h;simp only[ei,iS,oV];cases hb:Nat.beq x.1 j<;>simp only[zyy,zyx]
  .exact ae1 h.2 j
  .rw[<-ay hb];exact .inr ⟨Ob.beq_eq _ _ h.1,rfl⟩
def aAn {ty:Ty}{fO:List Ty}{es:List PE}(h:∀ty e,fO=[ty]->es=[e]->False)(hl:es.length=fO.length):fO.length≠1:=by
 intro h1
 match fO,es with
 |[ty],[e]=>exact h ty e rfl rfl
 |[],_=>simp at h1
 |_::_::_,_=>simp at h1
 |[_],[]=>simp at hl
 |[_],_::_::_=>simp at hl
def ai0 (h:Inv C S O V own hv w0 σ0 A a w){T:TypeId}{e:Ty}{j ver:Nat}{v:Value}{d:D}(hc:aG C S O V hv (.obj j ver) v d){pe:PE}
 (hr:(bif Nat.beq ver (S.ver j) then(match S.o j with|.row U f=>bif Nat.beq U T&&Ty.beq f e then some (PE.o j) else none|_=>none) else none)=some pe):
 ∃cells xs,pe.ev O=.list xs/\w.ownsRow w0.heap.size T e.size v xs.length cells/\dh C.cap V e cells xs/\∀k,v.ownBlock=some k->(∀o,V.c k o=none)/\V.m k=none:=by
 cases hb:Nat.beq ver (S.ver j)<;>simp only[hb,zyy,zyx] at hr
 .cases hr
 split at hr
 case h_2=>cases hr
 rename_i U f ho;cases de:Nat.beq U T&&Ty.beq f e<;>simp only[de,zyy,zyx] at hr
 .cases hr
 cases hr;simp only[ao] at de;have hU:=ay de.1;have hf:=Ty.beq_eq _ _ de.2;subst hU hf;have hj:=h.objs j;rw[ho] at hj;obtain⟨cells,xs,h1,h2,h3,h4⟩:=hj;have hv':=hc.2 (ay hb);subst hv';exact⟨cells,xs,h1,h2,h3,λk hk=>(h.owns k j (h4 k hk)).2.2⟩
def aiW:∀(l:List ResultVar) {S:St} {r:St×List Ty×List PE},vk C l S=some r->r.1.ver=S.ver
 |[],S,r,h=>by simp only[vk,aZ] at h;subst h;rfl
 |x::l,S,r,h=>by
  simp only[vk,az,aB] at h;obtain⟨r1,h1,q,h2,rfl⟩:=h;rw[aiW l h2];cases x with
  |tmp t=>
   simp only[Dp,aB] at h1;obtain⟨y,_,rfl⟩:=h1;exact(rC _ _).1
  |cell b T=>
   simp only[Dp] at h1;split at h1
   .cases h1;exact(rC _ _).1
   .rename_i j ver t0 e0 _;cases hb:Nat.beq ver (((S.fzs (wL C S T (.tmp b))).fz j).ver j)<;>simp only[hb,zyy,zyx] at h1
    .cases h1
    .split at h1
     .cases h1;rw[(Ld _ _).1];exact(rC _ _).1
     .cases h1
   .cases h1
def Vc:∀{a:List AgC} {i j ver:Nat},(pG a).Nodup->a[i]?=some (.obj j ver)->tN a j=some i
 |[],i,j,ver,_,h=>by simp at h
 |.dat t::a,i,j,ver,hn,h=>by
  cases i with
  |zero=>simp at h
  |succ i=>simp at h;simp only[tN];rw[Vc (a:=a) hn h];rfl
 |.obj k u::a,i,j,ver,hn,h=>by
  simp only[pG,pB] at hn;cases i with
  |zero=>simp at h;obtain⟨rfl,_⟩:=h;simp only[tN,ki];rfl
  |succ i=>
   simp at h;have hm:∀{a:List AgC} {i:Nat},a[i]?=some (.obj j ver)->j∈pG a:=by
        intro a
        induction a with
        |nil=>intro i h;simp at h
        |cons x a ih=>
         intro i h;cases i with
         |zero=>simp at h;subst h;simp[pG]
         |succ i=>simp at h;have:=ih h;cases x<;>simp[pG,this]
   have au:k≠j:=λe=>hn.1 (e▸hm h);simp only[tN];rw[fy au,zyx,Vc hn.2 h];rfl
def VI (h:Inv C S O V own hv w0 σ0 A a w){x0:PE}{vs:List Value}{ds:List D}(hd:x0.ev O=.agg ds)(ow:Nat->Option Nat):∀(a:List AgC) (l:List RC) (i:Nat),mF S a l=true->(∀(n:Nat) (c:AgC),a[n]?=some c->nM C S V hv c (vs.getD (i+n) undef) (ds.getD (i+n) .none))->
 (∀(n j ver k:Nat),a[n]?=some (.obj j ver)->own k=some j->ow k=some (i+n))->
 a.length=l.length/\(PE.evc O (mS x0 a i)).length=l.length/\∀(n:Nat) (c:RC),l[n]?=some c->aaM C V w0.heap.size w ow (i+n) c (vs.getD (i+n) undef) ((PE.evc O (mS x0 a i)).getD n .none)
 |[],[],i,_,_,_=>⟨rfl,rfl,λn c hc=>by simp at hc⟩
 |[],_::_,i,hf,_,_=>by simp[mF] at hf
 |x::a,l,i,hf,Lx,rM=>by
  have e:∀n,i+1+n=i+(n+1):=λn=>by omega
  have Fo:∀(n:Nat) (c:AgC),a[n]?=some c->nM C S V hv c (vs.getD (i+1+n) undef) (ds.getD (i+1+n) .none):=λn c hc=>by rw[e];exact Lx (n+1) c (by simpa using hc)
  have adP:∀(n j ver k:Nat),a[n]?=some (.obj j ver)->own k=some j->ow k=some (i+1+n):=λn j ver k hc hk=>by rw[e];exact rM (n+1) j ver k (by simpa using hc) hk
  have h0:=Lx 0 x rfl;rw[iU] at h0;cases x with
  |dat ty=>
   cases l with
   |nil=>simp[mF] at hf
   |cons y l=>
    cases y with
    |row T e=>simp[mF] at hf
    |dat u=>
     simp only[mF,ao] at hf;obtain⟨g1,g2,g3⟩:=VI h hd ow a l (i+1) hf.2 Fo adP;have e1:PE.evc O (mS x0 (.dat ty::a) i)=ds.getD i .none::PE.evc O (mS x0 a (i+1)):=by
       simp only[mS,PE.evc,PE.ev,hd,D.c];have:=h0.2.dcells h0.1;simp only[D.cells] at this ⊢;rw[this];rfl
     rw[e1];refine⟨by simp[g1],by simp[g2],λn c hc=>?_⟩;cases n with
     |zero=>simp at hc;subst hc;exact⟨by rw[<-(Ty.sub_one _ _ hf.1.1).1];exact h0.1,h0.2.sub hf.1.1⟩
     |succ n=>simp at hc;have:=g3 n c hc;rw[e] at this;simpa using this
  |obj j ver=>
   cases l with
   |nil=>simp[mF] at hf
   |cons y l=>
    cases y with
    |dat u=>simp[mF] at hf
    |row T ty=>
     simp only[mF,ao] at hf;obtain⟨⟨f1,f2⟩,f3⟩:=hf;obtain⟨g1,g2,g3⟩:=VI h hd ow a l (i+1) f3 Fo adP;have bj:=h.objs j;split at f2
     case h_2=>cases f2
     rename_i U f eo;rw[eo] at bj;simp only[ao] at f2;have q1:=ay f2.1;have q2:=Ty.beq_eq _ _ f2.2;subst q1 q2;obtain⟨cells,xs,k1,k2,k3,k4⟩:=bj;have eF:=h0.2 (ay f1);have e1:PE.evc O (mS x0 (.obj j ver::a) i)=.list xs::PE.evc O (mS x0 a (i+1)):=by
         simp only[mS,PE.evc,PE.ev,k1,D.cells];rfl
     rw[e1];refine⟨by simp[g1],by simp[g2],λn c hc=>?_⟩;cases n with
     |zero=>
      simp at hc;subst hc;rw[iU,eF];exact⟨cells,xs,rfl,k2,k3,λk hk=>by have:=rM 0 j ver k rfl (k4 k hk);rwa [iU] at this⟩
     |succ n=>simp at hc;have:=g3 n c hc;rw[e] at this;simpa using this
def awQ (h:Inv C S O V own hv w0 σ0 A a w)(hC:CtxOK C σ0)(dF:∀j,S.ver j=0){fn:Func}{s:Sig}{pe:PE}(hr:zT C fn s S=some pe):PB C w0 σ0 fn s (pe.ev O) a w:=by
 unfold zT at hr;split at hr
 .rename_i shs obs hm;simp only[aiY,az] at hr;obtain⟨r,aK,hr⟩:=hr;obtain⟨σ1,dt,vs,hle,h1,yY,na,uU,oP⟩:=WK hC _ h aK;cases hb:Tz r.1 shs obs<;>simp only[hb,zyy,zyx] at hr
  .cases hr
  simp only[aB] at hr;obtain⟨e,he,rfl⟩:=hr;simp only[Tz,ao] at hb;have bI:=awO he na uU oP;obtain⟨t,fx,cx,hf,_⟩:=h1.frame;have th:Compat r.1 hv (fi shs obs) hv:=⟨λj=>by rw[aiW _ aK,dF];exact jK _,λ_ _=>rfl⟩
  have SI:(PE.evs O (e::obs.map λx=>.o x.1))=e.ev O::obs.map (λx=>O.o x.1):=by simp[PE.evs_eq,IW,PE.ev]
  refine⟨_,σ1,⟨dt,t,fx,cx,hf,(λJ e=>by rw[hm] at e;cases e),λaHM aHc e'=>?_⟩,zS yY,h1.le,h1.ok,h1.below,h1.newc,h1.newm,by unfold lx;rw[hm];trivial⟩;rw[hm] at e';cases e';refine⟨hv,e.ev O,obs.map λx=>O.o x.1,by simp only[PE.ev];rw[SI],by simp,h1.owns,λt sh hs hd d=>?_,λj=>?_,bI⟩
  .obtain⟨fJ,e1⟩:=aeE hb.1 t sh hs hd;rcases e1 with e1|e1
   .subst e1;trivial
   .rw[fw] at e1;have:=h1.regs t;rw[e1] at this;have fH:∀gs s',sh≠.opt gs s':=λgs s' e=>by subst e;cases fJ
    have:=aG.mono' (S':=fi shs obs) (O':=lQ obs [] (obs.map λx=>O.o x.1)) (.refl σ1) th fH this;cases sh with
    |dat t=>cases hd
    |opt gs s=>cases fJ
    |eptr j v o q=>cases fJ
    |agg l=>cases fJ
    |_=>exact this
  .rcases ae1 (O:=O) hb.2 j with e1|⟨e1,e2⟩
   .rw[e1];trivial
   .rw[<-e1];exact(h1.objs j).mono (.refl σ1) th rfl e2 (λk hk=>⟨hk,rfl⟩)
 .rename_i hm;simp only[aiX,az] at hr;obtain⟨r,aK,hr⟩:=hr;obtain⟨σ1,dt,vs,hle,h1,yY,na,uU,oP⟩:=WK hC _ h aK;refine⟨_,σ1,h1.fr (λJ e=>by rw[hm] at e;cases e) (by rw[hm];rfl),zS yY,h.le.trans hle,h1.ok,h1.below,h1.newc,h1.newm,?_⟩;unfold lx;rw[hm];simp only;split at hr
  .rename_i ty e e1 e2;rw[e1] at na oP;rw[e2] at oP;cases hb:Ty.sub ty s.res<;>simp only[hb,zyy,zyx] at hr
   .cases hr
   cases hr;obtain⟨v,rfl⟩:∃v,vs=[v]:=by
        match vs,na with
        |[v],_=>exact⟨v,rfl⟩
   have:=oP 0 ty rfl;exact Rep.sub (by simpa [PE.evs,wQ] using this) hb
  .rename_i au;cases hb:Ty.sub (.tup r.2.1) s.res<;>simp only[hb,zyy,zyx] at hr
   .cases hr
   cases hr;have Sr:=aAn (ty:=.bool) au uU;have ct:wQ vs=Value.tuple vs.toArray:=by
        match vs,na with
        |[],_=>rfl
        |[v],hl=>rw[<-hl] at Sr;exact absurd rfl Sr
        |_::_::_,_=>rfl
   rw[ct];refine Rep.sub (Rep.tup _ _ _ (by rw[na]) (by rw[PE.evs_eq,ef,uU]) oP) hb
 .rename_i l hm;have key:∃(v:Value) (x0:PE) (vs:List Value) (ds:List D) (ag:List AgC),(results fn a.tmps).run C.P w=.ok v w/\pe=.mk (mS x0 ag 0)/\x0.ev O=.agg ds/\v=.agg vs.toArray/\mF S ag l=true/\hZ (pG ag)=true/\
        vs.length=ag.length/\ds.length=ag.length/\∀(i:Nat) (c:AgC),ag[i]?=some c->nM C S V hv c (vs.getD i undef) (ds.getD i .none):=by
   unfold ai1 at hr;split at hr
   .rename_i t fX;split at hr
    case h_2=>cases hr
    rename_i ag jV;cases hb:(mF S ag l&&hZ (pG ag))<;>simp only[hb,zyy,zyx] at hr
    .cases hr
    cases hr;simp only[ao] at hb;have gy:=(nD (gs:=[]) h rfl t).1;rw[jV] at gy;obtain⟨vs,ds,e1,e2,e3,e4,e5⟩:=gy;exact⟨_,.r t,vs,ds,ag,zS (vs:=[a.tmps.getD t undef]) (by rw[fX];exact⟨rfl,trivial⟩),rfl,e2,e1,hb.1,hb.2,e3,e4,e5⟩
   .rename_i b U fX;split at hr
    case h_2=>cases hr
    rename_i ag t0 x0 hl;cases hb:((mF S ag l&&hZ (pG ag))&&Nat.beq t0 0)<;>simp only[hb,zyy,zyx] at hr
    .cases hr
    cases hr;simp only[ao] at hb;obtain⟨hb,S4⟩:=hb;obtain rfl:=ay S4;have hq:=GN (Z:=λ_ _=>none) (dst:=0) (gs:=[]) h hC rfl hl (o:={(default:Oper) with op:=.load U (.tmp b)}) rfl;obtain⟨v,d,q1,q2,q3,_⟩:=hq _ rfl;obtain⟨vs,ds,e1,e2,e3,e4,e5⟩:=q3;have hd:x0.ev O=d:=by
     have:=congrArg (λe:Env=>e.r 0) q1;simpa [Env.setR,bW] using this
    exact⟨_,x0,vs,ds,ag,zS (vs:=[v]) (by rw[fX];exact⟨Mu rfl q2,trivial⟩),rfl,by rw[hd,e2],e1,hb.1,hb.2,e3,e4,e5⟩
   .cases hr
  obtain⟨v,x0,vs,ds,ag,ak,rfl,e2,e1,b1,b2,e3,e4,e5⟩:=key
  obtain⟨g1,g2,g3⟩:=VI h (x0:=x0) (vs:=vs) (ds:=ds) e2 (λk=>(own k).bind (tN ag)) ag l 0 b1 (λn c hc=>by rw[fw];exact e5 n c hc) (λn j ver k hc hk=>by
   show(own k).bind (tN ag)=some (0+n);rw[hk,pE,Vc (qn b2) hc,fw])
  simp only[fw] at g3;refine⟨_,V,h.fr (λJ e=>by rw[hm] at e;cases e) (by rw[hm];rfl),ak,h.le,h.ok,h.below,h.newc,h.newm,?_⟩;unfold lx;rw[hm];refine⟨vs,PE.evc O (mS x0 ag 0),λk=>(own k).bind (tN ag),e1,by simp only[PE.ev],by omega,g2,g3,λk i hk=>?_⟩;cases ho:own k with
  |none=>
   have hk:(own k).bind (tN ag)=some i:=hk;rw[ho] at hk;cases hk
  |some j=>exact h.owns k j ho
 .rename_i J hm;split at hr
  case h_2=>cases hr
  rename_i fX hJ;cases hr;obtain⟨t,fx,cx,h1,h2⟩:=h.frame;refine⟨_,V,⟨own,t,fx,cx,h1,λJ' e=>?_,.no (by rw[hm];rfl)⟩,zS (vs:=[]) (by rw[fX];trivial),h.le,h.ok,h.below,h.newc,h.newm,by unfold lx;rw[hm];trivial⟩;exact(h2 J hJ).2
 .rename_i T e hm;have key:∃v,(results fn a.tmps).run C.P w=.ok v w/\∃cells xs,pe.ev O=.list xs/\w.ownsRow w0.heap.size T e.size v xs.length cells/\dh C.cap V e cells xs/\∀k,v.ownBlock=some k->(∀o,V.c k o=none)/\V.m k=none:=by
   unfold aiZ at hr;split at hr
   .rename_i t ht;split at hr
    case h_2=>cases hr
    rename_i j ver hs;have hc:=(nD (gs:=[]) h rfl t).1;rw[hs] at hc;exact⟨_,zS (vs:=[a.tmps.getD t undef]) (by rw[ht];exact⟨rfl,trivial⟩),ai0 h hc hr⟩
   .rename_i b U hb;split at hr
    case h_2=>cases hr
    rename_i j ver t0 e0 hl;have hq:=GN (Z:=λ_ _=>none) (dst:=0) (gs:=[]) h hC rfl hl (o:={(default:Oper) with op:=.load U (.tmp b)}) rfl;obtain⟨v,d,e1,e2,e3,e4⟩:=hq _ rfl;exact⟨_,zS (vs:=[v]) (by rw[hb];exact⟨Mu rfl e2,trivial⟩),ai0 h e3 hr⟩
   .cases hr
  obtain⟨v,h1,h2⟩:=key;refine⟨v,V,h.fr (λJ e=>by rw[hm] at e;cases e) (by rw[hm];rfl),h1,h.le,h.ok,h.below,h.newc,h.newm,?_⟩;unfold lx;rw[hm];exact h2
def lq.drop {V:Im}{B D:Nat}:∀{ds:List Deferred},({target:=.collected D,args:=#[]}:Deferred)∉ds->lq V B ds->lq (V.drop D) B ds
 |[],_,_=>trivial
 |x::ds,hn,⟨⟨D',h1,h2,h3⟩,h⟩=>by
  simp only[cB,not_or] at hn;refine⟨⟨D',h1,?_,h3⟩,lq.drop hn.2 h⟩;have:D'≠D:=λe=>hn.1 (by rw[h1,e]);simp[Im.drop,this,h2]
def Inv.shut (h:Inv C S O V own hv w0 σ0 A a w)(kz:σ0.fin){x:Deferred}{ds:List Deferred}(hd:a.defers=x::ds):
 ∃D,x.target=.collected D/\w.heap[D]?=some (.deferred (some []))/\Inv C S O (V.drop D) own hv w0 σ0 A {a with defers:=ds} (w.putObj D (.deferred none)):=by
 have pY:=h.defers;rw[hd] at pY;obtain⟨⟨D,rfl,hm,hB,Sw⟩,jS⟩:=pY;have hD:w.heap[D]?=some (.deferred (some [])):=by
  rcases h.ok.m D _ hm with⟨h1,_⟩|⟨_,h2⟩|⟨h3,_⟩
  .exact absurd rfl h1
  .exact h2
  .exact absurd h3.symm xd
 have iJ:∀k,k≠D->(w.putObj D (.deferred none)).heap[k]?=w.heap[k]?:=λk hk=>World.putObj_heap_other hk;have bp:∀k j,own k=some j->k≠D:=λk j hk e=>by subst e;rw[(h.owns k j hk).2.2.2] at hm;cases hm
 have hR:Im.leR C.cap V (V.drop D):=⟨λr=>r.drop hm,λ_ _ _ e=>e⟩
 have B6:∀k x,(V.drop D).m k=some x->k≠D/\V.m k=some x:=by
  intro k x hx;simp only[Im.drop] at hx;split at hx
  .cases hx
  .rename_i au;exact⟨au,hx⟩
 refine⟨D,rfl,hD,jS.drop Sw,⟨λk o v hc=>?_,λk es hc=>?_,h.ok.fz λk o v hc=>iJ k λe=>by subst e;have h1:=h.ok.c k o v hc;simp[World.cell?,hD] at h1⟩,⟨h.le.c,λk es hc=>?_⟩,h.old,h.newc,λk es hc=>h.newm k es (B6 k es hc).2,h.below.trans ⟨rfl,rfl,rfl,by simp,λk hk=>iJ k (by have:=h.bw;omega)⟩,h.bw,λk j hk=>?_,λt=>?_,λj=>?_,h.opts,?_⟩
 .have h1:=h.ok.c k o v hc;have au:k≠D:=λe=>by subst e;simp[World.cell?,hD] at h1
  rw[World.cell?_of_block (iJ k au)];exact h1
 .exact(h.ok.m k es (B6 k es hc).2).keep (iJ k (B6 k es hc).1)
 .have au:k≠D:=λe=>by
   subst e;have:=h.le.m _ _ hc;rw[hm] at this;cases this;have:=h.old kz _ hc;omega
  simp[Im.drop,au,h.le.m k es hc]
 .obtain⟨g1,g2,g3,g4⟩:=h.owns k j hk;exact⟨g1,by simpa using g2,g3,by simp only[Im.drop];split<;>first|rfl|exact g4⟩
 .exact aG.monoR hR (.refl S hv) (λ_ _ _=>rfl) (λgs s e=>(h.opts t gs s e).2) (h.regs t)
 .exact(h.objs j).monoR hR (.refl S hv) rfl rfl (λk hk=>⟨hk,iJ k (bp k j hk)⟩)
 .obtain⟨t,fx,cx,hf,ht⟩:=h.frame;exact⟨t,fx,cx,⟨σ0.keep _ _ _ _ _ hf.F ⟨rfl,rfl,rfl,by simp,λk hk=>by omega⟩ (λk hk=>iJ k λe=>by subst e;exact hf.d k hm hB hk),hf.own,hf.c,λk x hx=>hf.m k x (B6 k x hx).2,λk hx=>hf.d k (B6 k _ hx).2⟩,ht⟩
def sM (C:Ctx)(w0:World)(σ0:Base)(fn:Func)(s:Sig)(d:D)(tmps:Array Value):List Deferred->World->Prop
 |[],w=>PB C w0 σ0 fn s d {tmps:=tmps,defers:=[]} w
 |x::ds,w=>∃D,x.target=.collected D/\w.heap[D]?=some (.deferred (some []))/\sM C w0 σ0 fn s d tmps ds (w.putObj D (.deferred none))
def Inv.retD (hC:CtxOK C σ0)(dF:∀j,S.ver j=0)(kz:σ0.fin){fn:Func}{s:Sig}{pe:PE}(hr:zT C fn s S=some pe):∀(ds:List Deferred) {V:Im} {a:Act} {w:World},Inv C S O V own hv w0 σ0 A a w->a.defers=ds->sM C w0 σ0 fn s (pe.ev O) a.tmps ds w
 |[],V,a,w,h,hd=>by
  have e:a={tmps:=a.tmps,defers:=[]}:=by cases a;simp only at hd;subst hd;rfl
  rw[e] at h;exact awQ h hC dF hr
 |x::ds,V,a,w,h,hd=>by
  obtain⟨D,h1,h2,h3⟩:=h.shut kz hd;exact⟨D,h1,h2,Inv.retD hC dF kz hr ds (a:={a with defers:=ds}) h3 rfl⟩
end
def mL (C:Ctx)(f:Nat)(cts ys:List Ty)(ds xs:List D):Prop:=
 ∀(V:Im) (w:World) (yv:Value) (vs:List Value) (F:D->(Nat->Prop)->(Nat->Prop)->World->Prop) (fx cx:Nat->Prop) (m:Nat),V.ok w->CtxOK C V->qL C V cts vs ds->m<=xs.length->
  (∀t fx cx w,F t fx cx w->∀k,fx k->k<w.heap.size)->(∀t fx cx w,F t fx cx w->∀k,cx k->fx k)->
  (∀t fx cx w w',F t fx cx w->Below 0 w w'->(∀k,fx k->w'.heap[k]?=w.heap[k]?)->F t fx cx w')->
  F (.list []) fx cx w->(∀k o x,V.c k o=some x->¬cx k)->(∀k x,V.m k=some x->¬cx k)->
  (∀(i:Nat) (fx cx:Nat->Prop) (w1:World) (σ1:Im) (args:List Value) (ds':List D),i<=m->xs[i]?=some (.tup ds')->F (.list (xs.take i)) fx cx w1->σ1.ok w1->qL C σ1 ys args ds'->
    (∀k o x,σ1.c k o=some x->¬cx k)->(∀k x,σ1.m k=some x->¬cx k)->
    (∀k o x,σ1.c k o=some x->V.c k o=some x\/w.heap.size<=k)->(∀k x,σ1.m k=some x->V.m k=some x\/w.heap.size<=k)->
    YOK C.P yv args w1 λu w2=>u=.bool (decide (i<m))/\Below 0 w1 w2/\(∀k,k<w1.heap.size->¬cx k->w2.heap[k]?=w1.heap[k]?)/\
     ∃oC kN,F (.list (xs.take (i+1))) oC kN w2/\(∀k,oC k->k<w1.heap.size->fx k\/(∃o x,σ1.c k o=some x)\/(∃x,σ1.m k=some x/\x≠cC))/\(∀k,kN k->k<w1.heap.size->cx k))->
  Calls C.P f (#[yv]++vs.toArray) w λe w'=>(∃v,e=.returned v)/\∃fx cx,F (.list (xs.take (m+1))) fx cx w'
def gP (C:Ctx)(Z:aS):Prop:=∀f cs ys,C.cap f=some cs->oS cs.args cs.res=some ys->(∃fn,C.P.funcs[f]?=some fn/\fn.body.isSome=true/\(fn.name== "runtime.NumGoroutine")=false)/\
 ∀ds d,Z f ds=some d->∃xs,d=.list xs/\(∀x,x∈xs->∃ds',x=.tup ds'/\ds'.length=ys.length)/\mL C f cs.caps ys ds xs
section
variable {C:Ctx} {S:St} {O:Env} {V:Im} {own:Nat->Option Nat} {hv:Nat->Value} {w0:World} {σ0:Base} {A:Nat->Prop} {a:Act} {w:World}
def Inv.mono_regs (h:Inv C S O V own hv w0 σ0 A a w){τ:Im}(hle:V.le τ)(t:Nat):aG C S O τ hv (S.r t) (a.tmps.getD t undef) (O.r t):=
 aG.mono hle (.refl S hv) (λ_ _ _=>rfl) (λgs s e=>(h.opts t gs s e).2) (h.regs t)
def Inv.joinIm (h:Inv C S O V own hv w0 σ0 A a w){τ:Im}(hτ:τ.ok w)(hd:∀k,τ.m k≠some cC)(hoc:∀k o v,τ.c k o=some v->own k=none)(hom:∀k v,τ.m k=some v->own k=none)
 (dp:∀k o v,τ.c k o=some v->V.c k o=some v\/w0.heap.size<=k) (cQ:∀k v,τ.m k=some v->V.m k=some v\/w0.heap.size<=k)
 (dS:∀t fx cx,FrOK V own w0.heap.size σ0 w t fx cx->(∀k o v,τ.c k o=some v->¬cx k)/\∀k v,τ.m k=some v->¬cx k):Inv C S O (V.plus τ) own hv w0 σ0 A a w where
 defers:=h.defers.mono (Im.plus_le1 V τ)
 ok:=Im.plus_ok h.ok hτ
 le:=h.le.trans (Im.plus_le1 V τ)
 old:=h.old
 newc:=λk o x e=>(Im.plus_c e).elim (h.newc k o x) λe=>(dp k o x e).elim (h.newc k o x) .inr
 newm:=λk x e=>(Im.plus_m e).elim (h.newm k x) λe=>(cQ k x e).elim (h.newm k x) .inr
 below:=h.below
 bw:=h.bw
 owns:=λk j hk=>by
  obtain⟨g1,g2,g3,g4⟩:=h.owns k j hk;refine⟨g1,g2,λo=>?_,?_⟩
  .cases e:(V.plus τ).c k o with
   |none=>rfl
   |some x=>
    rcases Im.plus_c e with e|e
    .rw[g3 o] at e;cases e
    .rw[hoc k o x e] at hk;cases hk
  .cases e:(V.plus τ).m k with
   |none=>rfl
   |some x=>
    rcases Im.plus_m e with e|e
    .rw[g4] at e;cases e
    .rw[hom k x e] at hk;cases hk
 regs:=h.mono_regs (Im.plus_le1 V τ)
 objs:=λj=>(h.objs j).mono (Im.plus_le1 V τ) (.refl S hv) rfl rfl λk hk=>⟨hk,rfl⟩
 opts:=h.opts
 frame:=by
  obtain⟨t,fx,cx,hf,ht⟩:=h.frame;obtain⟨h1,h2⟩:=dS t fx cx hf;exact⟨t,fx,cx,⟨hf.F,hf.own,λk o x e=>(Im.plus_c e).elim (hf.c k o x) (h1 k o x),λk x e=>(Im.plus_m e).elim (hf.m k x) (h2 k x),λk e=>(Im.plus_m e).elim (hf.d k) λe=>absurd e (hd k)⟩,ht⟩
def Inv.keep (h:Inv C S O V own hv w0 σ0 A a w){w':World}{X:Nat->Prop}(hb:Below 0 w w')(hX:∀k,X k->w'.heap[k]?=w.heap[k]?)(h0:∀k,k<w0.heap.size->X k)(ho:∀k j,own k=some j->X k)(hc:∀k o v,V.c k o=some v->X k)(hm:∀k v,V.m k=some v->X k)
 (dS:∀t fx cx,FrOK V own w0.heap.size σ0 w t fx cx->∀k,fx k->X k):Inv C S O V own hv w0 σ0 A a w' where
 defers:=h.defers
 ok:=⟨λk o v e=>by rw[World.cell?_of_block (hX k (hc k o v e))];exact h.ok.c k o v e,λk v e=>(h.ok.m k v e).keep (hX k (hm k v e)),h.ok.fz λk o v e=>hX k (hc k o v e)⟩
 le:=h.le
 old:=h.old
 newc:=h.newc
 newm:=h.newm
 below:=h.below.trans ⟨hb.os,hb.tape,hb.output,hb.size,λk hk=>hX k (h0 k (lu hk h.bw))⟩
 bw:=h.bw
 owns:=λk j hk=>let⟨g1,g2,g3⟩:=h.owns k j hk;⟨g1,lu g2 hb.size,g3⟩
 regs:=h.regs
 objs:=λj=>(h.objs j).mono (.refl V) (.refl S hv) rfl rfl λk hk=>⟨hk,hX k (ho k j hk)⟩
 opts:=h.opts
 frame:=by
  obtain⟨t,fx,cx,hf,ht⟩:=h.frame;exact⟨t,fx,cx,⟨σ0.keep _ _ _ _ _ hf.F hb λk hk=>hX k (dS t fx cx hf k hk),hf.own,hf.c,hf.m,hf.d⟩,ht⟩
end
def Base.rnd (σ0:Base)(V:Im)(own:Nat->Option Nat)(w:World)(t:D)(X:Nat->Prop):Base:=
 {V with
  B:=σ0.B
  fin:=False
  F:=λt' fx cx w'=>t'=t/\(∀k,fx k↔(k<w.heap.size/\own k=none/\V.m k≠some cC/\¬X k))/\(∀k,cx k↔(fx k/\(∀o,V.c k o=none)/\V.m k=none))/\w.heap.size<=w'.heap.size/\∀k,fx k->w'.heap[k]?=w.heap[k]?
  lt:=λt' fx cx w' h k hk=>lu ((h.2.1 k).1 hk).1 h.2.2.2.1
  sub:=λt' fx cx w' h k hk=>((h.2.2.1 k).1 hk).1
  keep:=λt' fx cx w' lj h hb hs=>⟨h.1,h.2.1,h.2.2.1,gm h.2.2.2.1 hb.size,λk hk=>(hs k hk).trans (h.2.2.2.2 k hk)⟩}
section
variable {C:Ctx} {S S':St} {O O':Env} {V V':Im} {own own':Nat->Option Nat} {hv hv':Nat->Value} {w0:World} {σ0:Base} {A A':Nat->Prop} {a a':Act} {w w':World} {X:Nat->Prop}
def Inv.toRnd (h:Inv C S O V own hv w0 σ0 A a w){t:D}(ht:∀j,S.o j=.tr->(∃ys,C.yl=some (j,ys))/\O.o j=t):Inv C S O V own hv w0 (σ0.rnd V own w t X) A a w:=by
 refine⟨h.defers,h.ok,.refl V,(λhf=>hf.elim),(λ_ _ _ e=>.inl e),(λ_ _ e=>.inl e),h.below,h.bw,h.owns,h.regs,h.objs,h.opts,t,λk=>k<w.heap.size/\own k=none/\V.m k≠some cC/\¬X k,λk=>(k<w.heap.size/\own k=none/\V.m k≠some cC/\¬X k)/\(∀o,V.c k o=none)/\V.m k=none,
  ⟨⟨rfl,λ_=>.rfl,λ_=>.rfl,aX _,λ_ _=>rfl⟩,λk j hk hf=>?_,λk o x e hc=>?_,λk x e hc=>?_,λk e _ hf=>hf.2.2.1 e⟩,ht⟩
 .have:=hf.2.1;rw[hk] at this;cases this
 .have:=hc.2.1 o;rw[e] at this;cases this
 .have:=hc.2.2;rw[e] at this;cases this
def Inv.markSame {w1:World}(h:V.ok w1)(h':V'.ok w')(hle:V.le V'){k:Nat}(hk:V.m k=some cC):w'.heap[k]?=w1.heap[k]?:=by
 have e1:w1.heap[k]?=some (.deferred (some [])):=by
  rcases h.m k _ hk with⟨h1,_⟩|⟨_,h2⟩|⟨h3,_⟩
  .exact absurd rfl h1
  .exact h2
  .exact absurd h3.symm xd
 have e2:w'.heap[k]?=some (.deferred (some [])):=by
  rcases h'.m k _ (hle.m k _ hk) with⟨h1,_⟩|⟨_,h2⟩|⟨h3,_⟩
  .exact absurd rfl h1
  .exact h2
  .exact absurd h3.symm xd
 rw[e1,e2]
def Inv.rndSame {w1:World}{t:D}(ar:V.ok w1)(h':Inv C S' O' V' own' hv' w0 (σ0.rnd V own w1 t X) A' a' w'){k:Nat}(hk:k<w1.heap.size)(ho:own k=none)(hX:¬X k):w'.heap[k]?=w1.heap[k]?:=by
 by_cases hd:V.m k=some cC
 .exact Inv.markSame ar h'.ok h'.le hd
 .obtain⟨t',fx,cx,hf,_⟩:=h'.frame;obtain⟨_,f2,_,_,f5⟩:=hf.F;exact f5 k ((f2 k).2 ⟨hk,ho,hd,hX⟩)
def Inv.rndBelow {w1:World}{t:D}(h:Inv C S O V own hv w0 σ0 A a w1)(h':Inv C S' O' V' own' hv' w0 (σ0.rnd V own w1 t X) A' a' w'):Below 0 w1 w':=by
 obtain⟨t',fx,cx,hf,_⟩:=h'.frame;obtain⟨_,_,_,f4,_⟩:=hf.F;exact⟨h'.below.os.trans h.below.os.symm,h'.below.tape.trans h.below.tape.symm,h'.below.output.trans h.below.output.symm,f4,λk hk=>by omega⟩
def Inv.rndOwn {w1:World}{t:D}(h':Inv C S' O' V' own' hv' w0 (σ0.rnd V own w1 t X) A' a' w'){k j:Nat}(hk:own' k=some j)(hX:¬X k):(∃i,own k=some i)\/w1.heap.size<=k:=by
 obtain⟨t',fx,cx,hf,_⟩:=h'.frame;obtain⟨_,f2,_,_,_⟩:=hf.F;cases e:own k with
 |some i=>exact .inl ⟨i,rfl⟩
 |none=>
  refine .inr (Nat.le_of_not_lt λaf=>?_);by_cases hd:V.m k=some cC
  .have:=(h'.owns k j hk).2.2.2;rw[h'.le.m k _ hd] at this;cases this
  .exact hf.own k j hk ((f2 k).2 ⟨af,e,hd,hX⟩)
def Inv.rndC {w1:World}{t:D}(h':Inv C S' O' V' own' hv' w0 (σ0.rnd V own w1 t X) A' a' w'){k:Nat}(hk:(∃o x,V'.c k o=some x)\/∃x,V'.m k=some x)(hX:¬X k):(∃o x,V.c k o=some x)\/(∃x,V.m k=some x)\/(∃i,own k=some i)\/w1.heap.size<=k:=by
 obtain⟨t',fx,cx,hf,_⟩:=h'.frame;obtain⟨_,f2,f3,_,_⟩:=hf.F;cases e:own k with
 |some i=>exact .inr (.inr (.inl ⟨i,rfl⟩))
 |none=>
  by_cases hm:∃x,V.m k=some x
  .exact .inr (.inl hm)
  by_cases hc:∃o x,V.c k o=some x
  .exact .inl hc
  refine .inr (.inr (.inr (Nat.le_of_not_lt λaf=>?_)));have hmn:V.m k=none:=by
   cases e2:V.m k with
   |none=>rfl
   |some x=>exact absurd ⟨x,e2⟩ hm
  have dR:cx k:=(f3 k).2 ⟨(f2 k).2 ⟨af,e,by rw[hmn];simp,hX⟩,λo=>by
   cases e2:V.c k o with
   |none=>rfl
   |some x=>exact absurd ⟨o,x,e2⟩ hc,hmn⟩
  rcases hk with⟨o,x,hk⟩|⟨x,hk⟩
  .exact hf.c k o x hk dR
  .exact hf.m k x hk dR
def Inv.ofRnd {w1:World}(h:Inv C S O V own hv w0 σ0 A a w1){t:D}{fx cx:Nat->Prop}(dS:FrOK V own w0.heap.size σ0 w1 t fx cx)(hX:∀k,fx k->¬X k)(h':Inv C S' O' V' own' hv' w0 (σ0.rnd V own w1 t X) A' a' w'):
 Inv C S' O' V' own' hv' w0 σ0 A' a' w':=by
 have hb:=h.rndBelow h';have lC:=h';obtain⟨t',oC,kN,hf,ht⟩:=lC.frame;obtain⟨f1,f2,f3,f4,f5⟩:=hf.F;have af:=σ0.lt _ _ _ _ dS.F;have cg:=σ0.sub _ _ _ _ dS.F
 have hon:∀k,fx k->own k=none:=λk hk=>by
  cases e:own k with
  |none=>rfl
  |some j=>exact absurd hk (dS.own k j e)
 have mi:∀k,cx k->¬((∃o x,V'.c k o=some x)\/∃x,V'.m k=some x):=λk hk hc=>by
  have h1:=cg k hk;rcases Inv.rndC h' hc (hX k h1) with⟨o,x,e⟩|⟨x,e⟩|⟨j,e⟩|e
  .exact dS.c k o x e hk
  .exact dS.m k x e hk
  .exact dS.own k j e h1
  .have:=af k h1;omega
 refine⟨h'.defers,h'.ok,h.le.trans h'.le,h.old,λk o x e=>(h'.newc k o x e).elim (h.newc k o x) .inr,λk x e=>(h'.newm k x e).elim (h.newm k x) .inr,h'.below,h'.bw,h'.owns,h'.regs,h'.objs,h'.opts,t,fx,cx,
  ⟨σ0.keep _ _ _ _ _ dS.F hb λk hk=>Inv.rndSame h.ok h' (af k hk) (hon k hk) (hX k hk),λk j hk lE=>?_,λk o x e hc=>mi k hc (.inl ⟨o,x,e⟩),λk x e hc=>mi k hc (.inr ⟨x,e⟩),λk e hB lE=>?_⟩,λj hj=>⟨(ht j hj).1,by rw[(ht j hj).2,f1]⟩⟩
 .rcases Inv.rndOwn h' hk (hX k lE) with⟨i,e⟩|e
  .exact dS.own k i e lE
  .have:=af k lE;omega
 .by_cases hd:V.m k=some cC
  .exact dS.d k hd hB lE
  .exact hf.d k e hB ((f2 k).2 ⟨af k lE,hon k lE,hd,hX k lE⟩)
def Inv.restore (h:Inv C S O V own hv w0 σ0 A a w)(hn:∀t gs s,S.r t≠.opt gs s)(hd:lq V w0.heap.size a'.defers)(hr:∀t,isNone (S.r t)=false->a'.tmps.getD t undef=a.tmps.getD t undef/\O'.r t=O.r t)(ho:∀j,qh (S.o j)=false->O'.o j=O.o j):
 Inv C S O' V own hv w0 σ0 (λ_=>False) a' w:=by
 refine⟨hd,h.ok,h.le,h.old,h.newc,h.newm,h.below,h.bw,h.owns,λt=>?_,λj=>?_,λt gs s e=>absurd e (hn t gs s),?_⟩
 .cases hs:isNone (S.r t) with
  |true=>cases hc:S.r t<;>rw[hc] at hs<;>simp[isNone] at hs;trivial
  |false=>
   rw[(hr t hs).1,(hr t hs).2];exact aG.mono' (.refl V) (.refl S hv) (hn t) (h.regs t)
 .cases hs:qh (S.o j) with
  |true=>cases hc:S.o j<;>rw[hc] at hs<;>simp[qh] at hs;trivial
  |false=>exact(h.objs j).mono (.refl V) (.refl S hv) rfl (ho j hs) (λk hk=>⟨hk,rfl⟩)
 .obtain⟨t,fx,cx,h1,h2⟩:=h.frame;exact⟨t,fx,cx,h1,λj hj=>⟨(h2 j hj).1,by rw[ho j (by rw[hj];rfl)];exact(h2 j hj).2⟩⟩
def lq.mem {V:Im}{B:Nat}:∀{ds:List Deferred} {d:Deferred},d∈ds->lq V B ds->∃D,d={target:=.collected D,args:=#[]}/\V.m D=some cC
 |x::ds,d,hm,⟨⟨D,h1,h2,_⟩,h⟩=>by
  rcases cB.1 hm with e|e
  .subst e;exact⟨D,h1,h2⟩
  .exact lq.mem e h
def Im.mark (V:Im)(D:Nat):Im:=⟨V.c,λk=>if k=D then some cC else V.m k⟩
def ab4 (w:World)(o1 o2:Obj):Below w.heap.size w ((w.alloc o1).alloc o2):=(((Below.refl _ w).alloc (aX _) o1).alloc (by simp) o2)
def Inv.enter (h:Inv C S O V own hv w0 σ0 A a w)(r:Loop):
 Inv C S O (V.mark w.heap.size) own hv w0 σ0 A {a with defers:={target:=.collected w.heap.size,args:=#[]}::a.defers} ((w.alloc (.deferred (some []))).alloc (.loop r)):=by
 have hD:((w.alloc (.deferred (some []))).alloc (.loop r)).heap[w.heap.size]?=some (.deferred (some [])):=(Below.heap_alloc _ _ _ (by simp)).trans (World.alloc_heap_new w _);have hle:V.le (V.mark w.heap.size):=by
  refine⟨λ_ _ _ e=>e,λk x e=>?_⟩;have:k≠w.heap.size:=by have:=h.ltm e;omega
  simp[Im.mark,this,e]
 have yS:∀k x,(V.mark w.heap.size).m k=some x->V.m k=some x\/(k=w.heap.size/\x=cC):=by
  intro k x e;simp only[Im.mark] at e;split at e
  .rename_i e2;cases e;exact .inr ⟨e2,rfl⟩
  .exact .inl e
 have hb:=ab4 w (.deferred (some [])) (.loop r);have ar:(V.mark w.heap.size).ok ((w.alloc (.deferred (some []))).alloc (.loop r)):=by
  have h1:=h.ok.below hb;refine⟨h1.c,λk x e=>?_,h1.f⟩;rcases yS k x e with e|⟨rfl,rfl⟩
  .exact h1.m k x e
  .exact .inr (.inl ⟨rfl,hD⟩)
 have hw:=h.world hle ar hb (λ_ _ _ e=>.inl e) (λk x e=>(yS k x e).imp id λe=>by omega);have pY:=hw.defers;refine⟨⟨⟨_,rfl,by simp[Im.mark],h.below.size,λhm=>?_⟩,pY⟩,hw.ok,hw.le,hw.old,hw.newc,hw.newm,hw.below,hw.bw,hw.owns,hw.regs,hw.objs,hw.opts,hw.frame⟩;obtain⟨D,e1,e2⟩:=lq.mem hm h.defers;have:D=w.heap.size:=by cases e1;rfl
 subst this;have:=h.ltm e2;omega
end
end Cx
