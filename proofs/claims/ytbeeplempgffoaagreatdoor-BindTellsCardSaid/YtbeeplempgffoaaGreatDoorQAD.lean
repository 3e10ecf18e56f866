/-
  Shared texts of this claim.
-/
import Derived.Test.YtbeeplempgffoaaGreatDoorQAC
import Derived.Tactics
import Derived.RangeFuncIn
import Derived.OrdersIn
import Derived.RangeFuncRecord
set_option linter.unusedSimpArgs false
set_option linter.unusedVariables false
namespace Cx
open Go Go.RowKit
inductive Gh where
 |fz (j:Nat)|fbox (b:Nat)|rereg (t j:Nat)|recell (b i j:Nat)|home (b i j:Nat) (T:TypeId)
def Gh.run (C:Ctx)(S:St):Gh→Option (St×List PI)
 |.fz j=>some (S.fz j,[])
 |.fbox b=>Cr S b
 |.rereg t j=>Fj S t j
 |.recell b i j=>Fi S b i j
 |.home b i j T=>CY C S b i j T
def mc (C:Ctx):List Gh→St→Option (St×List PI)
 |[],S=>some (S,[])
 |g::gs,S=>(g.run C S).bind fun r=>(mc C gs r.1).map fun q=>(q.1,r.2++q.2)
theorem sn {Φ:aR}:∀{a b:List PI} {ρ:Env},PI.runs Φ (a++b) ρ=(PI.runs Φ a ρ).bind (PI.runs Φ b)
 |[],b,ρ=>by simp[PI.runs]
 |x::a,b,ρ=>by
  simp only[LV,PI.runs];cases x.run Φ ρ with
  |none=>rfl
  |some ρ1=>simp[sn (a:=a) (b:=b)]
def zn (S:St)(ops:Array Oper)(o:Oper):Option (List (Nat×Bool)):=
 match o.guard with
 |none=>some []
 |some (j,want)=>
  match(ops[j]?).bind (·.dst) with
  |some t=>
   match S.r t with
   |.dat .bool=>some [(t,want)]
   |.opt gs (.dat .bool)=>some ((t,want)::gs)
   |_=>none
  |none=>none
def aqB (S:St)(gs:List (Nat×Bool)):Op→List Nat
 |.build _ ps=>ew S gs (ps.toList.map (·.2))
 |.buildSlice _ _ ps=>ew S gs (ps.toList.map (·.2))
 |.box _ x=>ew S gs [x]
 |.pick _ x y=>ew S gs [x,y]
 |.slice _ x _ _ _=>ew S gs [x]
 |.mapUpdate _ _ k v=>ew S gs [k,v]
 |.insert _ _ k v=>ew S gs [k,v]
 |.store _ x v=>match jQ S gs x with|.eptr ..=>ew S gs [v]|_=>[]
 |_=>[]
def BT:List Sh→List Nat
 |[]=>[]
 |.obj j _::r=>j::BT r
 |_::r=>BT r
def Gc (S:St)(gs:List (Nat×Bool)):List Operand→List Nat
 |[]=>[]
 |x::xs=>
  match jQ S gs x with
  |.ptr j ver off=>bif Nat.beq ver (S.ver j)&&(match S.o j with|.box ..=>true|_=>false) then j::Gc S gs xs else Gc S gs xs
  |_=>Gc S gs xs
def aa3 (C:Ctx):Fn→Bool
 |.func f=>(match C.sig f with|some s=>we s.mode|none=>false)
 |_=>false
def pre (C:Ctx)(S:St)(gs:List (Nat×Bool))(op:Op):List Gh:=
 match op with
 |.makeFunc fn _ caps=>
  bif aa3 C fn then[] else(Gc S gs caps.toList).flatMap fun b=>(match S.o b with|.box _ aJ=>(BT aJ).map .fz|_=>[])++[.fbox b]
 |.load T x=>
  match jQ S gs x,oL C.P T,C.P.info? T with
  |.ptr j _ off,some true,some inf=>(match S.o j with|.box _ aJ=>(BT ((aJ.drop off).take inf.size)).map .fz|_=>[])
  |_,_,_=>[]
 |op=>(aqB S gs op).map .fz
def QZ (C:Ctx)(S:St)(gs:List (Nat×Bool))(o:Oper):List Gh:=
 match o.op,o.dst with
 |.assign x,some t=>bif C.fr.any (Nat.beq t) then(ew S gs [x]).map .fz else[]
 |_,_=>[]
def No (P:Program):Nat→TypeId→List (Option TypeId)
 |0,_=>[]
 |n+1,t=>
  match P.underlying t with
  |some (.struct fs)=>fs.toList.flatMap fun f=>No P n f.type
  |some (.array len e)=>(List.replicate len (No P n e)).flatten
  |some (.slice e)=>[some e]
  |_=>[none]
def homes (P:Program)(b off:Nat)(T:TypeId):List Gh:=
 ((No P 12 T).zipIdx).filterMap fun x=>x.1.map fun e=>.home b (off+x.2) (Zs b (off+x.2)) e
def Jh (nh:List Nat)(l:List Gh):List Gh:=l.filter fun g=>match g with|.home _ _ j _=> !(nh.any (Nat.beq j))|_=>true
def aeE (b off n:Nat):List Gh:=(List.range n).map fun i=>.recell b (off+i) (Zs b (off+i))
def post (C:Ctx)(S:St)(o:Oper):List Gh:=
 match o.op,o.dst with
 |.assign _,some t=>[.rereg t t]
 |.alloc T,some t=>Jh C.nh (homes C.P t 0 T)
 |.store T x _,_=>
  match jQ S [] x with
  |.ptr j _ off=>Jh C.nh (homes C.P j off T)++aeE j off (match C.P.info? T with|some i=>i.size|none=>0)
  |_=>[]
 |_,_=>[]
def Jw:Sh→Bool
 |.opt ..=>false
 |_=>true
def sV (C:Ctx)(S:St)(dst:Nat)(T:TypeId)(x:Operand):kW:=
 match x with
 |.const v=>(nO C.P T).bind fun t=>(nP t).bind fun z=>bif iV t v then some (S.setR dst (.dat z.1),[.setR dst (.con z.2)]) else none
 |_=>none
def core (C:Ctx)(S:St)(gs:List (Nat×Bool))(o:Oper):Option (St×List PI):=
 match o.dst with
 |some dst=>
  match JT C S gs dst o.op with
  |some r=>bif Jw r.1 then some (S.setR dst (ri gs r.1),r.2) else none
  |none=>
   match o.op,gs with
   |.assign x,[]=>
    bif C.fr.any (Nat.beq dst) then
          match wF C S [] dst x with
          |some r=>some (S.setR dst r.1,r.2)
          |none=>sV C S dst o.type x
    else
    match Cf C S dst o.type x with
    |some r=>some r
    |none=>
     match wF C S [] dst x with
     |some r=>some (S.setR dst r.1,r.2)
     |none=>sV C S dst o.type x
   |.alloc T,[]=>B8 C S dst T
   |.box T x,[]=>Ca C S dst T x
   |.buildSlice T n ps,gs=>
    match gs with
    |[]=>vj C S [] dst T n ps.toList
    |_=>zd C S gs dst T n ps.toList
   |.makeSlice T l c,[]=>Ce C S dst T l c
   |.makeMap T r,[]=>Cd C S dst T r
   |.range T x,[]=>Cg C S dst T x
   |.convert T U x,[]=>Cb C S dst T U x
   |.call c,gs=>
    match c.callee,gs with
    |.builtin .append,[]=>
     match c.args.toList,c.argTypes.toList with
     |[s,x],[T,T']=>bif Nat.beq T T' then B9 C S dst T s x else none
     |_,_=>none
    |.value (.func f),gs=>
     match zc C S gs dst f c.args.toList with
     |some r=>some (r.1.setR dst (ri gs r.2.1),r.2.2)
     |none=>
      match gs with
      |[]=>
       match Cc C S dst f c.args.toList with
       |some r=>some r
       |none=>(H8 C S f c.args.toList []).map (rN S (some dst))
      |_=>none
    |.value x,gs=>
     match vk C S gs dst x c.args.toList with
     |some r=>some (r.1.setR dst (ri gs r.2.1),r.2.2)
     |none=>
      match x,gs with
      |.tmp t,[]=>(H9 C S t c.args.toList).map (rN S (some dst))
      |_,_=>none
    |_,_=>none
   |.makeFunc fn first caps,[]=>Nx C S dst fn first caps
   |_,_=>none
 |none=>
  match o.op,gs with
  |.store T x v,[]=>Ch C S T x v
  |.mapUpdate T m k v,[]=>ze C S T m k v
  |.insert T m k v,[]=>ze C S T m k v
  |.panic _,[]=>some (S,[.chk (.nt (.con (.bool true)))])
  |.call c,[]=>
   match c.callee with
   |.value (.func f)=>(H8 C S f c.args.toList []).map (rN S none)
   |.value (.tmp t)=>(H9 C S t c.args.toList).map (rN S none)
   |_=>none
  |_,_=>none
def ac0 (dst:Nat)(l:List PI):Bool:=l.all fun p=>p.modR.all (Nat.beq dst)&&p.modO.isEmpty
def Ij (gs:List (Nat×Bool))(dst:Option Nat)(l:List PI):Bool:=
 match gs,dst with
 |[],_=>true
 |_,some d=>ac0 d l
 |_,none=>false
def H4 (C:Ctx)(S:St)(ops:Array Oper)(o:Oper):Option (St×List PI):=
 (zn S ops o).bind fun gs=>
 (mc C (pre C S gs o.op++QZ C S gs o) S).bind fun r1=>
 (core C r1.1 gs o).bind fun r2=>
 (mc C (post C r2.1 o) r2.1).bind fun r3=>
 bif Ij gs o.dst r2.2 then some (r3.1,r1.2++r2.2++r3.2) else none
def Fs:PI:=.chk (.con (.v (.bool false)))
def B5 (C:Ctx)(S:St)(ops:Array Oper)(o:Oper):Option (St×List PI):=
 match H4 C S ops o with
 |some r=>some r
 |none=>some (match o.dst with|some d=>S.setR d .none|none=>S,[Fs])
section
variable {C:Ctx} {S:St} {ρ:Env} {σ:Im} {own:Nat→Option Nat} {hv:Nat→Value} {w0:World} {σ0:Base} {A:Nat→Prop} {a:Act} {w:World} {gs:List (Nat×Bool)} {Φ:aR} {dst:Nat}
theorem Gh.sound {g:Gh}{r:St×List PI}(h:Good C w0 σ0 S ρ A a w)(hr:g.run C S=some r):Bg C w0 σ0 Φ S ρ A a w r:=by
 obtain⟨σ,own,hv,h⟩:=h;cases g with
 |fz j=>
  simp only[Gh.run,bp] at hr;subst hr;intro ρ' ax;rw[nL ax];obtain⟨σ',own',_,h'⟩:=h.fz j;exact⟨σ',own',hv,h'⟩
 |fbox b=>exact akf h hr
 |rereg t j=>exact ar0 h hr
 |recell b i j=>exact arZ h hr
 |home b i j T=>exact ami h hr
theorem NO:∀(l:List Gh) {S:St} {ρ ρ':Env} {r:St×List PI},Good C w0 σ0 S ρ A a w→mc C l S=some r→PI.runs Φ r.2 ρ=some ρ'→Good C w0 σ0 r.1 ρ' A a w
 |[],S,ρ,ρ',r,h,hr,ax=>by
  simp only[mc,bp] at hr;subst hr;rw[nL ax];exact h
 |g::l,S,ρ,ρ',r,h,hr,ax=>by
  simp only[mc,aB,aK] at hr;obtain⟨q,hq,q2,iJ,rfl⟩:=hr;simp only[sn,aB] at ax;obtain⟨ρ1,h1,h2⟩:=ax;exact NO (r:=q2) l (Gh.sound (Φ:=Φ) h hq ρ1 h1) iJ h2
theorem Yc (h:Good C w0 σ0 S ρ A a w){ops:Array Oper}{o:Oper}(hg:zn S ops o=some gs):Region.wanted o (yielded ops a.tmps)=holds gs ρ:=by
 obtain⟨σ,own,hv,h⟩:=h;unfold zn at hg;unfold Region.wanted;split at hg
 ·rename_i e;cases hg;simp[e,holds]
 ·rename_i j want e;simp only[e];split at hg
  case h_2=>cases hg
  rename_i t ht;have oJ:=h.regs t;have hy:∀v,a.tmps.getD t undef=v→(∀b,v=.bool b→yielded ops a.tmps j=some b)∧(v=undef→yielded ops a.tmps j=none):=by
   intro v hv';unfold yielded;rw[ht];simp only[uU];rw[gA] at hv';cases tj:a.tmps[t]? with
   |none=>rw[tj] at hv';simp at hv';subst hv';exact⟨fun b e=>absurd e (by simp[undef]),fun _=>rfl⟩
   |some u=>rw[tj] at hv';simp at hv';subst hv';exact⟨fun b e=>by subst e;rfl,fun e=>by subst e;rfl⟩
  split at hg
  ·rename_i es;cases hg;rw[es] at oJ;obtain⟨b,jd,dT⟩:=Rep.bool_inv oJ;rw[(hy _ jd).1 b rfl];simp[holds,dT,D.b_bool]
  ·rename_i bT es;cases hg;rw[es] at oJ;simp only[holds,sF];cases hh:holds bT ρ with
   |true=>
    obtain⟨b,jd,dT⟩:=Rep.bool_inv (oJ.1 hh);rw[(hy _ jd).1 b rfl];unfold holds at hh;rw[hh,dT];simp[D.b_bool]
   |false=>
    rw[(hy _ (oJ.2 hh)).2 rfl];unfold holds at hh;rw[hh];simp
  ·cases hg
theorem Yb (h:Good C w0 σ0 S ρ A a w){ops:Array Oper}{o:Oper}(hg:zn S ops o=some gs)(hj:∀j want t,o.guard=some (j,want)→(ops[j]?).bind (·.dst)=some t→A t):∀g,g∈gs→A g.1:=by
 obtain⟨σ,own,hv,h⟩:=h;unfold zn at hg;split at hg
 ·cases hg;simp
 ·rename_i j want e;split at hg
  case h_2=>cases hg
  rename_i t ht;have hA:=hj j want t e ht;split at hg
  ·cases hg;intro g hm;simp at hm;subst hm;exact hA
  ·rename_i bT es;cases hg;intro g hm;rcases di.1 hm with e'|cA
   ·subst e';exact hA
   ·exact(h.opts t bT _ es).1 g cA
  ·cases hg
theorem aqe (h:Inv C S ρ σ own hv w0 σ0 A a w)(hC:CtxOK C σ0)(hg:holds gs ρ=true){o:Oper}{r:Sh×List PI}(hr:JT C S gs dst o.op=some r):ed C S ρ σ hv Φ dst a w o r:=by
 unfold JT at hr;split at hr
 ·rename_i x e;exact ac2 h hC hg hr (.inl e)
 ·rename_i c x y e;exact aqd h hC hg hr e
 ·rename_i op T x y T' e;exact ap0 h hC hg hr e
 ·rename_i op T x e;exact aqg h hC hg hr e
 ·rename_i s d x e;exact ap2 h hC hg hr e
 ·rename_i T x e;exact JR h hC hg hr e
 ·rename_i T x i e;exact ap4 h hC hg hr e
 ·rename_i T x i e;exact ap5 h hC hg hr e
 ·rename_i T x i e;exact ap7 h hC hg hr e
 ·rename_i T x i e;exact ap8 h hC hg hr e
 ·rename_i x i e;exact ap3 h hC hg hr e
 ·rename_i T m k ok e;exact aqb h hC hg hr e
 ·rename_i T x lo hi mx e;exact aqf h hC hg hr e
 ·rename_i f a b e;exact ap6 h hC hg hr e
 ·rename_i T ps e;exact ap1 h hC hg hr e
 ·rename_i x e;exact aqc h hC hg hr e
 ·cases hr;intro ρ' ax;have:=(S4 hg ax).1;cases this
 ·rename_i c e;split at hr
  ·rename_i x T hc ha ht;refine ap9 h hC hg hr ?_;rw[e];cases c with|mk callee args argTypes=>
   simp only at hc ha ht;have h1:args=#[x]:=by rw[←uN];exact ha
   have h2:argTypes=#[T]:=by rw[←uN];exact ht
   rw[hc,h1,h2]
  ·rename_i x y hc ha;refine ac1 (ts:=c.argTypes) h hC hg hr ?_;rw[e];cases c with|mk callee args argTypes=>
   simp only at hc ha;have h1:args=#[x,y]:=by rw[←uN];exact ha
   rw[hc,h1];rfl
  ·rename_i x y hc ha;refine ac1 (ts:=c.argTypes) h hC hg hr ?_;rw[e];cases c with|mk callee args argTypes=>
   simp only at hc ha;have h1:args=#[x,y]:=by rw[←uN];exact ha
   rw[hc,h1];rfl
  ·cases hr
 ·cases hr
theorem ain (h:Inv C S ρ σ own hv w0 σ0 A a w)(ht:¬A dst)(aq:dst<a.tmps.size){T:TypeId}{x:Operand}{r:St×List PI}(hr:sV C S dst T x=some r){o:Oper}(hd:o.dst=some dst)(ho:o.op=.assign x):cn C w0 σ0 Φ S ρ A a w o r:=by
 unfold sV at hr;split at hr
 case h_2=>cases hr
 rename_i v;simp only[aB] at hr;obtain⟨t,_,z,hz,hr⟩:=hr;cases hc:iV t v<;>simp only[hc,cond_true,cond_false] at hr
 ·cases hr
 cases hr;have cB:=(xu (cap:=C.cap) (σ:=σ) hz hc).1;refine cn.value hd fun ρ' ax=>⟨v,w,by simp[execOp,ho,Act.eval],?_⟩
 have hρ:ρ'=ρ.setR dst z.2:=by simp[PI.runs,PI.run,PE.ev] at ax;exact ax.symm
 subst hρ;exact⟨_,_,_,h.setReg ht (s:=.dat z.1) cB aq (fun _ _ e=>by cases e)⟩
theorem ahG (h:Inv C S ρ σ own hv w0 σ0 A a w)(hC:CtxOK C σ0)(bD:dP C)(hΦ:dz C Φ){o:Oper}(ht:∀d,o.dst=some d→¬A d∧d<a.tmps.size)(dU:∀g,g∈gs→A g.1)(hg:holds gs ρ=true){r:St×List PI}
 (hr:core C S gs o=some r):cn C w0 σ0 Φ S ρ A a w o r:=by
 unfold core at hr;split at hr
 ·rename_i dst hd;obtain⟨eW,eX⟩:=ht dst hd;split at hr
  ·rename_i q hq;cases eT:Jw q.1<;>simp only[eT,cond_true,cond_false] at hr
   ·cases hr
   cases hr;have ZC:=aqe (Φ:=Φ) h hC hg hq;cases gs with
   |nil=>exact ZC.eff h eW eX hd
   |cons g bT=>exact ZC.effG h eW eX dU hg hd
  ·rename_i CU;clear CU;split at hr
   ·rename_i x e
    have mv:∀r,(match wF C S [] dst x with|some r=>some (S.setR dst r.1,r.2)|none=>sV C S dst o.type x)=some r→cn C w0 σ0 Φ S ρ A a w o r:=by
     intro r hr;split at hr
     ·rename_i q hq;cases hr;exact(ac2 (Φ:=Φ) h hC hg hq (.inr e)).eff h eW eX hd
     ·exact ain h eW eX hr hd e
    cases fI:C.fr.any (Nat.beq dst)<;>simp only[fI,cond_true,cond_false] at hr
    ·split at hr
     ·rename_i q hq;cases hr;exact aih h hC eW eX hq hd e
     ·exact mv r hr
    ·exact mv r hr
   ·rename_i T e;exact ahS h eW eX hr hd e
   ·rename_i T x e;exact ahW h hC eW eX hr hd e
   ·rename_i T n ps e;split at hr
    ·exact ahY h hC eW eX hr hd e
    ·exact ah8 h hC eW eX dU hg hr hd e
   ·rename_i T l c e;exact aic h hC eW eX hr hd e
   ·rename_i T m e;exact aia h eW eX hr hd e
   ·rename_i T x e;exact aij h eW eX hr hd e
   ·rename_i T U x e;exact ah0 h hC eW eX hr hd e
   ·rename_i c e;cases c with|mk callee args argTypes=>
    split at hr
    ·rename_i hc;simp only at hc;split at hr
     ·rename_i s x T T' ha O6;simp only at ha O6;cases hT:Nat.beq T T'<;>simp only[hT,cond_true,cond_false] at hr
      ·cases hr
      have zq:=aG hT;subst zq;refine ahU h hC eW eX hr hd ?_;have h1:args=#[s,x]:=by rw[←uN];exact ha
      have h2:argTypes=#[T,T]:=by rw[←uN];exact O6
      rw[e,hc,h1,h2]
     ·cases hr
    ·rename_i f hc;simp only at hc;split at hr
     ·rename_i q hq;cases hr;exact ah6 h hC bD hΦ eW eX dU hg hq hd (by rw[e,hc])
     ·split at hr
      ·split at hr
       ·rename_i q hq;cases hr;exact ah4 h hC bD hΦ eW eX hq hd (by rw[e,hc])
       ·simp only[aK] at hr;obtain⟨q,hq,rfl⟩:=hr;rw[←hd];exact XE h hC bD hΦ ht hq (by rw[e,hc])
      ·cases hr
    ·rename_i x hnf hc;simp only at hc;split at hr
     ·rename_i q hq;cases hr;exact ah2 h hC bD hΦ eW eX dU hg hq hd (by rw[e,hc])
     ·split at hr
      ·simp only[aK] at hr;obtain⟨q,hq,rfl⟩:=hr;rw[←hd];exact XC h hC bD hΦ ht hq (by rw[e,hc])
      ·cases hr
    ·cases hr
   ·rename_i fn first caps e;exact aie h eW eX hr hd e
   ·cases hr
 ·rename_i hd;split at hr
  ·rename_i T x v e;exact ail h hC hr hd e
  ·rename_i T m k v e;exact XG h hC hr hd (.inl e)
  ·rename_i T m k v e;exact XG h hC hr hd (.inr e)
  ·cases hr;intro ρ' ax;simp[PI.runs,PI.run,PE.ev,D.bool,D.b] at ax
  ·rename_i c e;cases c with|mk callee args argTypes=>
   split at hr
   ·rename_i f hc;simp only at hc;simp only[aK] at hr;obtain⟨q,hq,rfl⟩:=hr;rw[←hd];exact XE h hC bD hΦ ht hq (by rw[e,hc])
   ·rename_i t hc;simp only at hc;simp only[aK] at hr;obtain⟨q,hq,rfl⟩:=hr;rw[←hd];exact XC h hC bD hΦ ht hq (by rw[e,hc])
   ·cases hr
  ·cases hr
theorem ahE {g:Nat×Bool}{bT:List (Nat×Bool)}{o:Oper}{r:St×List PI}(hr:core C S (g::bT) o=some r):
 ∃dst S2 s,o.dst=some dst∧r.1=S2.setR dst (.opt (g::bT) s)∧((∃js,S2=S.fzs js)∨∃j,S2=S.newO j .dead)∧(∀gs s',s≠.opt gs s')∧(∀x,o.op≠.assign x)∧(∀T,o.op≠.alloc T)∧∀T x v,o.op≠.store T x v:=by
 unfold core at hr;split at hr
 ·rename_i dst hd;split at hr
  ·rename_i q hq;cases eT:Jw q.1<;>simp only[eT,cond_true,cond_false] at hr
   ·cases hr
   cases hr;refine⟨dst,S,q.1,hd,rfl,.inl ⟨[],rfl⟩,(fun gs s' e=>by rw[e] at eT;cases eT),fun x e=>?_,fun T e=>?_,fun T x v e=>?_⟩<;>(rw[e] at hq;simp[JT] at hq)
  ·rename_i CU;clear CU;split at hr
   case h_4=>
        rename_i T n ps e;split at hr
        ·rename_i hx;cases hx
        ·unfold zd at hr;split at hr
         case h_2=>cases hr
         simp only[aB] at hr;obtain⟨e0,he0,hr⟩:=hr;split at hr
         ·cases hr;exact⟨dst,_,.dat (.slice e0.rol),hd,rfl,.inr ⟨dst,rfl⟩,(fun _ _ e=>by cases e),(fun x e'=>by rw[e] at e';cases e'),(fun x e'=>by rw[e] at e';cases e'),(fun _ _ _ e'=>by rw[e] at e';cases e')⟩
         ·cases hr
   case h_9=>
        rename_i c e;split at hr
        ·rename_i hx;cases hx
        ·rename_i f hc;split at hr
         ·rename_i q hq;cases hr;simp only[zc,aB] at hq;obtain⟨s,hs,hq⟩:=hq;split at hq
          case h_2=>cases hq
          simp only[aB] at hq;obtain⟨u,hu,hq⟩:=hq;cases cJ:Ty.subs u.1 s.args<;>simp only[cJ,cond_true,cond_false] at hq
          ·cases hq
          cases hq;refine⟨dst,_,.dat s.res,hd,rfl,?_,(fun _ _ e=>by cases e),(fun x e'=>by rw[e] at e';cases e'),(fun x e'=>by rw[e] at e';cases e'),(fun _ _ _ e'=>by rw[e] at e';cases e')⟩;left;cases s.res.pure
          ·exact⟨_,rfl⟩
          ·exact⟨[],rfl⟩
         ·cases hr
        ·rename_i x hnf hc;have hr:∃q,vk C S (g::bT) dst x c.args.toList=some q∧(q.1.setR dst (ri (g::bT) q.2.1),q.2.2)=r:=by
          split at hr
          ·rename_i q hq;cases hr;exact⟨q,hq,rfl⟩
          ·split at hr
           all_goals (first|(cases hr;done)|(rename_i hx;cases hx;done)|(rename_i hx _;cases hx;done)|(rename_i hx _ _;cases hx;done)|(rename_i hx;exact absurd hx (by simp)))
         obtain⟨q,hq,rfl⟩:=hr;unfold vk at hq;split at hq
         case h_2=>cases hq
         rename_i aa r0 ee ZN;split at hq
         case h_1=>cases hq
         simp only[aB] at hq;obtain⟨u,hu,hq⟩:=hq;cases cJ:Ty.subs u.1 aa<;>simp only[cJ,cond_true,cond_false] at hq
         ·cases hq
         cases hq;refine⟨dst,_,.dat r0,hd,rfl,?_,(fun _ _ e=>by cases e),(fun x e'=>by rw[e] at e';cases e'),(fun x e'=>by rw[e] at e';cases e'),(fun _ _ _ e'=>by rw[e] at e';cases e')⟩;left;cases r0.pure
         ·exact⟨_,rfl⟩
         ·exact⟨[],rfl⟩
        ·cases hr
   all_goals (first|(cases hr;done)|(rename_i hx;cases hx;done)|(rename_i hx _;cases hx;done))
 ·split at hr
  all_goals (first|(cases hr;done)|(rename_i hx;cases hx;done)|(rename_i hx _;cases hx;done))
theorem Zr {ρ ρ1:Env}:∀{l:List (Nat×Bool)},(∀g,g∈l→ρ1.r g.1=ρ.r g.1)→holds l ρ1=holds l ρ
 |[],_=>rfl
 |x::l,h=>by
  have ih:=Zr (l:=l) fun y hy=>h y (fj _ hy);unfold holds at ih ⊢;simp only[sF];rw[ih,h x (fF ..)]
theorem X8:∀(l:List Gh) {S:St} {r:St×List PI},mc C l S=some r→∀t,t∉r.2.flatMap PI.modR
 |[],S,r,hr=>by simp only[mc,bp] at hr;subst hr;simp
 |g::l,S,r,hr=>by
  simp only[mc,aB,aK] at hr;obtain⟨q,hq,q2,iJ,rfl⟩:=hr;have ih:=X8 l iJ;have hg:∀t,t∉q.2.flatMap PI.modR:=by
   cases g with
   |fz j=>simp only[Gh.run,bp] at hq;subst hq;simp
   |fbox b=>
    simp only[Gh.run,Cr] at hq;split at hq
    case h_2=>cases hq
    simp only[aB] at hq;obtain⟨x,hx,hq⟩:=hq;rename_i ag aJ eo;cases ag<;>simp only[cond_true,cond_false] at hq
    ·split at hq
     ·cases hq;simp[PI.modR]
     ·cases hq
    ·cases hq;simp[PI.modR]
   |rereg t j=>
    simp only[Gh.run,Fj] at hq;split at hq
    ·rename_i j' ver es;cases hb:(Nat.beq ver (S.ver j')&&mA (S.o j')&& !Nat.beq j' j)<;>simp only[hb,cond_true,cond_false] at hq<;>cases hq<;>simp[PI.modR]
    ·cases hq;simp
   |recell b i j=>
    simp only[Gh.run,Fi] at hq;split at hq
    ·split at hq
     ·rename_i ag aJ eo j' ver es;cases hb:(Nat.beq ver (S.ver j')&&mA (S.o j')&& !Nat.beq j' j&& !Nat.beq b j&& !Nat.beq b j')<;>simp only[hb,cond_true,cond_false] at hq<;>cases hq<;>simp[PI.modR]
     ·cases hq;simp
    ·cases hq;simp
   |home b i j T=>
    simp only[Gh.run,CY] at hq;split at hq
    ·split at hq
     ·cases hb:(!Nat.beq b j)<;>simp only[hb,cond_true,cond_false] at hq<;>cases hq<;>simp[PI.modR]
     ·cases hq;simp
    ·cases hq;simp
  intro t hm;rw[List.flatMap_append,dp] at hm;exact hm.elim (hg t) (ih t)
theorem ahx (h:Good C w0 σ0 S ρ A a w)(hC:CtxOK C σ0)(bD:dP C)(hΦ:dz C Φ){ops:Array Oper}{o:Oper}(ht:∀d,o.dst=some d→¬A d∧d<a.tmps.size)
 (hj:∀j want t,o.guard=some (j,want)→(ops[j]?).bind (·.dst)=some t→A t) {r:St×List PI} (hr:H4 C S ops o=some r) {ρ':Env} (ax:PI.runs Φ r.2 ρ=some ρ')
 {K:Act→World→Prop} {Q:Exit→Act→World→Prop} (hK:∀a' w',Good C w0 σ0 r.1 ρ' (fun u=>A u∨o.dst=some u) a' w'→a'.tmps.size=a.tmps.size→K a' w'):
 if Region.wanted o (yielded ops a.tmps) then o.wp C.P a w K Q else K (a.put o.dst undef) w:=by
 simp only[H4,aB] at hr;obtain⟨gs,dU,r1,nj,r2,tz,r3,I3,hr⟩:=hr;have zD:=Yb h dU hj;rw[Yc h dU];cases hc:Ij gs o.dst r2.2<;>simp only[hc,cond_true,cond_false] at hr
 ·cases hr
 cases hr;simp only[sn,aB] at ax;obtain⟨ρ2,⟨ρ1,hρ1,hρ2⟩,hρ3⟩:=ax;have h1:=NO _ h nj hρ1;have cr:=h1;obtain⟨σ1,jK,bF,i1⟩:=cr;have II:holds gs ρ1=holds gs ρ:=by
  cases gs with
  |nil=>rfl
  |cons g bT=>
   have hb:=(PI.runs_but hρ1).r
   have:∀x,x∈(g::bT)→ρ1.r x.1=ρ.r x.1:=fun x hm=>hb x.1 (by
        intro cI;exact X8 _ nj x.1 cI)
   exact Zr this
 cases hh:holds gs ρ with
 |true=>
  simp only[if_true];rw[hh] at II;refine ahG i1 hC bD hΦ ht zD II tz ρ2 hρ2 K Q (fun a' w' j2 bh=>?_);exact hK a' w' (NO (r:=r3) _ j2 I3 hρ3) bh
 |false=>
  simp only[xx,if_false];rw[hh] at II;cases gs with
  |nil=>simp[holds] at hh
  |cons g bT=>
   obtain⟨dst,S2,s,hd,hS,pJ,hns,n1,n2,n3⟩:=ahE tz;obtain⟨t1,t2⟩:=ht dst hd;have oH:post C r2.1 o=[]:=by
        unfold post;split
        ·rename_i x t e _;exact absurd e (n1 x)
        ·rename_i T t e _;exact absurd e (n2 T)
        ·rename_i T x v e;exact absurd e (n3 T x v)
        ·rfl
   rw[oH] at I3;simp only[mc,bp] at I3;subst I3;have:=nL hρ3;subst this;obtain⟨σ2,iP,i2⟩:∃σ2 iP,Inv C S2 ρ1 σ2 iP bF w0 σ0 A a w:=by
        rcases pJ with⟨js,rfl⟩|⟨j,rfl⟩
        ·obtain⟨σ2,iP,_,i2⟩:=Inv.fzs js i1;exact⟨σ2,iP,i2⟩
        ·exact⟨σ1,jK,i1.kill j⟩
   have C0:=i2.passed t1 t2 zD II (s:=s) hns (ρ'.r dst);have hρe:ρ1.setR dst (ρ'.r dst)=ρ':=by
        have hb:=PI.runs_but hρ2;simp only[Ij,hd] at hc;unfold ac0 at hc;rw[eQ] at hc
        have e1:∀t,t≠dst→ρ'.r t=ρ1.r t:=fun t aC=>hb.r t (fun hm=>by
         obtain⟨p,hp,tw⟩:=FL.1 hm;have:=hc p hp;simp only[ay] at this;have:=eQ.1 this.1 t tw;exact aC (aG this).symm)
        have e2:∀t,ρ'.o t=ρ1.o t:=fun t=>hb.o t (fun hm=>by
         obtain⟨p,hp,tw⟩:=FL.1 hm;have:=hc p hp;simp only[ay] at this;have h9:=WD.1 this.2;rw[h9] at tw;cases tw)
        have r1:cu ρ1.r dst (ρ'.r dst)=ρ'.r:=by
         funext t;rw[gj];split
         ·rename_i e;subst e;rfl
         ·rename_i aC;exact(e1 t aC).symm
        have r2:ρ1.o=ρ'.o:=funext fun t=>(e2 t).symm;cases ρ' with|mk a b=>simp only[Env.setR] at r1 r2 ⊢;rw[r1,r2]
   rw[hρe] at C0;have lu:(fun u=>A u∨o.dst=some u)=(fun u=>A u∨u=dst):=by funext u;rw[hd];simp[eq_comm]
   rw[lu] at hK;rw[hd];refine hK _ _ ?_ (size_put _ _ _);simp only;rw[hS];exact⟨_,_,_,C0⟩
theorem ahz (h:Good C w0 σ0 S ρ A a w)(hC:CtxOK C σ0)(bD:dP C)(hΦ:dz C Φ){ops:Array Oper}{o:Oper}(ht:∀d,o.dst=some d→¬A d∧d<a.tmps.size)
 (hj:∀j want t,o.guard=some (j,want)→(ops[j]?).bind (·.dst)=some t→A t) {r:St×List PI} (hr:B5 C S ops o=some r) {ρ':Env} (ax:PI.runs Φ r.2 ρ=some ρ')
 {K:Act→World→Prop} {Q:Exit→Act→World→Prop} (hK:∀a' w',Good C w0 σ0 r.1 ρ' (fun u=>A u∨o.dst=some u) a' w'→a'.tmps.size=a.tmps.size→K a' w'):
 if Region.wanted o (yielded ops a.tmps) then o.wp C.P a w K Q else K (a.put o.dst undef) w:=by
 unfold B5 at hr;split at hr
 ·rename_i q hq;cases hr;exact ahx h hC bD hΦ ht hj hq ax hK
 ·cases hr;simp[PI.runs,PI.run,Fs,PE.ev,D.b_bool] at ax
end
end Cx
namespace Cx
open Go Go.RowKit
def p8:Op→Bool
 |.defer _=>false
 |_=>true
def FR (rd:Option Nat):Fence:={Fence.wide with round:=rd}
theorem Xd {rd:Option Nat}{n:Nat}{P:Program}{f:FuncId}{args:Array Value}{w:World}{R:Ending→World→Prop}(h:Calls P f args w R):CallsIn (FR rd) n P f args w R:=
 (callsIn_wide (n:=n)).2 h
theorem ac4 {rd:Option Nat}{n:Nat}{P:Program}{o:Oper}{a:Act}{w:World}{K:Act→World→Prop}{Q:Exit→Act→World→Prop}(bS:p8 o.op=true)(h:o.wp P a w K Q):o.wpIn (FR rd) n P a w K Q:=by
 refine⟨fun _ _=>trivial,?_⟩;rw[Oper.semAt_eq _ _ _ (fun c e=>by rw[e] at bS;cases bS)];unfold Oper.wp at h;generalize (execOp a.eval o).run P w=x at h;have eT:∀{p:Prop},((FR rd).depth.isSome=true→p):=fun e=>by cases e
 cases x with
 |ok v w'=>
  cases v with
  |value v=>exact h
  |skip=>exact h
  |defer d=>exact h
  |enter f args=>
   refine⟨eT,(Xd h).mono fun e kg hh=>?_⟩;cases e<;>exact hh
  |row row args=>
   refine⟨eT,fun c cs _=>?_⟩;obtain⟨v,w2,h1,h2⟩:=h c cs;exact⟨v,w2,h1,stepsIn_wide.2 h2⟩
  |_=>exact h.elim
 |halt v w'=>
  cases v with
  |panic v=>exact h
  |_=>exact h.elim
structure SameBut (D:Nat→Prop) (a a':Act):Prop where
 size:a'.tmps.size=a.tmps.size
 get:∀t,¬D t→a'.tmps.getD t undef=a.tmps.getD t undef
theorem SameBut.refl (D:Nat→Prop)(a:Act):SameBut D a a:=⟨rfl,fun _ _=>rfl⟩
theorem SameBut.trans {D:Nat→Prop}{a b c:Act}(h:SameBut D a b)(k:SameBut D b c):SameBut D a c:=⟨k.size.trans h.size,fun t ht=>(k.get t ht).trans (h.get t ht)⟩
theorem SameBut.mono {D D':Nat→Prop}{a b:Act}(h:SameBut D a b)(hd:∀t,D t→D' t):SameBut D' a b:=⟨h.size,fun t ht=>h.get t fun e=>ht (hd t e)⟩
theorem SameBut.put (a:Act)(d:Option Tmp)(v:Value)(ds:List Deferred):SameBut (fun t=>d=some t) a ({a with defers:=ds}.put d v):=by
 refine⟨size_put _ _ _,fun t ht=>?_⟩;cases d with
 |none=>rfl
 |some u=>
  have:t≠u:=fun e=>ht (by rw[e]);rw[Fv];simp[this]
theorem Oper.wp_same {P:Program}{o:Oper}{a:Act}{w:World}{K:Act→World→Prop}{Q:Exit→Act→World→Prop}(h:o.wp P a w (fun a' w'=>SameBut (fun t=>o.dst=some t) a a'→K a' w') Q):o.wp P a w K Q:=by
 unfold Oper.wp at h ⊢;generalize (execOp a.eval o).run P w=x at h ⊢;cases x with
 |ok v w'=>
  cases v with
  |value v=>exact h (SameBut.put a _ _ a.defers)
  |skip=>exact h (SameBut.put a _ _ a.defers)
  |defer d=>exact h (SameBut.put a _ _ _)
  |enter f args=>
   refine Calls.mono h fun e kg hh=>?_;cases e with
   |returned v=>exact hh (SameBut.put a _ _ a.defers)
   |panicked c=>exact hh
   |outgrown=>exact hh
  |row row args=>exact Rows.mono h fun v kg hh=>hh (SameBut.put a _ _ a.defers)
  |_=>exact h
 |halt v w'=>
  cases v with
  |panic v=>exact h
  |_=>exact h
def WN (P:Program)(v:Value)(args:List Value)(w:World)(R:Value→World→Prop):Prop:=
 ∀(rd:Option Nat) (o:Oper) (a:Act) (x:Operand) (aa:Array Operand) (ts:Array TypeId) (K:Act→World→Prop) (Q:Exit→Act→World→Prop),
  o.op=.call {callee:=.value x,args:=aa,argTypes:=ts}→a.eval x=v→aa.toList.map a.eval=args→(∀u w',R u w'→K (a.put o.dst u) w')→o.wpIn (FR rd) 0 P a w K Q
def lP:Nat:=1000000009
def qQ (C:Ctx)(Φ:aR)(w0:World)(σ0:Base):Prop:=∀J ys,C.yl=some (J,ys)→σ0.B=0∧(∀t fx cx w,σ0.F t fx cx w→∃xs,t=.list xs)∧
 ∀(xs cw:List D) (d:D),Φ lP [.list (xs++[.tup cw])]=some d→∀(fx cx:Nat→Prop) (w1:World) (σ1:Im) (args:List Value),σ0.F (.list xs) fx cx w1→σ1.ok w1→pq C σ1 ys args cw→
  (∀k o x,σ1.c k o=some x→¬cx k)→(∀k x,σ1.m k=some x→¬cx k)→
  (∀k o x,σ1.c k o=some x→σ0.c k o=some x∨w0.heap.size≤k)→(∀k x,σ1.m k=some x→σ0.m k=some x∨w0.heap.size≤k)→
  WN C.P C.yv args w1 fun u w2=>∃b,d=.v (.bool b)∧u=.bool b∧Below 0 w1 w2∧(∀k,k<w1.heap.size→¬cx k→w2.heap[k]?=w1.heap[k]?)∧
   ∃l9 l6,σ0.F (.list (xs++[.tup cw])) l9 l6 w2∧(∀k,l9 k→k<w1.heap.size→fx k∨(∃o x,σ1.c k o=some x)∨(∃x,σ1.m k=some x∧x≠fl))∧(∀k,l6 k→k<w1.heap.size→cx k)
def Lj (gs:List (Nat×Bool))(J:Nat)(x:PE):PE:=
 match gs with
 |[]=>.app (.o J) (.lst [x])
 |_=>.pick (.nt (.imp gs (.con (.v (.bool false))))) (.app (.o J) (.lst [x])) (.o J)
def H6 (C:Ctx)(S:St)(ops:Array Oper)(o:Oper):Option (St×List PI):=
 match o.dst,o.op,C.yl with
 |some dst,.call {callee:=.value (.tmp t),args:=args,..},some (J,ys)=>
  (zn S ops o).bind fun gs=>
    match pg S gs t with
    |.yv=>
     match(S.fzs (ew S gs args.toList)).o J with
     |.tr=>
      (qy C (S.fzs (ew S gs args.toList)) gs args.toList).bind fun u=>
        bif Ty.subs u.1 ys then some ((S.fzs (ew S gs args.toList)).setR dst (ri gs (.dat .bool)),[.setO J (Lj gs J (.tup u.2)),.call gs dst lP [.o J]]) else none
     |_=>none
    |_=>none
 |_,_,_=>none
def vi (C:Ctx)(S:St)(ops:Array Oper)(o:Oper):Option (St×List PI):=
 match H6 C S ops o with
 |some r=>some r
 |none=>B5 C S ops o
section
variable {C:Ctx} {S:St} {ρ:Env} {σ:Im} {own:Nat→Option Nat} {hv:Nat→Value} {w0:World} {σ0:Base} {A:Nat→Prop} {a:Act} {w:World} {gs:List (Nat×Bool)} {Φ:aR} {dst:Nat}
theorem as8 (gs:List (Nat×Bool))(J:Nat)(x:PE)(ρ:Env):(Lj gs J x).ev ρ=if holds gs ρ=true then .list ((ρ.o J).l++[x.ev ρ]) else ρ.o J:=by
 cases gs with
 |nil=>simp[Lj,PE.ev,PE.evs,holds,D.l_list]
 |cons g gs=>
  simp only[Lj,PE.ev,PE.evs,D.b_bool,D.l_list,LK,Bool.not_not];cases holds (g::gs) ρ<;>rfl
theorem Inv.yielded (h:Inv C S ρ σ own hv w0 σ0 A a w)(hB:σ0.B=0){J:Nat}{ys:List Ty}(hJ:C.yl=some (J,ys))(Iv:S.o J=.tr){w2:World}(hb:Below 0 w w2){t:D}{fx cx:Nat→Prop}(hf:FrOK σ own w0.heap.size σ0 w t fx cx)
 (hs:∀k,k<w.heap.size→¬cx k→w2.heap[k]?=w.heap[k]?) {t':D} {l9 l6:Nat→Prop} (hF:σ0.F t' l9 l6 w2)
 (h1:∀k,l9 k→k<w.heap.size→fx k∨(∃o x,σ.c k o=some x)∨(∃x,σ.m k=some x∧x≠fl)) (h2:∀k,l6 k→k<w.heap.size→cx k):Inv C S (ρ.setO J t') σ own hv w0 σ0 A a w2:=by
 have cJ:=σ0.sub _ _ _ _ hf.F;have je:∀k o x,σ.c k o=some x→w2.heap[k]?=w.heap[k]?:=fun k o x e=>hs k (h.lt e) (hf.c k o x e);have hms:∀k x,σ.m k=some x→w2.heap[k]?=w.heap[k]?:=fun k x e=>hs k (h.ltm e) (hf.m k x e);have hos:∀k j,own k=some j→w2.heap[k]?=w.heap[k]?:=fun k j e=>hs k (h.owns k j e).2.1 fun hc=>hf.own k j e (cJ k hc)
 refine⟨h.defers,⟨fun k o v e=>by rw[World.cell?_of_block (je k o v e)];exact h.ok.c k o v e,fun k x e=>(h.ok.m k x e).keep (hms k x e)⟩,h.le,h.old,h.newc,h.newm,h.below.trans (hb.mono (by omega)),h.bw,
  fun k j e=>let⟨g1,g2,g3⟩:=h.owns k j e;⟨g1,FP g2 hb.size,g3⟩,fun u=>aT.mono (S:=S) (ρ:=ρ) (ρ':=ρ.setO J t') (.refl σ) (.refl S hv) (d:=ρ.r u) (fun _ _ _=>rfl) (fun gs s e=>(h.opts u gs s e).2) (h.regs u),fun j=>?_,h.opts,
  t',l9,l6,⟨hF,fun k j e hk=>?_,fun k o x e hc=>hf.c k o x e (h2 k hc (h.lt e)),fun k x e hc=>hf.m k x e (h2 k hc (h.ltm e)),fun k e hB2 hk=>?_⟩,fun j hj=>?_⟩
 ·by_cases zI:j=J
  ·subst zI;rw[Iv];trivial
  ·exact(h.objs j).mono (.refl σ) (.refl S hv) rfl (by simp[Env.setO,bO _ _ zI]) (fun k e=>⟨e,hos k j e⟩)
 ·obtain⟨_,g2,g3,g4⟩:=h.owns k j e;rcases h1 k hk g2 with e1|⟨o,x,e1⟩|⟨x,e1,_⟩
  ·exact hf.own k j e e1
  ·rw[g3 o] at e1;cases e1
  ·rw[g4] at e1;cases e1
 ·rcases h1 k hk (h.ltm e) with e1|⟨o,x,e1⟩|⟨x,e1,e2⟩
  ·exact hf.d k e hB2 e1
  ·have c1:=h.ok.c k o x e1;rcases h.ok.m k _ e with⟨m1,_⟩|⟨_,m2⟩
   ·exact m1 rfl
   ·simp[World.cell?,m2] at c1
  ·rw[e] at e1;cases e1;exact e2 rfl
 ·obtain⟨_,_,_,_,ht⟩:=h.frame;obtain⟨⟨ys',e1⟩,_⟩:=ht j hj;rw[hJ] at e1;cases e1;exact⟨⟨_,hJ⟩,aS _ _ _⟩
theorem ahA {rd:Option Nat}(h:Good C w0 σ0 S ρ A a w)(hC:CtxOK C σ0)(hY:qQ C Φ w0 σ0){ops:Array Oper}{o:Oper}(ht:∀d,o.dst=some d→¬A d∧d<a.tmps.size)
 (hj:∀j want t,o.guard=some (j,want)→(ops[j]?).bind (·.dst)=some t→A t) {r:St×List PI} (hr:H6 C S ops o=some r) {ρ':Env} (ax:PI.runs Φ r.2 ρ=some ρ')
 {K:Act→World→Prop} {Q:Exit→Act→World→Prop} (hK:∀a' w',Good C w0 σ0 r.1 ρ' (fun u=>A u∨o.dst=some u) a' w'→SameBut (fun t=>o.dst=some t) a a'→K a' w'):
 if Region.wanted o (yielded ops a.tmps) then o.wpIn (FR rd) 0 C.P a w K Q else K (a.put o.dst undef) w:=by
 unfold H6 at hr;split at hr
 case h_2=>cases hr
 rename_i _ _ dst t args ts J ys hd cZ my;simp only[aB] at hr;obtain⟨gs,dU,hr⟩:=hr;split at hr
 case h_2=>cases hr
 rename_i Dk;split at hr
 case h_2=>cases hr
 rename_i Iv;simp only[aB] at hr;obtain⟨u,hu,hr⟩:=hr;cases cJ:Ty.subs u.1 ys<;>simp only[cJ,cond_true,cond_false] at hr
 ·cases hr
 cases hr;have zD:=Yb h dU hj;rw[Yc h dU];obtain⟨σ,own,hv,i⟩:=h;obtain⟨σ1,jK,hle,i1⟩:=Inv.fzs (ew S gs args.toList) i;obtain⟨t1,t2⟩:=ht dst hd;have lu:(fun u=>A u∨o.dst=some u)=(fun u=>A u∨u=dst):=by funext u;rw[hd];simp[eq_comm]
 rw[lu] at hK;simp only[PI.runs,PI.run,uU,as8,aB] at ax;cases hh:holds gs ρ with
 |false=>
  simp only[hh,xx,if_false] at ax ⊢;have e1:ρ.setO J (ρ.o J)=ρ:=by
   cases ρ with|mk r o=>simp only[Env.setO];congr 1;funext x;rw[gj];split<;>simp_all
  rw[e1,hh] at ax;obtain⟨ρ1,e2,e3⟩:=ax;cases e2;cases e3;cases gs with
  |nil=>simp[holds] at hh
  |cons g bT=>
   have C0:=i1.passed t1 t2 zD hh (s:=.dat .bool) (fun _ _ e=>by cases e) (ρ.r dst);have e4:ρ.setR dst (ρ.r dst)=ρ:=by
        cases ρ with|mk r o=>simp only[Env.setR];congr 1;funext x;rw[gj];split<;>simp_all
   rw[e4] at C0;rw[hd];exact hK _ _ ⟨_,_,_,C0⟩ (by rw[hd];exact SameBut.put a (some dst) undef a.defers)
 |true=>
  simp only[hh,if_true] at ax ⊢;have kr:=LB i1 hC hh hu cJ;obtain⟨tr,fx,cx,hf,Dc⟩:=i1.frame;obtain⟨_,hρJ⟩:=Dc J Iv;obtain⟨hB,alN,Ph⟩:=hY J ys my;obtain⟨xs,rfl⟩:=alN _ _ _ _ hf.F;rw[hρJ] at ax;simp only[D.l_list,PE.ev] at ax;obtain⟨ρ1,e2,e3⟩:=ax;cases e3;have YY:holds gs (ρ.setO J (.list (xs++[.tup (PE.evs ρ u.2)])))=true:=hh;rw[YY] at e2;simp only[cond_true,PE.evs,PE.ev,Env.setO,aS,aK] at e2;obtain⟨d,e4,e5⟩:=e2;have hy:=Ph xs (PE.evs ρ u.2) d e4 fx cx w σ1 (args.toList.map a.eval) hf.F i1.ok kr hf.c hf.m i1.newc i1.newm;have cT:a.eval (.tmp t)=C.yv:=by
   have:=(sr i hh t).1;rw[Dk] at this;have h9:a.tmps.getD t undef=C.yv:=this;simpa [Act.eval] using h9
  refine hy rd o a (.tmp t) args ts K Q cZ cT rfl fun v w2 oH=>?_;obtain⟨b,rfl,rfl,hb,hs,l9,l6,hF,h1,h2⟩:=oH;have i2:=i1.yielded hB my Iv hb hf hs hF h1 h2;refine hK _ _ ?_ (SameBut.put a _ _ a.defers);rw[hd,←e5];change Good C w0 σ0 _ ((ρ.setO J (.list (xs++[.tup (PE.evs ρ u.2)]))).setR dst (.v (.bool b))) _ _ _;have hh3:holds gs ((ρ.setO J (.list (xs++[.tup (PE.evs ρ u.2)]))).setR dst (.v (.bool b)))=true:=by
   rw[CX (t:=dst) fun g hm e=>t1 (by rw[←e];exact zD g hm)];exact YY
  cases gs with
  |nil=>exact⟨_,_,_,i2.setReg t1 (s:=.dat .bool) (.bool b) t2 (fun _ _ e=>by cases e)⟩
  |cons g bT=>
   refine⟨_,_,_,i2.setReg t1 (s:=.opt (g::bT) (.dat .bool)) ⟨fun _=>.bool b,fun e=>absurd (hh3.symm.trans e) (by decide)⟩ t2 (fun gs s e=>?_)⟩;cases e;exact⟨zD,fun _ _ e=>by cases e⟩
theorem Xr {rd:Option Nat}(h:Good C w0 σ0 S ρ A a w)(hC:CtxOK C σ0)(bD:dP C)(hΦ:dz C Φ)(hY:qQ C Φ w0 σ0){ops:Array Oper}{o:Oper}(bS:p8 o.op=true)(ht:∀d,o.dst=some d→¬A d∧d<a.tmps.size)
 (hj:∀j want t,o.guard=some (j,want)→(ops[j]?).bind (·.dst)=some t→A t) {r:St×List PI} (hr:vi C S ops o=some r) {ρ':Env} (ax:PI.runs Φ r.2 ρ=some ρ')
 {K:Act→World→Prop} {Q:Exit→Act→World→Prop} (hK:∀a' w',Good C w0 σ0 r.1 ρ' (fun u=>A u∨o.dst=some u) a' w'→SameBut (fun t=>o.dst=some t) a a'→K a' w'):
 if Region.wanted o (yielded ops a.tmps) then o.wpIn (FR rd) 0 C.P a w K Q else K (a.put o.dst undef) w:=by
 unfold vi at hr;split at hr
 ·rename_i q hq;cases hr;exact ahA h hC hY ht hj hq ax hK
 ·have:=ahz (K:=fun a' w'=>SameBut (fun t=>o.dst=some t) a a'→K a' w') (Q:=Q) h hC bD hΦ ht hj hr ax (fun a' w' g _ hs=>hK a' w' g hs);split
  ·rename_i hw;rw[if_pos hw] at this;exact ac4 bS (Oper.wp_same this)
  ·rename_i hw;rw[if_neg hw] at this;exact this (SameBut.put a _ _ a.defers)
end
def sS (C:Ctx)(ops:Array Oper):List Nat→St→Option (St×List PI)
 |[],S=>some (S,[])
 |i::l,S=>
  match ops[i]? with
  |some o=>(vi C S ops o).bind fun r=>(sS C ops l r.1).map fun q=>(q.1,r.2++q.2)
  |none=>none
def AX (n:Nat)(ops:Array Oper):Bool:=
 lE (ops.toList.filterMap (·.dst))&&ops.toList.all fun o=>p8 o.op&&match o.dst with|some d=>Nat.blt d n|none=>true
section
variable {C:Ctx} {S:St} {ρ:Env} {σ:Im} {own:Nat→Option Nat} {hv:Nat→Value} {w0:World} {σ0:Base} {A:Nat→Prop} {a:Act} {w:World} {gs:List (Nat×Bool)} {Φ:aR} {dst:Nat}
def xh (ops:Array Oper)(done:List Nat):Nat→Prop:=fun t=>∃i o,i∈done∧ops[i]?=some o∧o.dst=some t
theorem H5.dst_once {ops:Array Oper}(bS:(ops.toList.filterMap (·.dst)).Nodup){i j:Nat}{o o':Oper}{d:Nat}(hi:ops[i]?=some o)(hj:ops[j]?=some o')(hd:o.dst=some d)(eJ:o'.dst=some d)(aC:i≠j):False:=by
 have key:∀(l:List Oper),(l.filterMap (·.dst)).Nodup→∀(i j:Nat) (o o':Oper),l[i]?=some o→l[j]?=some o'→o.dst=some d→o'.dst=some d→i=j:=by
  intro l
  induction l with
  |nil=>intro _ i j o o' hi;simp at hi
  |cons x l ih=>
   intro bS i j o o' hi hj hd eJ;have cI:∀(k:Nat) (y:Oper),l[k]?=some y→y.dst=some d→d∈l.filterMap (·.dst):=fun k y hk hy=>xF.2 ⟨y,sH hk,hy⟩;cases hx:x.dst with
   |none=>
    rw[List.filterMap_cons_none hx] at bS;cases i with
    |zero=>simp at hi;subst hi;rw[hx] at hd;cases hd
    |succ i=>
     cases j with
     |zero=>simp at hj;subst hj;rw[hx] at eJ;cases eJ
     |succ j=>simp at hi hj;rw[ih bS i j o o' hi hj hd eJ]
   |some y=>
    rw[List.filterMap_cons_some hx,sI] at bS;cases i with
    |zero=>
     simp at hi;subst hi;rw[hx] at hd;cases hd;cases j with
     |zero=>rfl
     |succ j=>simp at hj;exact absurd (cI j o' hj eJ) bS.1
    |succ i=>
     cases j with
     |zero=>
      simp at hj;subst hj;rw[hx] at eJ;cases eJ;simp at hi;exact absurd (cI i o hi hd) bS.1
     |succ j=>simp at hi hj;rw[ih bS.2 i j o o' hi hj hd eJ]
 exact aC (key ops.toList bS i j o o' (by simpa using hi) (by simpa using hj) hd eJ)
def za (ops:Array Oper):Nat→Prop:=fun t=>∃o,o∈ops.toList∧o.dst=some t
theorem H5 (hC:CtxOK C σ0)(bD:dP C)(hΦ:dz C Φ)(hY:qQ C Φ w0 σ0){ops:Array Oper}{n:Nat}(az:AX n ops=true){rd:Option Nat}{Q:Exit→Act→World→Prop}:
 ∀(l done:List Nat) {S:St} {ρ ρ':Env} {a:Act} {w:World} {r:St×List PI},(done++l).Nodup→(∀p i q o j want,l=p++i::q→ops[i]?=some o→o.guard=some (j,want)→j∈done++p)→
  a.tmps.size=n→Good C w0 σ0 S ρ (xh ops done) a w→sS C ops l S=some r→PI.runs Φ r.2 ρ=some ρ'→
  (∀a' w',SameBut (za ops) a a'→Good C w0 σ0 r.1 ρ' (xh ops (done++l)) a' w'→Q .normal a' w')→wpOpsIn (FR rd) 0 C.P ops Q l a w:=by
 simp only[AX,ay] at az;have bS:=rK az.1;intro l
 induction l with
 |nil=>
  intro done S ρ ρ' a w r _ _ bh h hr ax hQ;simp only[sS,bp] at hr;subst hr;rw[nL ax] at hQ;simp only[wpOpsIn];exact hQ a w (.refl _ _) (by simpa using h)
 |cons i l ih=>
  intro done S ρ ρ' a w r Oe mf bh h hr ax hQ;simp only[sS] at hr;split at hr
  case h_2=>cases hr
  rename_i o ho;simp only[aB,aK] at hr;obtain⟨r1,nj,q,hq,rfl⟩:=hr;simp only[sn,aB] at ax;obtain⟨ρ1,hρ1,hρ2⟩:=ax;have Og:∀d,o.dst=some d→¬xh ops done d∧d<a.tmps.size:=by
   intro d hd;refine⟨fun⟨i',o',fo,fp,eJ⟩=>?_,?_⟩
   ·
        have aC:i'≠i:=by
         intro e;subst e;rw[Bm] at Oe;exact Oe.2.2 i' fo i' (fF ..) rfl
        exact H5.dst_once bS fp ho eJ hd aC
   ·have:=eQ.1 az.2 o (by
     have:=nQ ho;simpa using this)
    simp only[hd,ay] at this;rw[bh];simpa [py] using this.2
  have hj:∀j want t,o.guard=some (j,want)→(ops[j]?).bind (·.dst)=some t→xh ops done t:=by
   intro j want t hg ht;have:=mf [] i l o j want rfl ho hg;simp only[qG] at this;rw[aB] at ht;obtain⟨oj,h1,h2⟩:=ht;exact⟨j,oj,this,h1,h2⟩
  have ly:p8 o.op=true:=by
   have:=eQ.1 az.2 o (by simpa using nQ ho);simp only[ay] at this;exact this.1
  have main:=Xr (rd:=rd) (K:=wpOpsIn (FR rd) 0 C.P ops Q l) (Q:=Q) h hC bD hΦ hY ly Og hj nj hρ1 (fun a' w' j2 oK=>by
   have tG:=oK.size;refine ih (done++[i]) (by simpa using Oe) (fun p i' q' o' j want e fp alj=>?_) (tG.trans bh) ?_ hq hρ2 (fun a2 w2 s2 g2=>hQ a2 w2 ((oK.mono fun t e=>⟨o,by simpa using nQ ho,e⟩).trans s2) (by simpa using g2))
   ·have:=mf (i::p) i' q' o' j want (by rw[e];rfl) fp alj;simpa using this
   ·have:(fun u=>xh ops done u∨o.dst=some u)=xh ops (done++[i]):=by
     funext u;apply propext;constructor
     ·rintro(⟨i',o',h1,h2,h3⟩|h1)
      ·exact⟨i',o',by simp[h1],h2,h3⟩
      ·exact⟨i,o,by simp,ho,h1⟩
     ·rintro⟨i',o',h1,h2,h3⟩;rcases dp.1 h1 with h4|h4
      ·exact .inl ⟨i',o',h4,h2,h3⟩
      ·simp at h4;subst h4;rw[ho] at h2;cases h2;exact .inr h3
    rw[←this];exact j2)
  simp only[wpOpsIn,ho];split
  ·rename_i hw;rw[if_pos hw] at main;exact main
  ·rename_i hw;rw[if_neg hw] at main;exact⟨fun _ _=>trivial,main⟩
end
end Cx
namespace Cx
open Go Go.RowKit
def gQ (S:St):Sh→Sh
 |.none=>.none
 |.dat t=>.dat t
 |.obj j ver=>bif Nat.beq ver (S.ver j) then .obj j 0 else .none
 |.ptr j ver off=>bif Nat.beq ver (S.ver j) then .ptr j 0 off else .none
 |.eptr j ver size off=>bif Nat.beq ver (S.ver j) then .eptr j 0 size off else .none
 |.opt _ _=>.none
 |.yv=>.yv
 |.fclo f caps=>bif caps.all (fun c=>Nat.beq c.2 (S.ver c.1)) then .fclo f (caps.map fun c=>(c.1,0)) else .none
def iN (S:St):Ob→Ob
 |.box ag aJ=>.box ag (aJ.map (gQ S))
 |ob=>ob
def St.norm (S:St):St:=⟨fun t=>gQ S (S.r t),fun j=>iN S (S.o j),fun _=>0⟩
def iM:Sh→Sh→Sh
 |.dat a,.dat b=>bif Ty.sub a b then .dat b else bif Ty.sub b a then .dat a else .none
 |.obj j v,.obj k u=>bif Nat.beq j k&&Nat.beq v u then .obj j v else .none
 |.ptr j v o,.ptr k u p=>bif Nat.beq j k&&Nat.beq v u&&Nat.beq o p then .ptr j v o else .none
 |.eptr j v s o,.eptr k u t p=>bif Nat.beq j k&&Nat.beq v u&&Nat.beq s t&&Nat.beq o p then .eptr j v s o else .none
 |.yv,.yv=>.yv
 |.fclo f a,.fclo g b=>bif Nat.beq f g&&vc a b then .fclo f a else .none
 |_,_=>.none
def wz:List Sh→List Sh→Option (List Sh)
 |[],[]=>some []
 |a::aa,b::bs=>(wz aa bs).map (iM a b::·)
 |_,_=>none
def mF:Ob→Ob→Ob
 |.fz a,.fz b=>bif Ty.beq a b then .fz a else .dead
 |.fbox a,.fbox b=>bif Ty.beq a b then .fbox a else .dead
 |.box ag aa,.box bg bs=>bif ag==bg then(match wz aa bs with|some cs=>.box ag cs|none=>.dead) else .dead
 |.row T e,.row U f=>bif Nat.beq T U&&Ty.beq e f then .row T e else .dead
 |.mp k e,.mp l f=>bif Ty.beq k l&&Ty.beq e f then .mp k e else .dead
 |.it k e,.it l f=>bif Ty.beq k l&&Ty.beq e f then .it k e else .dead
 |.tr,.tr=>.tr
 |_,_=>.dead
section
variable {C:Ctx} {S:St} {ρ:Env} {σ:Im} {own:Nat→Option Nat} {hv:Nat→Value} {w0:World} {σ0:Base} {A:Nat→Prop} {a:Act} {w:World} {gs:List (Nat×Bool)} {Φ:aR} {dst:Nat}
theorem Jv {s:Sh}{v:Value}{d:D}(h:aT C S ρ σ hv s v d):aT C S.norm ρ σ hv (gQ S s) v d∧∀gs s',gQ S s≠.opt gs s':=by
 cases s with
 |none=>exact⟨trivial,fun _ _ e=>by cases e⟩
 |dat t=>exact⟨h,fun _ _ e=>by cases e⟩
 |obj j ver=>
  simp only[gQ];cases hb:Nat.beq ver (S.ver j)
  ·exact⟨trivial,fun _ _ e=>by cases e⟩
  ·exact⟨⟨bJ _,fun _=>h.2 (aG hb)⟩,fun _ _ e=>by cases e⟩
 |ptr j ver off=>
  simp only[gQ];cases hb:Nat.beq ver (S.ver j)
  ·exact⟨trivial,fun _ _ e=>by cases e⟩
  ·exact⟨⟨bJ _,fun _=>h.2 (aG hb)⟩,fun _ _ e=>by cases e⟩
 |eptr j ver size off=>
  simp only[gQ];cases hb:Nat.beq ver (S.ver j)
  ·exact⟨trivial,fun _ _ e=>by cases e⟩
  ·exact⟨⟨bJ _,fun _=>h.2 (aG hb)⟩,fun _ _ e=>by cases e⟩
 |opt gs s=>exact⟨trivial,fun _ _ e=>by cases e⟩
 |yv=>exact⟨h,fun _ _ e=>by cases e⟩
 |fclo f caps=>
  simp only[gQ];cases hb:caps.all (fun c=>Nat.beq c.2 (S.ver c.1))
  ·exact⟨trivial,fun _ _ e=>by cases e⟩
  ·refine⟨?_,fun _ _ e=>by cases e⟩;obtain⟨vs,h1,h2,h3⟩:=h;refine⟨vs,h1,by simpa using h2,fun i j ver hi=>?_⟩;simp only[dm,aK] at hi;obtain⟨⟨j',v'⟩,hc,e⟩:=hi;cases e;have:=eQ.1 hb _ (sH hc);exact⟨bJ _,fun _=>(h3 i _ _ hc).2 (aG this)⟩
theorem Inv.weaken (h:Inv C S ρ σ own hv w0 σ0 A a w){S':St}{ρ':Env}(hr:∀t,aT C S' ρ' σ hv (S'.r t) (a.tmps.getD t undef) (ρ'.r t))(ho:∀j,dI C S' ρ' σ own hv w w0.heap.size j (S'.o j))
 (hn:∀t gs s,S'.r t≠.opt gs s) (ht:∀j,S'.o j=.tr→S.o j=.tr∧ρ'.o j=ρ.o j):Inv C S' ρ' σ own hv w0 σ0 (fun _=>False) a w:=
 ⟨h.defers,h.ok,h.le,h.old,h.newc,h.newm,h.below,h.bw,h.owns,hr,ho,fun t gs s e=>absurd e (hn t gs s),by
   obtain⟨t,fx,cx,h1,h5⟩:=h.frame;exact⟨t,fx,cx,h1,fun j hj=>by rw[(ht j hj).2];exact h5 j (ht j hj).1⟩⟩
theorem aa0 {ob:Ob}(h:iN S ob=.tr):ob=.tr:=by
 cases ob<;>simp only[iN] at h<;>first|rfl|cases h
theorem apq {x y:Ob}(h:mF x y=.tr):x=.tr∧y=.tr:=by
 cases x<;>cases y<;>simp only[mF] at h<;>first
  |exact⟨rfl,rfl⟩
  |(cases h;done)
  |skip
 ·rename_i a b;cases hb:Ty.beq a b<;>rw[hb] at h<;>cases h
 ·rename_i a b;cases hb:Ty.beq a b<;>rw[hb] at h<;>cases h
 ·rename_i ag aa bg bs;cases hb:ag==bg<;>rw[hb] at h
  ·cases h
  ·simp only[cond_true] at h;split at h<;>cases h
 ·rename_i T e U f;cases hb:(Nat.beq T U&&Ty.beq e f)<;>rw[hb] at h<;>cases h
 ·rename_i T e U f;cases hb:(Ty.beq T U&&Ty.beq e f)<;>rw[hb] at h<;>cases h
 ·rename_i T e U f;cases hb:(Ty.beq T U&&Ty.beq e f)<;>rw[hb] at h<;>cases h
theorem Inv.norm (h:Inv C S ρ σ own hv w0 σ0 A a w):Inv C S.norm ρ σ own hv w0 σ0 (fun _=>False) a w:=by
 refine h.weaken (fun t=>(Jv (h.regs t)).1) (fun j=>?_) (fun t=>(Jv (h.regs t)).2) (fun j hj=>⟨aa0 hj,rfl⟩);have bC:=h.objs j;show dI C S.norm ρ σ own hv w w0.heap.size j (iN S (S.o j));cases cS:S.o j with
 |box ag aJ=>
  rw[cS] at bC;obtain⟨k,cs,T,ds,h1,h2,h3,h4,h5,h6,h7⟩:=bC;refine⟨k,cs,T,ds,h1,h2,h3,by simpa using h4,h5,by simpa using h6,fun i s hi=>?_⟩;simp only[dm,aK] at hi;obtain⟨s0,OX,rfl⟩:=hi;have:=Jv (h7 i s0 OX).2;exact⟨this.2,this.1⟩
 |_=>rw[cS] at bC;exact bC
theorem Ga {b:Bool}{s:Sh}{v:Value}{d:D}(hs:∀gs s',s≠.opt gs s')(h:b=true→aT C S ρ σ hv s v d):aT C S ρ σ hv (bif b then s else .none) v d∧∀gs s',(bif b then s else Sh.none)≠.opt gs s':=by
 cases b with
 |true=>exact⟨h rfl,hs⟩
 |false=>exact⟨trivial,fun _ _ e=>by cases e⟩
theorem aaS {s u:Sh}{v:Value}{d:D}(h:aT C S ρ σ hv s v d):aT C S ρ σ hv (iM s u) v d∧∀gs s',iM s u≠.opt gs s':=by
 cases s<;>cases u<;>simp only[iM]<;>first
  |exact⟨trivial,fun _ _ e=>by cases e⟩
  |exact Ga (fun _ _ e=>by cases e) (fun _=>h)
  |exact⟨h,fun _ _ e=>by cases e⟩
  |skip
 rename_i a b;cases h1:Ty.sub a b
 ·exact Ga (fun _ _ e=>by cases e) (fun _=>h)
 ·exact⟨Rep.sub h h1,fun _ _ e=>by cases e⟩
theorem aaT {s u:Sh}{v:Value}{d:D}(h:aT C S ρ σ hv u v d):aT C S ρ σ hv (iM s u) v d∧∀gs s',iM s u≠.opt gs s':=by
 cases s<;>cases u<;>simp only[iM]<;>first
  |exact⟨trivial,fun _ _ e=>by cases e⟩
  |exact⟨h,fun _ _ e=>by cases e⟩
  |skip
 ·rename_i a b;cases h1:Ty.sub a b
  ·exact Ga (fun _ _ e=>by cases e) (fun h2=>Rep.sub h h2)
  ·exact⟨h,fun _ _ e=>by cases e⟩
 all_goals
  refine Ga (fun _ _ e=>by cases e) (fun hb=>?_);simp only[ay] at hb
  first
   |(obtain⟨⟨⟨h1,h2⟩,h3⟩,h4⟩:=hb;rw[aG h1,aG h2,aG h3,aG h4];exact h)
   |(obtain⟨⟨h1,h2⟩,h3⟩:=hb;rw[aG h1,aG h2,aG h3];exact h)
   |(obtain⟨h1,h2⟩:=hb;rw[aG h1,aG h2];exact h)
   |(obtain⟨h1,h2⟩:=hb;rw[aG h1,Nk _ _ h2];exact h)
theorem PD:∀(aa bs cs:List Sh),wz aa bs=some cs→cs.length=aa.length∧cs.length=bs.length∧∀(i:Nat) (c:Sh),cs[i]?=some c→∃x y,aa[i]?=some x∧bs[i]?=some y∧c=iM x y
 |[],[],cs,h=>by simp[wz] at h;subst h;simp
 |[],b::bs,cs,h=>by simp[wz] at h
 |a::aa,[],cs,h=>by simp[wz] at h
 |a::aa,b::bs,cs,h=>by
  simp only[wz,aK] at h;obtain⟨ds,hd,rfl⟩:=h;obtain⟨h1,h2,h3⟩:=PD aa bs ds hd;refine⟨by simp[h1],by simp[h2],fun i c hi=>?_⟩;cases i with
  |zero=>simp at hi;exact⟨a,b,rfl,rfl,hi.symm⟩
  |succ i=>simp at hi;simpa using h3 i c hi
theorem apn {j B:Nat}{x y:Ob}(h:dI C S ρ σ own hv w B j x):dI C S ρ σ own hv w B j (mF x y):=by
 cases x<;>cases y<;>simp only[mF]<;>first
  |trivial
  |(rename_i a b;cases Ty.beq a b;·trivial
    ·exact h)
  |skip
 ·rename_i ag aa bg bs;cases ag==bg
  ·trivial
  ·simp only[cond_true];split
   ·rename_i cs je;obtain⟨l1,l2,tj⟩:=PD aa bs cs je;obtain⟨k,cells,T,ds,h1,h2,h3,h4,h5,h6,h7⟩:=h;refine⟨k,cells,T,ds,h1,h2,h3,by omega,h5,by omega,fun i s hi=>?_⟩;obtain⟨x,y,hx,hy,rfl⟩:=tj i s hi;have:=aaS (u:=y) (h7 i x hx).2;exact⟨this.2,this.1⟩
   ·trivial
 ·rename_i T e U f;cases Nat.beq T U&&Ty.beq e f
  ·trivial
  ·exact h
 ·rename_i T e U f;cases Ty.beq T U&&Ty.beq e f
  ·trivial
  ·exact h
 ·rename_i T e U f;cases Ty.beq T U&&Ty.beq e f
  ·trivial
  ·exact h
theorem apo {j B:Nat}{x y:Ob}(h:dI C S ρ σ own hv w B j y):dI C S ρ σ own hv w B j (mF x y):=by
 cases x<;>cases y<;>simp only[mF]<;>first
  |trivial
  |skip
 ·rename_i a b;cases hb:Ty.beq a b
  ·trivial
  ·rw[Ty.beq_eq _ _ hb];exact h
 ·rename_i a b;cases hb:Ty.beq a b
  ·trivial
  ·rw[Ty.beq_eq _ _ hb];exact h
 ·rename_i ag aa bg bs;cases ag==bg
  ·trivial
  ·simp only[cond_true];split
   ·rename_i cs je;obtain⟨l1,l2,tj⟩:=PD aa bs cs je;obtain⟨k,cells,T,ds,h1,h2,h3,h4,h5,h6,h7⟩:=h;refine⟨k,cells,T,ds,h1,h2,h3,by omega,h5,by omega,fun i s hi=>?_⟩;obtain⟨x,y,hx,hy,rfl⟩:=tj i s hi;have:=aaT (s:=x) (h7 i y hy).2;exact⟨this.2,this.1⟩
   ·trivial
 ·rename_i T e U f;cases hb:(Nat.beq T U&&Ty.beq e f)
  ·trivial
  ·simp only[ay] at hb;rw[aG hb.1,Ty.beq_eq _ _ hb.2];exact h
 ·rename_i T e U f;cases hb:(Ty.beq T U&&Ty.beq e f)
  ·trivial
  ·simp only[ay] at hb;rw[Ty.beq_eq _ _ hb.1,Ty.beq_eq _ _ hb.2];exact h
 ·rename_i T e U f;cases hb:(Ty.beq T U&&Ty.beq e f)
  ·trivial
  ·simp only[ay] at hb;rw[Ty.beq_eq _ _ hb.1,Ty.beq_eq _ _ hb.2];exact h
end
end Cx
namespace Cx
open Go Go.RowKit
section
variable {C:Ctx} {S T:St} {ρ ρ':Env} {σ:Im} {own:Nat→Option Nat} {hv:Nat→Value} {w0:World} {σ0:Base} {A:Nat→Prop} {a:Act} {w:World} {gs:List (Nat×Bool)} {Φ:aR} {dst:Nat}
theorem Inv.env (h:Inv C S ρ σ own hv w0 σ0 (fun _=>False) a w)(hn:∀t gs s,S.r t≠.opt gs s)(hr:∀t,isNone (S.r t)=false→ρ'.r t=ρ.r t)(ho:∀j,pY (S.o j)=false→ρ'.o j=ρ.o j):
 Inv C S ρ' σ own hv w0 σ0 (fun _=>False) a w:=by
 refine h.weaken (fun t=>?_) (fun j=>?_) hn (fun j hj=>⟨hj,ho j (by rw[hj];rfl)⟩)
 ·cases hs:isNone (S.r t) with
  |true=>cases hc:S.r t<;>rw[hc] at hs<;>simp[isNone] at hs;trivial
  |false=>
   rw[hr t hs];exact aT.mono' (.refl σ) (.refl S hv) (hn t) (h.regs t)
 ·cases hs:pY (S.o j) with
  |true=>cases hc:S.o j<;>rw[hc] at hs<;>simp[pY] at hs;trivial
  |false=>exact(h.objs j).mono (.refl σ) (.refl S hv) rfl (ho j hs) (fun k hk=>⟨hk,rfl⟩)
end
end Cx
namespace Cx
open Go Go.RowKit
structure Snap where
 rs:List Sh
 os:List Ob
 deriving Inhabited
def dX:List Nat→List Ob→Nat→Ob
 |i::is,o::os,j=>bif Nat.beq i j then o else dX is os j
 |_,_,_=>.dead
def cG:Sh→Sh
 |.opt _ _=>.none
 |s=>s
def Snap.st (ids:List Nat)(s:Snap):St:=⟨fun t=>cG (s.rs.getD t .none),fun j=>dX ids s.os j,fun _=>0⟩
def St.snap (n:Nat)(ids:List Nat)(S:St):Snap:=⟨(List.range n).map fun t=>gQ S (S.r t),ids.map fun j=>iN S (S.o j)⟩
def Snap.beq (a b:Snap):Bool:=xm a.rs b.rs&&Ap a.os b.os
theorem Snap.beq_eq (a b:Snap)(h:a.beq b=true):a=b:=by
 cases a;cases b;simp only[Snap.beq,ay] at h;rw[Tb _ _ h.1,aa6 _ _ h.2]
def Snap.meet (a b:Snap):Snap:=⟨List.zipWith iM a.rs b.rs,List.zipWith mF a.os b.os⟩
theorem awg (s:Sh):∀gs s',cG s≠.opt gs s':=by
 intro gs s' e;cases s<;>simp[cG] at e
theorem Snap.noOpt (ids:List Nat)(s:Snap):∀t gs s',(s.st ids).r t≠.opt gs s':=fun t=>awg _
section
variable {C:Ctx} {S:St} {ρ:Env} {σ:Im} {own:Nat→Option Nat} {hv:Nat→Value} {w0:World} {σ0:Base} {A:Nat→Prop} {a:Act} {w:World} {n:Nat} {ids:List Nat}
theorem wu (f:Nat→Ob)(P:Ob→Prop)(hd:P .dead)(j:Nat)(hf:P (f j)):∀ids:List Nat,P (dX ids (ids.map f) j)
 |[]=>hd
 |i::is=>by
  simp only[iX,dX];cases hb:Nat.beq i j
  ·exact wu f P hd j hf is
  ·rw[aG hb];exact hf
theorem Wf {s:Sh}{v:Value}{d:D}(h:aT C S ρ σ hv s v d):aT C S ρ σ hv (cG s) v d:=by
 cases s<;>first|exact h|trivial
theorem Inv.snap (h:Inv C S ρ σ own hv w0 σ0 A a w)(n:Nat)(ids:List Nat):Inv C ((S.snap n ids).st ids) ρ σ own hv w0 σ0 (fun _=>False) a w:=by
 have h1:=h.norm;have hc:Compat S.norm hv ((S.snap n ids).st ids) hv:=⟨fun _=>bJ _,fun _ _=>rfl⟩
 refine h1.weaken (fun t=>?_) (fun j=>?_) (Snap.noOpt _ _) (fun j hj=>⟨wu (fun j=>iN S (S.o j)) (fun ob=>ob=.tr→iN S (S.o j)=.tr) (fun e=>by cases e) j id ids hj,rfl⟩)
 ·refine aT.mono' (ρ:=ρ) (.refl σ) hc (Snap.noOpt _ _ t) ?_;show aT C S.norm ρ σ hv (cG (((List.range n).map fun t=>gQ S (S.r t)).getD t .none)) _ _;refine Wf ?_;rw[be,dm];by_cases ht:t<n
  ·rw[pw ht];exact h1.regs t
  ·rw[qI (by simpa using ht)];trivial
 ·have ho:=(h1.objs j).mono (.refl σ) hc (w:=w) (w':=w) rfl rfl (fun k hk=>⟨hk,rfl⟩);exact wu (fun j=>iN S (S.o j)) (fun ob=>dI C _ ρ σ own hv w w0.heap.size j ob) trivial j ho ids
theorem LH {f:Sh→Sh→Sh}:∀(x y:List Sh) (t:Nat),(List.zipWith f x y).getD t .none=.none∨∃s u,x.getD t .none=s∧y.getD t .none=u∧(List.zipWith f x y).getD t .none=f s u
 |[],_,t=>.inl (by simp)
 |_::_,[],t=>.inl (by simp)
 |a::aa,b::bs,0=>.inr ⟨a,b,rfl,rfl,rfl⟩
 |a::aa,b::bs,t+1=>by simpa using LH (f:=f) aa bs t
theorem Jk {f:Ob→Ob→Ob}:∀(ids:List Nat) (x y:List Ob) (j:Nat),dX ids (List.zipWith f x y) j=.dead∨dX ids (List.zipWith f x y) j=f (dX ids x j) (dX ids y j)
 |[],_,_,_=>.inl rfl
 |_::_,[],_,_=>.inl rfl
 |_::_,_::_,[],_=>.inl rfl
 |i::is,a::aa,b::bs,j=>by
  simp only[List.zipWith_cons_cons,dX];cases Nat.beq i j
  ·exact Jk is aa bs j
  ·exact .inr rfl
theorem awe {s u:Sh}{v:Value}{d:D}(h:aT C S ρ σ hv (cG s) v d):aT C S ρ σ hv (cG (iM s u)) v d:=by
 cases hs:s with
 |opt gs s'=>cases u<;>simp[iM,cG,aT]
 |_=>rw[hs] at h;exact Wf (aaS h).1
theorem awf {s u:Sh}{v:Value}{d:D}(h:aT C S ρ σ hv (cG u) v d):aT C S ρ σ hv (cG (iM s u)) v d:=by
 cases hs:u with
 |opt gs s'=>cases s<;>simp[iM,cG,aT]
 |_=>rw[hs] at h;exact Wf (aaT h).1
theorem aaU {x y:Snap}{j:Nat}(h:((x.meet y).st ids).o j=.tr):(x.st ids).o j=.tr∧(y.st ids).o j=.tr:=by
 change dX ids (List.zipWith mF x.os y.os) j=.tr at h;rcases Jk (f:=mF) ids x.os y.os j with h0|h0
 ·rw[h0] at h;cases h
 ·rw[h0] at h;exact apq h
theorem Snap.meet_ok1 {x y:Snap}(h:Inv C (x.st ids) ρ σ own hv w0 σ0 A a w):Inv C ((x.meet y).st ids) ρ σ own hv w0 σ0 (fun _=>False) a w:=by
 have hc:Compat (x.st ids) hv ((x.meet y).st ids) hv:=⟨fun _=>bJ _,fun _ _=>rfl⟩
 refine h.weaken (fun t=>?_) (fun j=>?_) (Snap.noOpt _ _) (fun j hj=>⟨(aaU hj).1,rfl⟩)
 ·refine aT.mono' (ρ:=ρ) (.refl σ) hc (Snap.noOpt _ _ t) ?_;show aT C (x.st ids) ρ σ hv (cG ((List.zipWith iM x.rs y.rs).getD t .none)) _ _;rcases LH (f:=iM) x.rs y.rs t with h0|⟨s,u,h1,h2,h3⟩
  ·rw[h0];trivial
  ·rw[h3];exact awe (by rw[←h1];exact h.regs t)
 ·refine dI.mono (S:=x.st ids) (ρ:=ρ) (own:=own) (hv:=hv) (.refl σ) hc (w:=w) rfl rfl (fun k hk=>⟨hk,rfl⟩) ?_;show dI C _ ρ σ own hv w w0.heap.size j (dX ids (List.zipWith mF x.os y.os) j);rcases Jk (f:=mF) ids x.os y.os j with h0|h0
  ·rw[h0];trivial
  ·rw[h0];exact apn (h.objs j)
theorem Snap.meet_ok2 {x y:Snap}(h:Inv C (y.st ids) ρ σ own hv w0 σ0 A a w):Inv C ((x.meet y).st ids) ρ σ own hv w0 σ0 (fun _=>False) a w:=by
 have hc:Compat (y.st ids) hv ((x.meet y).st ids) hv:=⟨fun _=>bJ _,fun _ _=>rfl⟩
 refine h.weaken (fun t=>?_) (fun j=>?_) (Snap.noOpt _ _) (fun j hj=>⟨(aaU hj).2,rfl⟩)
 ·refine aT.mono' (ρ:=ρ) (.refl σ) hc (Snap.noOpt _ _ t) ?_;show aT C (y.st ids) ρ σ hv (cG ((List.zipWith iM x.rs y.rs).getD t .none)) _ _;rcases LH (f:=iM) x.rs y.rs t with h0|⟨s,u,h1,h2,h3⟩
  ·rw[h0];trivial
  ·rw[h3];exact awf (by rw[←h2];exact h.regs t)
 ·refine dI.mono (S:=y.st ids) (ρ:=ρ) (own:=own) (hv:=hv) (.refl σ) hc (w:=w) rfl rfl (fun k hk=>⟨hk,rfl⟩) ?_;show dI C _ ρ σ own hv w w0.heap.size j (dX ids (List.zipWith mF x.os y.os) j);rcases Jk (f:=mF) ids x.os y.os j with h0|h0
  ·rw[h0];trivial
  ·rw[h0];exact apo (h.objs j)
end
end Cx
namespace Cx
open Go Go.RowKit
def wk (C:Ctx)(S:St)(T:TypeId)(x:Operand):List Nat:=
 match jQ S [] x,oL C.P T,C.P.info? T with
 |.ptr j _ off,some true,some inf=>(match S.o j with|.box _ aJ=>BT ((aJ.drop off).take inf.size)|_=>[])
 |_,_,_=>[]
def KX (C:Ctx)(S:St):ResultVar→Option (St×Ty×PE)
 |.tmp t=>(use C (S.fzs (ew S [] [.tmp t])) [] (.tmp t)).map fun x=>(S.fzs (ew S [] [.tmp t]),x.1,x.2)
 |.cell b T=>
  match DH C (S.fzs (wk C S T (.tmp b))) [] 0 T (.tmp b) with
  |some (.dat ty,[.setR 0 e])=>some (S.fzs (wk C S T (.tmp b)),ty,e)
  |some (.obj j ver,[.setR _ _])=>
   bif Nat.beq ver (((S.fzs (wk C S T (.tmp b))).fz j).ver j) then
    match((S.fzs (wk C S T (.tmp b))).fz j).o j with
    |.fz ty=>some ((S.fzs (wk C S T (.tmp b))).fz j,ty,.o j)
    |_=>none
   else none
  |_=>none
def Fk (C:Ctx):List ResultVar→St→Option (St×List Ty×List PE)
 |[],S=>some (S,[],[])
 |x::xs,S=>(KX C S x).bind fun r=>(Fk C xs r.1).map fun q=>(q.1,r.2.1::q.2.1,r.2.2::q.2.2)
def aeG (C:Ctx)(fn:Func)(S:St)(res:Ty):Option PE:=
 (Fk C fn.results.toList S).bind fun r=>
    match r.2.1,r.2.2 with
    |[ty],[e]=>bif Ty.sub ty res then some e else none
    |mR,es=>bif Ty.sub (.tup mR) res then some (.tup es) else none
def aeH (C:Ctx)(fn:Func)(S:St)(T:TypeId)(e:Ty):Option PE:=
 match fn.results.toList with
 |[.tmp t]=>
  match pg S [] t with
  |.obj j ver=>bif Nat.beq ver (S.ver j) then(match S.o j with|.row U f=>bif Nat.beq U T&&Ty.beq f e then some (.o j) else none|_=>none) else none
  |_=>none
 |[.cell b U]=>
  match DH C S [] 0 U (.tmp b) with
  |some (.obj j ver,[.setR _ _])=>bif Nat.beq ver (S.ver j) then(match S.o j with|.row U f=>bif Nat.beq U T&&Ty.beq f e then some (.o j) else none|_=>none) else none
  |_=>none
 |_=>none
def xf (C:Ctx)(fn:Func)(s:Sig)(S:St):Option PE:=
 match s.mode with
 |.ob _ _=>none
 |.dat=>aeG C fn S s.res
 |.it J=>match fn.results.toList,S.o J with|[],.tr=>some (.o J)|_,_=>none
 |.row T e=>aeH C fn S T e
def KU (P:Program)(tmps:Array Value)(w:World):ResultVar→Value→Prop
 |.tmp t,v=>v=tmps.getD t undef
 |.cell a T,v=>∃k,tmps.getD a undef=.pointer (some k)∧(loadVar T k).run P w=.ok v w
def KV (P:Program)(tmps:Array Value)(w:World):List ResultVar→List Value→Prop
 |[],[]=>True
 |x::xs,v::vs=>KU P tmps w x v∧KV P tmps w xs vs
 |_,_=>False
def JQ:List Value→Value
 |[v]=>v
 |vs=>.tuple vs.toArray
section
variable {C:Ctx} {S:St} {ρ:Env} {σ:Im} {own:Nat→Option Nat} {hv:Nat→Value} {w0:World} {σ0:Base} {A:Nat→Prop} {a:Act} {w:World} {gs:List (Nat×Bool)} {Φ:aR} {dst:Nat}
theorem aaD {P:Program}{tmps:Array Value}{w:World}(f:ResultVar→Sem Value)(YK:∀t,f (.tmp t)=pure (tmps.getD t undef))(YL:∀b T,f (.cell b T)=(do loadVar T (←asAddr (tmps.getD b undef)))):
 ∀(l:List ResultVar) (vs:List Value),KV P tmps w l vs→(l.mapM f).run P w=.ok vs w
 |[],[],_=>by simp[Sem.run_pure]
 |x::l,v::vs,h=>by
  obtain⟨hx,Pg⟩:=h;have ih:=aaD f YK YL l vs Pg;rw[WE];have h1:(f x).run P w=.ok v w:=by
   cases x with
   |tmp t=>rw[YK];simp only[KU] at hx;subst hx;simp[Sem.run_pure]
   |cell b T=>
    obtain⟨k,h1,h2⟩:=hx;rw[YL,h1];simp[asAddr,h2]
  simp[Sem.run_bind,h1,ih,Sem.run_pure,Result.andThen_ok]
theorem KW {P:Program}{fn:Func}{tmps:Array Value}{w:World}{vs:List Value}(h:KV P tmps w fn.results.toList vs):
 (results fn tmps).run P w=.ok (JQ vs) w:=by
 unfold results;rw[Array.mapM_eq_mapM_toList];simp only[Sem.run_bind];simp only[bind_map_left,map_eq_pure_bind,Sem.run_bind,bind_assoc,pure_bind];rw[aaD (tmps:=tmps) _ (fun t=>rfl) (fun b T=>rfl) _ _ h];simp only[Result.andThen_ok,Sem.run_pure];rcases vs with _|⟨v,_|⟨u,vs⟩⟩<;>simp[Sem.run_pure,JQ]
theorem Pu {o:Oper}{T:TypeId}{b:Nat}{v:Value}(ho:o.op=.load T (.tmp b))(hx:(execOp a.eval o).run C.P w=.ok (.value v) w):KU C.P a.tmps w (.cell b T) v:=by
 have he:a.eval (.tmp b)=a.tmps.getD b undef:=by simp[Act.eval]
 simp only[execOp,ho,Instr.loadAt,he] at hx;cases hp:a.tmps.getD b undef with
 |pointer p=>
  cases p with
  |none=>rw[hp] at hx;simp[Instr.sureAddr] at hx
  |some k=>
   rw[hp] at hx;refine⟨k,hp,?_⟩;simp[Instr.sureAddr] at hx;cases hr:(loadVar T k).run C.P w with
   |ok u w'=>rw[hr] at hx;simp at hx;rw[hx.1,hx.2]
   |halt u w'=>rw[hr] at hx;simp at hx
 |_=>rw[hp] at hx;simp[Instr.sureAddr] at hx
theorem ar3 (h:Inv C S ρ σ own hv w0 σ0 A a w)(hC:CtxOK C σ0){x:ResultVar}{r:St×Ty×PE}(hr:KX C S x=some r):
 ∃σ' own' v,σ.le σ'∧Inv C r.1 ρ σ' own' hv w0 σ0 A a w∧KU C.P a.tmps w x v∧Rep C.cap σ' r.2.1 v (r.2.2.ev ρ):=by
 cases x with
 |tmp t=>
  simp only[KX,aK] at hr;obtain⟨y,hy,rfl⟩:=hr;obtain⟨σ1,jK,hle,h1⟩:=Inv.fzs (ew S [] [.tmp t]) h;refine⟨σ1,jK,a.tmps.getD t undef,hle,h1,rfl,?_⟩;have:=cv (gs:=[]) h1 hC rfl hy;simpa [Act.eval] using this
 |cell b T=>
  simp only[KX] at hr;obtain⟨σ1,jK,hle,h1⟩:=Inv.fzs (wk C S T (.tmp b)) h;generalize zp:S.fzs (wk C S T (.tmp b))=S1 at hr h1
  let o:Oper:={(default:Oper) with op:=.load T (.tmp b)}
  split at hr
  ·rename_i ty e hl;cases hr;have hq:=JR (Φ:=fun _ _=>none) (dst:=0) (gs:=[]) h1 hC rfl hl (o:=o) rfl;obtain⟨v,d,e1,e2,e3,e4⟩:=hq _ rfl;have hd:d=e.ev ρ:=by
        have:=congrArg (fun x:Env=>x.r 0) e1;simpa [Env.setR,aS] using this.symm
   subst hd;exact⟨σ1,jK,v,hle,h1,Pu rfl e2,e3⟩
  ·rename_i j ver t0 e0 hl;have hq:=JR (Φ:=fun _ _=>none) (dst:=0) (gs:=[]) h1 hC rfl hl (o:=o) rfl;obtain⟨v,d,e1,e2,e3,e4⟩:=hq _ rfl;cases hb:Nat.beq ver ((S1.fz j).ver j)<;>simp only[hb,cond_true,cond_false] at hr
   ·cases hr
   split at hr
   case h_2=>cases hr
   rename_i ty bn;cases hr;obtain⟨σ2,iP,tt,h2⟩:=h1.fz j;refine⟨σ2,iP,v,hle.trans tt,h2,Pu rfl e2,?_⟩;have ho:=h2.objs j;rw[bn] at ho;have fq:ver=S1.ver j:=by rw[aG hb,(NM S1 j).1]
   rw[e3.2 fq];exact ho.2
  ·cases hr
theorem aeF (hC:CtxOK C σ0):∀(l:List ResultVar) {S:St} {σ:Im} {own:Nat→Option Nat} {r:St×List Ty×List PE},Inv C S ρ σ own hv w0 σ0 A a w→Fk C l S=some r→
 ∃σ' own' vs,σ.le σ'∧Inv C r.1 ρ σ' own' hv w0 σ0 A a w∧KV C.P a.tmps w l vs∧vs.length=r.2.1.length∧r.2.2.length=r.2.1.length∧
  ∀(i:Nat) (t:Ty),r.2.1[i]?=some t→Rep C.cap σ' t (vs.getD i undef) ((PE.evs ρ r.2.2).getD i .none)
 |[],S,σ,own,r,h,hr=>by
  simp only[Fk,bp] at hr;subst hr;exact⟨σ,own,[],.refl σ,h,trivial,rfl,rfl,fun i t e=>by simp at e⟩
 |x::l,S,σ,own,r,h,hr=>by
  simp only[Fk,aB,aK] at hr;obtain⟨r1,h1,q,h2,rfl⟩:=hr;obtain⟨σ1,jK,v,hle,i1,hx,cB⟩:=ar3 h hC h1;obtain⟨σ2,iP,vs,tt,i2,Pg,zK,zL,zV⟩:=aeF hC l i1 h2;refine⟨σ2,iP,v::vs,hle.trans tt,i2,⟨hx,Pg⟩,by simp[zK],by simp[zL],fun i t e=>?_⟩;cases i with
  |zero=>simp at e;subst e;simpa [PE.evs] using cB.mono tt
  |succ i=>simp at e;simpa [PE.evs] using zV i t e
def FQ (C:Ctx)(s:Sig)(σ:Im)(own:Nat→Option Nat)(w0 w:World)(tmps:Array Value)(d:D)(v:Value):Prop:=True
theorem FQ.no {C:Ctx}{s:Sig}{σ:Im}{own:Nat→Option Nat}{w0 w:World}{tmps:Array Value}{d:D}{v:Value}(h:we s.mode=false):FQ C s σ own w0 w tmps d v:=trivial
def L9 (C:Ctx)(w0:World)(σ0:Base)(fn:Func)(s:Sig)(d:D)(a:Act)(w:World):Prop:=
 ∃v σ,(∃own t fx cx,FrOK σ own w0.heap.size σ0 w t fx cx∧(∀J,s.mode=.it J→d=t)∧FQ C s σ own w0 w a.tmps d v)∧(results fn a.tmps).run C.P w=.ok v w∧σ0.le σ∧σ.ok w∧Below σ0.B w0 w∧
  (∀k o x,σ.c k o=some x→σ0.c k o=some x∨w0.heap.size≤k)∧(∀k x,σ.m k=some x→σ0.m k=some x∨w0.heap.size≤k)∧qM C s σ w0 w v d
theorem Inv.fr (h:Inv C S ρ σ own hv w0 σ0 A a w){s:Sig}{d:D}{v:Value}(hm:∀J,s.mode≠.it J)(ho:we s.mode=false):∃own t fx cx,FrOK σ own w0.heap.size σ0 w t fx cx∧(∀J,s.mode=.it J→d=t)∧FQ C s σ own w0 w a.tmps d v:=by
 obtain⟨t,fx,cx,h1,_⟩:=h.frame;exact⟨own,t,fx,cx,h1,fun J e=>absurd e (hm J),.no ho⟩
theorem awd {ty:Ty}{mR:List Ty}{es:List PE}(h:∀ty e,mR=[ty]→es=[e]→False)(hl:es.length=mR.length):mR.length≠1:=by
 intro h1
 match mR,es with
 |[ty],[e]=>exact h ty e rfl rfl
 |[],_=>simp at h1
 |_::_::_,_=>simp at h1
 |[_],[]=>simp at hl
 |[_],_::_::_=>simp at hl
theorem aeI (h:Inv C S ρ σ own hv w0 σ0 A a w){T:TypeId}{e:Ty}{j ver:Nat}{v:Value}{d:D}(hc:aT C S ρ σ hv (.obj j ver) v d){pe:PE}
 (hr:(bif Nat.beq ver (S.ver j) then(match S.o j with|.row U f=>bif Nat.beq U T&&Ty.beq f e then some (PE.o j) else none|_=>none) else none)=some pe):
 ∃cells xs,pe.ev ρ=.list xs∧w.ownsRow w0.heap.size T e.size v xs.length cells∧iW C.cap σ e cells xs∧∀k,v.ownBlock=some k→(∀o,σ.c k o=none)∧σ.m k=none:=by
 cases hb:Nat.beq ver (S.ver j)<;>simp only[hb,cond_true,cond_false] at hr
 ·cases hr
 split at hr
 case h_2=>cases hr
 rename_i U f ho;cases dT:Nat.beq U T&&Ty.beq f e<;>simp only[dT,cond_true,cond_false] at hr
 ·cases hr
 cases hr;simp only[ay] at dT;have hU:=aG dT.1;have hf:=Ty.beq_eq _ _ dT.2;subst hU hf;have hj:=h.objs j;rw[ho] at hj;obtain⟨cells,xs,h1,h2,h3,h4⟩:=hj;have hv':=hc.2 (aG hb);subst hv';exact⟨cells,xs,h1,h2,h3,fun k hk=>(h.owns k j (h4 k hk)).2.2⟩
theorem ar4 (h:Inv C S ρ σ own hv w0 σ0 A a w)(hC:CtxOK C σ0)(fq:∀j,S.ver j=0){fn:Func}{s:Sig}{pe:PE}(hr:xf C fn s S=some pe):L9 C w0 σ0 fn s (pe.ev ρ) a w:=by
 unfold xf at hr;split at hr
 ·cases hr
 ·rename_i hm;simp only[aeG,aB] at hr;obtain⟨r,aW,hr⟩:=hr;obtain⟨σ1,jK,vs,hle,h1,C6,zK,zL,zV⟩:=aeF hC _ h aW;refine⟨_,σ1,h1.fr (fun J e=>by rw[hm] at e;cases e) (by rw[hm];rfl),KW C6,h.le.trans hle,h1.ok,h1.below,h1.newc,h1.newm,?_⟩;unfold qM;rw[hm];simp only;split at hr
  ·rename_i ty e e1 e2;rw[e1] at zK zV;rw[e2] at zV;cases hb:Ty.sub ty s.res<;>simp only[hb,cond_true,cond_false] at hr
   ·cases hr
   cases hr;obtain⟨v,rfl⟩:∃v,vs=[v]:=by
        match vs,zK with
        |[v],_=>exact⟨v,rfl⟩
   have:=zV 0 ty rfl;exact Rep.sub (by simpa [PE.evs,JQ] using this) hb
  ·rename_i aC;cases hb:Ty.sub (.tup r.2.1) s.res<;>simp only[hb,cond_true,cond_false] at hr
   ·cases hr
   cases hr;have Zn:=awd (ty:=.bool) aC zL;have cT:JQ vs=Value.tuple vs.toArray:=by
        match vs,zK with
        |[],_=>rfl
        |[v],hl=>rw[←hl] at Zn;exact absurd rfl Zn
        |_::_::_,_=>rfl
   rw[cT];refine Rep.sub (Rep.tup _ _ _ (by rw[zK]) (by rw[PE.evs_eq,mV,zL]) zV) hb
 ·rename_i J hm;split at hr
  case h_2=>cases hr
  rename_i mq hJ;cases hr;obtain⟨t,fx,cx,h1,h2⟩:=h.frame;refine⟨_,σ,⟨own,t,fx,cx,h1,fun J' e=>?_,.no (by rw[hm];rfl)⟩,KW (vs:=[]) (by rw[mq];trivial),h.le,h.ok,h.below,h.newc,h.newm,by unfold qM;rw[hm];trivial⟩;exact(h2 J hJ).2
 ·rename_i T e hm;have key:∃v,(results fn a.tmps).run C.P w=.ok v w∧∃cells xs,pe.ev ρ=.list xs∧w.ownsRow w0.heap.size T e.size v xs.length cells∧iW C.cap σ e cells xs∧∀k,v.ownBlock=some k→(∀o,σ.c k o=none)∧σ.m k=none:=by
   unfold aeH at hr;split at hr
   ·rename_i t ht;split at hr
    case h_2=>cases hr
    rename_i j ver hs;have hc:=(sr (gs:=[]) h rfl t).1;rw[hs] at hc;exact⟨_,KW (vs:=[a.tmps.getD t undef]) (by rw[ht];exact⟨rfl,trivial⟩),aeI h hc hr⟩
   ·rename_i b U hb;split at hr
    case h_2=>cases hr
    rename_i j ver t0 e0 hl;have hq:=JR (Φ:=fun _ _=>none) (dst:=0) (gs:=[]) h hC rfl hl (o:={(default:Oper) with op:=.load U (.tmp b)}) rfl;obtain⟨v,d,e1,e2,e3,e4⟩:=hq _ rfl;exact⟨_,KW (vs:=[v]) (by rw[hb];exact⟨Pu rfl e2,trivial⟩),aeI h e3 hr⟩
   ·cases hr
  obtain⟨v,h1,h2⟩:=key;refine⟨v,σ,h.fr (fun J e=>by rw[hm] at e;cases e) (by rw[hm];rfl),h1,h.le,h.ok,h.below,h.newc,h.newm,?_⟩;unfold qM;rw[hm];exact h2
theorem jS.drop {σ:Im}{B D:Nat}:∀{ds:List Deferred},({target:=.collected D,args:=#[]}:Deferred)∉ds→jS σ B ds→jS (σ.drop D) B ds
 |[],_,_=>trivial
 |x::ds,hn,⟨⟨D',h1,h2,h3⟩,h⟩=>by
  simp only[di,not_or] at hn;refine⟨⟨D',h1,?_,h3⟩,jS.drop hn.2 h⟩;have:D'≠D:=fun e=>hn.1 (by rw[h1,e]);simp[Im.drop,this,h2]
theorem Inv.shut (h:Inv C S ρ σ own hv w0 σ0 A a w)(oz:σ0.fin){x:Deferred}{ds:List Deferred}(hd:a.defers=x::ds):
 ∃D,x.target=.collected D∧w.heap[D]?=some (.deferred (some []))∧Inv C S ρ (σ.drop D) own hv w0 σ0 A {a with defers:=ds} (w.putObj D (.deferred none)):=by
 have m9:=h.defers;rw[hd] at m9;obtain⟨⟨D,rfl,hm,hB,OH⟩,CG⟩:=m9;have hD:w.heap[D]?=some (.deferred (some [])):=by
  rcases h.ok.m D _ hm with⟨h1,_⟩|⟨_,h2⟩
  ·exact absurd rfl h1
  ·exact h2
 have oK:∀k,k≠D→(w.putObj D (.deferred none)).heap[k]?=w.heap[k]?:=fun k hk=>World.putObj_heap_other hk;have df:∀k j,own k=some j→k≠D:=fun k j hk e=>by subst e;rw[(h.owns k j hk).2.2.2] at hm;cases hm
 have hR:Im.leR C.cap σ (σ.drop D):=⟨fun r=>r.drop hm,fun _ _ _ e=>e⟩
 have tg:∀k x,(σ.drop D).m k=some x→k≠D∧σ.m k=some x:=by
  intro k x hx;simp only[Im.drop] at hx;split at hx
  ·cases hx
  ·rename_i aC;exact⟨aC,hx⟩
 refine⟨D,rfl,hD,CG.drop OH,⟨fun k o v hc=>?_,fun k es hc=>?_⟩,⟨h.le.c,fun k es hc=>?_⟩,h.old,h.newc,fun k es hc=>h.newm k es (tg k es hc).2,h.below.trans ⟨rfl,rfl,rfl,by simp,fun k hk=>oK k (by have:=h.bw;omega)⟩,h.bw,fun k j hk=>?_,fun t=>?_,fun j=>?_,h.opts,?_⟩
 ·have h1:=h.ok.c k o v hc;have aC:k≠D:=fun e=>by subst e;simp[World.cell?,hD] at h1
  rw[World.cell?_of_block (oK k aC)];exact h1
 ·exact(h.ok.m k es (tg k es hc).2).keep (oK k (tg k es hc).1)
 ·have aC:k≠D:=fun e=>by
   subst e;have:=h.le.m _ _ hc;rw[hm] at this;cases this;have:=h.old oz _ hc;omega
  simp[Im.drop,aC,h.le.m k es hc]
 ·obtain⟨g1,g2,g3,g4⟩:=h.owns k j hk;exact⟨g1,by simpa using g2,g3,by simp only[Im.drop];split<;>first|rfl|exact g4⟩
 ·exact aT.monoR hR (.refl S hv) (fun _ _ _=>rfl) (fun gs s e=>(h.opts t gs s e).2) (h.regs t)
 ·exact(h.objs j).monoR hR (.refl S hv) rfl rfl (fun k hk=>⟨hk,oK k (df k j hk)⟩)
 ·obtain⟨t,fx,cx,hf,ht⟩:=h.frame;exact⟨t,fx,cx,⟨σ0.keep _ _ _ _ _ hf.F ⟨rfl,rfl,rfl,by simp,fun k hk=>by omega⟩ (fun k hk=>oK k fun e=>by subst e;exact hf.d k hm hB hk),hf.own,hf.c,fun k x hx=>hf.m k x (tg k x hx).2,fun k hx=>hf.d k (tg k _ hx).2⟩,ht⟩
def qN (C:Ctx)(w0:World)(σ0:Base)(fn:Func)(s:Sig)(d:D)(tmps:Array Value):List Deferred→World→Prop
 |[],w=>L9 C w0 σ0 fn s d {tmps:=tmps,defers:=[]} w
 |x::ds,w=>∃D,x.target=.collected D∧w.heap[D]?=some (.deferred (some []))∧qN C w0 σ0 fn s d tmps ds (w.putObj D (.deferred none))
theorem Inv.retD (hC:CtxOK C σ0)(fq:∀j,S.ver j=0)(oz:σ0.fin){fn:Func}{s:Sig}{pe:PE}(hr:xf C fn s S=some pe):∀(ds:List Deferred) {σ:Im} {a:Act} {w:World},Inv C S ρ σ own hv w0 σ0 A a w→a.defers=ds→qN C w0 σ0 fn s (pe.ev ρ) a.tmps ds w
 |[],σ,a,w,h,hd=>by
  have e:a={tmps:=a.tmps,defers:=[]}:=by cases a;simp only at hd;subst hd;rfl
  rw[e] at h;exact ar4 h hC fq hr
 |x::ds,σ,a,w,h,hd=>by
  obtain⟨D,h1,h2,h3⟩:=h.shut oz hd;exact⟨D,h1,h2,Inv.retD hC fq oz hr ds (a:={a with defers:=ds}) h3 rfl⟩
end
end Cx
namespace Cx
open Go Go.RowKit
def kY (C:Ctx)(f:Nat)(cts ys:List Ty)(ds xs:List D):Prop:=
 ∀(σ:Im) (w:World) (yv:Value) (vs:List Value) (F:D→(Nat→Prop)→(Nat→Prop)→World→Prop) (fx cx:Nat→Prop) (m:Nat),σ.ok w→CtxOK C σ→pq C σ cts vs ds→m≤xs.length→
  (∀t fx cx w,F t fx cx w→∀k,fx k→k<w.heap.size)→(∀t fx cx w,F t fx cx w→∀k,cx k→fx k)→
  (∀t fx cx w w',F t fx cx w→Below 0 w w'→(∀k,fx k→w'.heap[k]?=w.heap[k]?)→F t fx cx w')→
  F (.list []) fx cx w→(∀k o x,σ.c k o=some x→¬cx k)→(∀k x,σ.m k=some x→¬cx k)→
  (∀(i:Nat) (fx cx:Nat→Prop) (w1:World) (σ1:Im) (args:List Value) (cw:List D),i≤m→xs[i]?=some (.tup cw)→F (.list (xs.take i)) fx cx w1→σ1.ok w1→pq C σ1 ys args cw→
    (∀k o x,σ1.c k o=some x→¬cx k)→(∀k x,σ1.m k=some x→¬cx k)→
    (∀k o x,σ1.c k o=some x→σ.c k o=some x∨w.heap.size≤k)→(∀k x,σ1.m k=some x→σ.m k=some x∨w.heap.size≤k)→
    WN C.P yv args w1 fun u w2=>u=.bool (decide (i<m))∧Below 0 w1 w2∧(∀k,k<w1.heap.size→¬cx k→w2.heap[k]?=w1.heap[k]?)∧
     ∃l9 l6,F (.list (xs.take (i+1))) l9 l6 w2∧(∀k,l9 k→k<w1.heap.size→fx k∨(∃o x,σ1.c k o=some x)∨(∃x,σ1.m k=some x∧x≠fl))∧(∀k,l6 k→k<w1.heap.size→cx k))→
  Calls C.P f (#[yv]++vs.toArray) w fun e w'=>(∃v,e=.returned v)∧∃fx cx,F (.list (xs.take (m+1))) fx cx w'
def fP (C:Ctx)(Φ:aR):Prop:=∀f cs ys,C.cap f=some cs→mB cs.args cs.res=some ys→(∃fn,C.P.funcs[f]?=some fn∧fn.body.isSome=true∧(fn.name== "runtime.NumGoroutine")=false)∧
 ∀ds d,Φ f ds=some d→∃xs,d=.list xs∧(∀x,x∈xs→∃cw,x=.tup cw∧cw.length=ys.length)∧kY C f cs.caps ys ds xs
section
variable {C:Ctx} {S:St} {ρ:Env} {σ:Im} {own:Nat→Option Nat} {hv:Nat→Value} {w0:World} {σ0:Base} {A:Nat→Prop} {a:Act} {w:World}
theorem Inv.mono_regs (h:Inv C S ρ σ own hv w0 σ0 A a w){τ:Im}(hle:σ.le τ)(t:Nat):aT C S ρ τ hv (S.r t) (a.tmps.getD t undef) (ρ.r t):=
 aT.mono hle (.refl S hv) (fun _ _ _=>rfl) (fun gs s e=>(h.opts t gs s e).2) (h.regs t)
theorem Inv.joinIm (h:Inv C S ρ σ own hv w0 σ0 A a w){τ:Im}(hτ:τ.ok w)(hd:∀k,τ.m k≠some fl)(hoc:∀k o v,τ.c k o=some v→own k=none)(hom:∀k v,τ.m k=some v→own k=none)
 (fK:∀k o v,τ.c k o=some v→σ.c k o=some v∨w0.heap.size≤k) (dM:∀k v,τ.m k=some v→σ.m k=some v∨w0.heap.size≤k)
 (fI:∀t fx cx,FrOK σ own w0.heap.size σ0 w t fx cx→(∀k o v,τ.c k o=some v→¬cx k)∧∀k v,τ.m k=some v→¬cx k):Inv C S ρ (σ.plus τ) own hv w0 σ0 A a w where
 defers:=h.defers.mono (Im.plus_le1 σ τ)
 ok:=Im.plus_ok h.ok hτ
 le:=h.le.trans (Im.plus_le1 σ τ)
 old:=h.old
 newc:=fun k o x e=>(Im.plus_c e).elim (h.newc k o x) fun e=>(fK k o x e).elim (h.newc k o x) .inr
 newm:=fun k x e=>(Im.plus_m e).elim (h.newm k x) fun e=>(dM k x e).elim (h.newm k x) .inr
 below:=h.below
 bw:=h.bw
 owns:=fun k j hk=>by
  obtain⟨g1,g2,g3,g4⟩:=h.owns k j hk;refine⟨g1,g2,fun o=>?_,?_⟩
  ·cases e:(σ.plus τ).c k o with
   |none=>rfl
   |some x=>
    rcases Im.plus_c e with e|e
    ·rw[g3 o] at e;cases e
    ·rw[hoc k o x e] at hk;cases hk
  ·cases e:(σ.plus τ).m k with
   |none=>rfl
   |some x=>
    rcases Im.plus_m e with e|e
    ·rw[g4] at e;cases e
    ·rw[hom k x e] at hk;cases hk
 regs:=h.mono_regs (Im.plus_le1 σ τ)
 objs:=fun j=>(h.objs j).mono (Im.plus_le1 σ τ) (.refl S hv) rfl rfl fun k hk=>⟨hk,rfl⟩
 opts:=h.opts
 frame:=by
  obtain⟨t,fx,cx,hf,ht⟩:=h.frame;obtain⟨h1,h2⟩:=fI t fx cx hf;exact⟨t,fx,cx,⟨hf.F,hf.own,fun k o x e=>(Im.plus_c e).elim (hf.c k o x) (h1 k o x),fun k x e=>(Im.plus_m e).elim (hf.m k x) (h2 k x),fun k e=>(Im.plus_m e).elim (hf.d k) fun e=>absurd e (hd k)⟩,ht⟩
theorem Inv.keep (h:Inv C S ρ σ own hv w0 σ0 A a w){w':World}{X:Nat→Prop}(hb:Below 0 w w')(hX:∀k,X k→w'.heap[k]?=w.heap[k]?)(h0:∀k,k<w0.heap.size→X k)(ho:∀k j,own k=some j→X k)(hc:∀k o v,σ.c k o=some v→X k)(hm:∀k v,σ.m k=some v→X k)
 (fI:∀t fx cx,FrOK σ own w0.heap.size σ0 w t fx cx→∀k,fx k→X k):Inv C S ρ σ own hv w0 σ0 A a w' where
 defers:=h.defers
 ok:=⟨fun k o v e=>by rw[World.cell?_of_block (hX k (hc k o v e))];exact h.ok.c k o v e,fun k v e=>(h.ok.m k v e).keep (hX k (hm k v e))⟩
 le:=h.le
 old:=h.old
 newc:=h.newc
 newm:=h.newm
 below:=h.below.trans ⟨hb.os,hb.tape,hb.output,hb.size,fun k hk=>hX k (h0 k (FP hk h.bw))⟩
 bw:=h.bw
 owns:=fun k j hk=>let⟨g1,g2,g3⟩:=h.owns k j hk;⟨g1,FP g2 hb.size,g3⟩
 regs:=h.regs
 objs:=fun j=>(h.objs j).mono (.refl σ) (.refl S hv) rfl rfl fun k hk=>⟨hk,hX k (ho k j hk)⟩
 opts:=h.opts
 frame:=by
  obtain⟨t,fx,cx,hf,ht⟩:=h.frame;exact⟨t,fx,cx,⟨σ0.keep _ _ _ _ _ hf.F hb fun k hk=>hX k (fI t fx cx hf k hk),hf.own,hf.c,hf.m,hf.d⟩,ht⟩
end
def Base.rnd (σ0:Base)(σ:Im)(own:Nat→Option Nat)(w:World)(t:D)(X:Nat→Prop):Base:=
 {σ with
  B:=σ0.B
  fin:=False
  F:=fun t' fx cx w'=>t'=t∧(∀k,fx k↔(k<w.heap.size∧own k=none∧σ.m k≠some fl∧¬X k))∧(∀k,cx k↔(fx k∧(∀o,σ.c k o=none)∧σ.m k=none))∧w.heap.size≤w'.heap.size∧∀k,fx k→w'.heap[k]?=w.heap[k]?
  lt:=fun t' fx cx w' h k hk=>FP ((h.2.1 k).1 hk).1 h.2.2.2.1
  sub:=fun t' fx cx w' h k hk=>((h.2.2.1 k).1 hk).1
  keep:=fun t' fx cx w' kg h hb hs=>⟨h.1,h.2.1,h.2.2.1,jv h.2.2.2.1 hb.size,fun k hk=>(hs k hk).trans (h.2.2.2.2 k hk)⟩}
section
variable {C:Ctx} {S S':St} {ρ ρ':Env} {σ σ':Im} {own own':Nat→Option Nat} {hv hv':Nat→Value} {w0:World} {σ0:Base} {A A':Nat→Prop} {a a':Act} {w w':World} {X:Nat→Prop}
theorem Inv.toRnd (h:Inv C S ρ σ own hv w0 σ0 A a w){t:D}(ht:∀j,S.o j=.tr→(∃ys,C.yl=some (j,ys))∧ρ.o j=t):Inv C S ρ σ own hv w0 (σ0.rnd σ own w t X) A a w:=by
 refine⟨h.defers,h.ok,.refl σ,(fun hf=>hf.elim),(fun _ _ _ e=>.inl e),(fun _ _ e=>.inl e),h.below,h.bw,h.owns,h.regs,h.objs,h.opts,t,fun k=>k<w.heap.size∧own k=none∧σ.m k≠some fl∧¬X k,fun k=>(k<w.heap.size∧own k=none∧σ.m k≠some fl∧¬X k)∧(∀o,σ.c k o=none)∧σ.m k=none,
  ⟨⟨rfl,fun _=>.rfl,fun _=>.rfl,bJ _,fun _ _=>rfl⟩,fun k j hk hf=>?_,fun k o x e hc=>?_,fun k x e hc=>?_,fun k e _ hf=>hf.2.2.1 e⟩,ht⟩
 ·have:=hf.2.1;rw[hk] at this;cases this
 ·have:=hc.2.1 o;rw[e] at this;cases this
 ·have:=hc.2.2;rw[e] at this;cases this
theorem Inv.markSame {w1:World}(h:σ.ok w1)(h':σ'.ok w')(hle:σ.le σ'){k:Nat}(hk:σ.m k=some fl):w'.heap[k]?=w1.heap[k]?:=by
 have e1:w1.heap[k]?=some (.deferred (some [])):=by
  rcases h.m k _ hk with⟨h1,_⟩|⟨_,h2⟩
  ·exact absurd rfl h1
  ·exact h2
 have e2:w'.heap[k]?=some (.deferred (some [])):=by
  rcases h'.m k _ (hle.m k _ hk) with⟨h1,_⟩|⟨_,h2⟩
  ·exact absurd rfl h1
  ·exact h2
 rw[e1,e2]
theorem Inv.rndSame {w1:World}{t:D}(az:σ.ok w1)(h':Inv C S' ρ' σ' own' hv' w0 (σ0.rnd σ own w1 t X) A' a' w'){k:Nat}(hk:k<w1.heap.size)(ho:own k=none)(hX:¬X k):w'.heap[k]?=w1.heap[k]?:=by
 by_cases hd:σ.m k=some fl
 ·exact Inv.markSame az h'.ok h'.le hd
 ·obtain⟨t',fx,cx,hf,_⟩:=h'.frame;obtain⟨_,f2,_,_,f5⟩:=hf.F;exact f5 k ((f2 k).2 ⟨hk,ho,hd,hX⟩)
theorem Inv.rndBelow {w1:World}{t:D}(h:Inv C S ρ σ own hv w0 σ0 A a w1)(h':Inv C S' ρ' σ' own' hv' w0 (σ0.rnd σ own w1 t X) A' a' w'):Below 0 w1 w':=by
 obtain⟨t',fx,cx,hf,_⟩:=h'.frame;obtain⟨_,_,_,f4,_⟩:=hf.F;exact⟨h'.below.os.trans h.below.os.symm,h'.below.tape.trans h.below.tape.symm,h'.below.output.trans h.below.output.symm,f4,fun k hk=>by omega⟩
theorem Inv.rndOwn {w1:World}{t:D}(h':Inv C S' ρ' σ' own' hv' w0 (σ0.rnd σ own w1 t X) A' a' w'){k j:Nat}(hk:own' k=some j)(hX:¬X k):(∃i,own k=some i)∨w1.heap.size≤k:=by
 obtain⟨t',fx,cx,hf,_⟩:=h'.frame;obtain⟨_,f2,_,_,_⟩:=hf.F;cases e:own k with
 |some i=>exact .inl ⟨i,rfl⟩
 |none=>
  refine .inr (Nat.le_of_not_lt fun aq=>?_);by_cases hd:σ.m k=some fl
  ·have:=(h'.owns k j hk).2.2.2;rw[h'.le.m k _ hd] at this;cases this
  ·exact hf.own k j hk ((f2 k).2 ⟨aq,e,hd,hX⟩)
theorem Inv.rndC {w1:World}{t:D}(h':Inv C S' ρ' σ' own' hv' w0 (σ0.rnd σ own w1 t X) A' a' w'){k:Nat}(hk:(∃o x,σ'.c k o=some x)∨∃x,σ'.m k=some x)(hX:¬X k):(∃o x,σ.c k o=some x)∨(∃x,σ.m k=some x)∨(∃i,own k=some i)∨w1.heap.size≤k:=by
 obtain⟨t',fx,cx,hf,_⟩:=h'.frame;obtain⟨_,f2,f3,_,_⟩:=hf.F;cases e:own k with
 |some i=>exact .inr (.inr (.inl ⟨i,rfl⟩))
 |none=>
  by_cases hm:∃x,σ.m k=some x
  ·exact .inr (.inl hm)
  by_cases hc:∃o x,σ.c k o=some x
  ·exact .inl hc
  refine .inr (.inr (.inr (Nat.le_of_not_lt fun aq=>?_)));have j4:σ.m k=none:=by
   cases e2:σ.m k with
   |none=>rfl
   |some x=>exact absurd ⟨x,e2⟩ hm
  have YG:cx k:=(f3 k).2 ⟨(f2 k).2 ⟨aq,e,by rw[j4];simp,hX⟩,fun o=>by
   cases e2:σ.c k o with
   |none=>rfl
   |some x=>exact absurd ⟨o,x,e2⟩ hc,j4⟩
  rcases hk with⟨o,x,hk⟩|⟨x,hk⟩
  ·exact hf.c k o x hk YG
  ·exact hf.m k x hk YG
theorem Inv.ofRnd {w1:World}(h:Inv C S ρ σ own hv w0 σ0 A a w1){t:D}{fx cx:Nat→Prop}(fI:FrOK σ own w0.heap.size σ0 w1 t fx cx)(hX:∀k,fx k→¬X k)(h':Inv C S' ρ' σ' own' hv' w0 (σ0.rnd σ own w1 t X) A' a' w'):
 Inv C S' ρ' σ' own' hv' w0 σ0 A' a' w':=by
 have hb:=h.rndBelow h';have jY:=h';obtain⟨t',l9,l6,hf,ht⟩:=jY.frame;obtain⟨f1,f2,f3,f4,f5⟩:=hf.F;have aq:=σ0.lt _ _ _ _ fI.F;have cJ:=σ0.sub _ _ _ _ fI.F
 have Zu:∀k,fx k→own k=none:=fun k hk=>by
  cases e:own k with
  |none=>rfl
  |some j=>exact absurd hk (fI.own k j e)
 have kA:∀k,cx k→¬((∃o x,σ'.c k o=some x)∨∃x,σ'.m k=some x):=fun k hk hc=>by
  have h1:=cJ k hk;rcases Inv.rndC h' hc (hX k h1) with⟨o,x,e⟩|⟨x,e⟩|⟨j,e⟩|e
  ·exact fI.c k o x e hk
  ·exact fI.m k x e hk
  ·exact fI.own k j e h1
  ·have:=aq k h1;omega
 refine⟨h'.defers,h'.ok,h.le.trans h'.le,h.old,fun k o x e=>(h'.newc k o x e).elim (h.newc k o x) .inr,fun k x e=>(h'.newm k x e).elim (h.newm k x) .inr,h'.below,h'.bw,h'.owns,h'.regs,h'.objs,h'.opts,t,fx,cx,
  ⟨σ0.keep _ _ _ _ _ fI.F hb fun k hk=>Inv.rndSame h.ok h' (aq k hk) (Zu k hk) (hX k hk),fun k j hk pM=>?_,fun k o x e hc=>kA k hc (.inl ⟨o,x,e⟩),fun k x e hc=>kA k hc (.inr ⟨x,e⟩),fun k e hB pM=>?_⟩,fun j hj=>⟨(ht j hj).1,by rw[(ht j hj).2,f1]⟩⟩
 ·rcases Inv.rndOwn h' hk (hX k pM) with⟨i,e⟩|e
  ·exact fI.own k i e pM
  ·have:=aq k pM;omega
 ·by_cases hd:σ.m k=some fl
  ·exact fI.d k hd hB pM
  ·exact hf.d k e hB ((f2 k).2 ⟨aq k pM,Zu k pM,hd,hX k pM⟩)
theorem Inv.restore (h:Inv C S ρ σ own hv w0 σ0 A a w)(hn:∀t gs s,S.r t≠.opt gs s)(hd:jS σ w0.heap.size a'.defers)(hr:∀t,isNone (S.r t)=false→a'.tmps.getD t undef=a.tmps.getD t undef∧ρ'.r t=ρ.r t)(ho:∀j,pY (S.o j)=false→ρ'.o j=ρ.o j):
 Inv C S ρ' σ own hv w0 σ0 (fun _=>False) a' w:=by
 refine⟨hd,h.ok,h.le,h.old,h.newc,h.newm,h.below,h.bw,h.owns,fun t=>?_,fun j=>?_,fun t gs s e=>absurd e (hn t gs s),?_⟩
 ·cases hs:isNone (S.r t) with
  |true=>cases hc:S.r t<;>rw[hc] at hs<;>simp[isNone] at hs;trivial
  |false=>
   rw[(hr t hs).1,(hr t hs).2];exact aT.mono' (.refl σ) (.refl S hv) (hn t) (h.regs t)
 ·cases hs:pY (S.o j) with
  |true=>cases hc:S.o j<;>rw[hc] at hs<;>simp[pY] at hs;trivial
  |false=>exact(h.objs j).mono (.refl σ) (.refl S hv) rfl (ho j hs) (fun k hk=>⟨hk,rfl⟩)
 ·obtain⟨t,fx,cx,h1,h2⟩:=h.frame;exact⟨t,fx,cx,h1,fun j hj=>⟨(h2 j hj).1,by rw[ho j (by rw[hj];rfl)];exact(h2 j hj).2⟩⟩
theorem jS.mem {σ:Im}{B:Nat}:∀{ds:List Deferred} {d:Deferred},d∈ds→jS σ B ds→∃D,d={target:=.collected D,args:=#[]}∧σ.m D=some fl
 |x::ds,d,hm,⟨⟨D,h1,h2,_⟩,h⟩=>by
  rcases di.1 hm with e|e
  ·subst e;exact⟨D,h1,h2⟩
  ·exact jS.mem e h
def Im.mark (σ:Im)(D:Nat):Im:=⟨σ.c,fun k=>if k=D then some fl else σ.m k⟩
theorem XL (w:World)(o1 o2:Obj):Below w.heap.size w ((w.alloc o1).alloc o2):=(((Below.refl _ w).alloc (bJ _) o1).alloc (by simp) o2)
theorem Inv.enter (h:Inv C S ρ σ own hv w0 σ0 A a w)(r:Loop):
 Inv C S ρ (σ.mark w.heap.size) own hv w0 σ0 A {a with defers:={target:=.collected w.heap.size,args:=#[]}::a.defers} ((w.alloc (.deferred (some []))).alloc (.loop r)):=by
 have hD:((w.alloc (.deferred (some []))).alloc (.loop r)).heap[w.heap.size]?=some (.deferred (some [])):=(Below.heap_alloc _ _ _ (by simp)).trans (World.alloc_heap_new w _);have hle:σ.le (σ.mark w.heap.size):=by
  refine⟨fun _ _ _ e=>e,fun k x e=>?_⟩;have:k≠w.heap.size:=by have:=h.ltm e;omega
  simp[Im.mark,this,e]
 have vN:∀k x,(σ.mark w.heap.size).m k=some x→σ.m k=some x∨(k=w.heap.size∧x=fl):=by
  intro k x e;simp only[Im.mark] at e;split at e
  ·rename_i e2;cases e;exact .inr ⟨e2,rfl⟩
  ·exact .inl e
 have hb:=XL w (.deferred (some [])) (.loop r);have az:(σ.mark w.heap.size).ok ((w.alloc (.deferred (some []))).alloc (.loop r)):=by
  have h1:=h.ok.below hb;refine⟨h1.c,fun k x e=>?_⟩;rcases vN k x e with e|⟨rfl,rfl⟩
  ·exact h1.m k x e
  ·exact .inr ⟨rfl,hD⟩
 have hw:=h.world hle az hb (fun _ _ _ e=>.inl e) (fun k x e=>(vN k x e).imp id fun e=>by omega);have m9:=hw.defers;refine⟨⟨⟨_,rfl,by simp[Im.mark],h.below.size,fun hm=>?_⟩,m9⟩,hw.ok,hw.le,hw.old,hw.newc,hw.newm,hw.below,hw.bw,hw.owns,hw.regs,hw.objs,hw.opts,hw.frame⟩;obtain⟨D,e1,e2⟩:=jS.mem hm h.defers;have:D=w.heap.size:=by cases e1;rfl
 subst this;have:=h.ltm e2;omega
end
end Cx
