/-
  Shared texts of this claim.
-/
import Derived.Test.YtbeeplempgffoaaGreatDoorDAC
import Derived.Tactics
import Derived.RangeFuncIn
import Derived.OrdersIn
import Derived.RangeFuncRecord
set_option linter.unusedSimpArgs false
set_option linter.unusedVariables false
namespace Cx
open Go Go.RowKit
inductive Gh where
 |fz (j:Nat)|fbox (b:Nat)|rereg (t j:Nat)|recell (b i j:Nat)|home (b i j:Nat) (T:TypeId)
def Gh.run (C:Ctx)(S:St):Gh→Option (St×List PI)
 |.fz j=>some (S.fz j,[])
 |.fbox b=>DK S b
 |.rereg t j=>GI S t j
 |.recell b i j=>GH S b i j
 |.home b i j T=>Ei C S b i j T
def m6 (C:Ctx):List Gh→St→Option (St×List PI)
 |[],S=>some (S,[])
 |g::gs,S=>(g.run C S).bind fun r=>(m6 C gs r.1).map fun q=>(q.1,r.2++q.2)
theorem tQ {Φ:aY}:∀{a b:List PI} {ρ:Env},PI.runs Φ (a++b) ρ=(PI.runs Φ a ρ).bind (PI.runs Φ b)
 |[],b,ρ=>by simp[PI.runs]
 |x::a,b,ρ=>by
  simp only[Cm,PI.runs];cases x.run Φ ρ with
  |none=>rfl
  |some ρ1=>simp[tQ (a:=a) (b:=b)]
def Aw (S:St)(ops:Array Oper)(o:Oper):Option (List (Nat×Bool)):=
 match o.guard with
 |none=>some []
 |some (j,want)=>
  match(ops[j]?).bind (·.dst) with
  |some t=>
   match S.r t with
   |.dat .bool=>some [(t,want)]
   |.opt gs (.dat .bool)=>some ((t,want)::gs)
   |_=>none
  |none=>none
def aut (S:St)(gs:List (Nat×Bool)):Op→List Nat
 |.build _ ps=>eR S gs (ps.toList.map (·.2))
 |.buildSlice _ _ ps=>eR S gs (ps.toList.map (·.2))
 |.box _ x=>eR S gs [x]
 |.pick _ x y=>eR S gs [x,y]
 |.slice _ x _ _ _=>eR S gs [x]
 |.mapUpdate _ _ k v=>eR S gs [k,v]
 |.insert _ _ k v=>eR S gs [k,v]
 |.store _ x v=>match kH S gs x with|.eptr ..=>eR S gs [v]|_=>[]
 |_=>[]
def C6:List Sh→List Nat
 |[]=>[]
 |.obj j _::r=>j::C6 r
 |_::r=>C6 r
def Hu (S:St)(gs:List (Nat×Bool)):List Operand→List Nat
 |[]=>[]
 |x::xs=>
  match kH S gs x with
  |.ptr j ver off=>bif Nat.beq ver (S.ver j)&&(match S.o j with|.box ..=>true|_=>false) then j::Hu S gs xs else Hu S gs xs
  |_=>Hu S gs xs
def adB (C:Ctx):Fn→Bool
 |.func f=>(match C.sig f with|some s=>xA s.mode|none=>false)
 |_=>false
def pre (C:Ctx)(S:St)(gs:List (Nat×Bool))(op:Op):List Gh:=
 match op with
 |.makeFunc fn _ caps=>
  bif adB C fn then[] else(Hu S gs caps.toList).flatMap fun b=>(match S.o b with|.box _ aO=>(C6 aO).map .fz|_=>[])++[.fbox b]
 |.load T x=>
  match kH S gs x,p6 C.P T,C.P.info? T with
  |.ptr j _ off,some true,some inf=>(match S.o j with|.box _ aO=>(C6 ((aO.drop off).take inf.size)).map .fz|_=>[])
  |_,_,_=>[]
 |op=>(aut S gs op).map .fz
def SZ (C:Ctx)(S:St)(gs:List (Nat×Bool))(o:Oper):List Gh:=
 match o.op,o.dst with
 |.assign x,some t=>bif C.fr.any (Nat.beq t) then(eR S gs [x]).map .fz else[]
 |_,_=>[]
def Pk (P:Program):Nat→TypeId→List (Option TypeId)
 |0,_=>[]
 |n+1,t=>
  match P.underlying t with
  |some (.struct fs)=>fs.toList.flatMap fun f=>Pk P n f.type
  |some (.array len e)=>(List.replicate len (Pk P n e)).flatten
  |some (.slice e)=>[some e]
  |_=>[none]
def homes (P:Program)(b off:Nat)(T:TypeId):List Gh:=
 ((Pk P 12 T).zipIdx).filterMap fun x=>x.1.map fun e=>.home b (off+x.2) (abS b (off+x.2)) e
def KS (nh:List Nat)(l:List Gh):List Gh:=l.filter fun g=>match g with|.home _ _ j _=> !(nh.any (Nat.beq j))|_=>true
def ahr (b off n:Nat):List Gh:=(List.range n).map fun i=>.recell b (off+i) (abS b (off+i))
def post (C:Ctx)(S:St)(o:Oper):List Gh:=
 match o.op,o.dst with
 |.assign _,some t=>[.rereg t t]
 |.alloc T,some t=>KS C.nh (homes C.P t 0 T)
 |.store T x _,_=>
  match kH S [] x with
  |.ptr j _ off=>KS C.nh (homes C.P j off T)++ahr j off (match C.P.info? T with|some i=>i.size|none=>0)
  |_=>[]
 |_,_=>[]
def Lc:Sh→Bool
 |.opt ..=>false
 |_=>true
def ur (C:Ctx)(S:St)(dst:Nat)(T:TypeId)(x:Operand):lZ:=
 match x with
 |.const v=>(oS C.P T).bind fun t=>(oU t).bind fun z=>bif jL t v then some (S.setR dst (.dat z.1),[.setR dst (.con z.2)]) else none
 |_=>none
def core (C:Ctx)(S:St)(gs:List (Nat×Bool))(o:Oper):Option (St×List PI):=
 match o.dst with
 |some dst=>
  match LH C S gs dst o.op with
  |some r=>bif Lc r.1 then some (S.setR dst (sH gs r.1),r.2) else none
  |none=>
   match o.op,gs with
   |.assign x,[]=>
    bif C.fr.any (Nat.beq dst) then
          match xN C S [] dst x with
          |some r=>some (S.setR dst r.1,r.2)
          |none=>ur C S dst o.type x
    else
    match Dx C S dst o.type x with
    |some r=>some r
    |none=>
     match xN C S [] dst x with
     |some r=>some (S.setR dst r.1,r.2)
     |none=>ur C S dst o.type x
   |.alloc T,[]=>Dq C S dst T
   |.box T x,[]=>Ds C S dst T x
   |.buildSlice T n ps,gs=>
    match gs with
    |[]=>wH C S [] dst T n ps.toList
    |_=>An C S gs dst T n ps.toList
   |.makeSlice T l c,[]=>Dw C S dst T l c
   |.makeMap T r,[]=>Dv C S dst T r
   |.range T x,[]=>Dy C S dst T x
   |.convert T U x,[]=>Dt C S dst T U x
   |.call c,gs=>
    match c.callee,gs with
    |.builtin .append,[]=>
     match c.args.toList,c.argTypes.toList with
     |[s,x],[T,T']=>bif Nat.beq T T' then Dr C S dst T s x else none
     |_,_=>none
    |.value (.func f),gs=>
     match Am C S gs dst f c.args.toList with
     |some r=>some (r.1.setR dst (sH gs r.2.1),r.2.2)
     |none=>
      match gs with
      |[]=>
       match Du C S dst f c.args.toList with
       |some r=>some r
       |none=>(JH C S f c.args.toList []).map (tw S (some dst))
      |_=>none
    |.value x,gs=>
     match wI C S gs dst x c.args.toList with
     |some r=>some (r.1.setR dst (sH gs r.2.1),r.2.2)
     |none=>
      match x,gs with
      |.tmp t,[]=>(JI C S t c.args.toList).map (tw S (some dst))
      |_,_=>none
    |_,_=>none
   |.makeFunc fn first caps,[]=>Pu C S dst fn first caps
   |_,_=>none
 |none=>
  match o.op,gs with
  |.store T x v,[]=>Dz C S T x v
  |.mapUpdate T m k v,[]=>Ao C S T m k v
  |.insert T m k v,[]=>Ao C S T m k v
  |.panic _,[]=>some (S,[.chk (.nt (.con (.bool true)))])
  |.call c,[]=>
   match c.callee with
   |.value (.func f)=>(JH C S f c.args.toList []).map (tw S none)
   |.value (.tmp t)=>(JI C S t c.args.toList).map (tw S none)
   |_=>none
  |_,_=>none
def afH (dst:Nat)(l:List PI):Bool:=l.all fun p=>p.modR.all (Nat.beq dst)&&p.modO.isEmpty
def JR (gs:List (Nat×Bool))(dst:Option Nat)(l:List PI):Bool:=
 match gs,dst with
 |[],_=>true
 |_,some d=>afH d l
 |_,none=>false
def JC (C:Ctx)(S:St)(ops:Array Oper)(o:Oper):Option (St×List PI):=
 (Aw S ops o).bind fun gs=>
 (m6 C (pre C S gs o.op++SZ C S gs o) S).bind fun r1=>
 (core C r1.1 gs o).bind fun r2=>
 (m6 C (post C r2.1 o) r2.1).bind fun r3=>
 bif JR gs o.dst r2.2 then some (r3.1,r1.2++r2.2++r3.2) else none
def GR:PI:=.chk (.con (.v (.bool false)))
def Dk (C:Ctx)(S:St)(ops:Array Oper)(o:Oper):Option (St×List PI):=
 match JC C S ops o with
 |some r=>some r
 |none=>some (match o.dst with|some d=>S.setR d .none|none=>S,[GR])
section
variable {C:Ctx} {S:St} {ρ:Env} {σ:Im} {own:Nat→Option Nat} {hv:Nat→Value} {w0:World} {σ0:Base} {A:Nat→Prop} {a:Act} {w:World} {gs:List (Nat×Bool)} {Φ:aY} {dst:Nat}
theorem Gh.sound {g:Gh}{r:St×List PI}(h:Good C w0 σ0 S ρ A a w)(hr:g.run C S=some r):Ck C w0 σ0 Φ S ρ A a w r:=by
 obtain⟨σ,own,hv,h⟩:=h;cases g with
 |fz j=>
  simp only[Gh.run,bx] at hr;subst hr;intro ρ' ay;rw[oO ay];obtain⟨σ',own',_,h'⟩:=h.fz j;exact⟨σ',own',hv,h'⟩
 |fbox b=>exact anK h hr
 |rereg t j=>exact avP h hr
 |recell b i j=>exact avO h hr
 |home b i j T=>exact apR h hr
theorem PS:∀(l:List Gh) {S:St} {ρ ρ':Env} {r:St×List PI},Good C w0 σ0 S ρ A a w→m6 C l S=some r→PI.runs Φ r.2 ρ=some ρ'→Good C w0 σ0 r.1 ρ' A a w
 |[],S,ρ,ρ',r,h,hr,ay=>by
  simp only[m6,bx] at hr;subst hr;rw[oO ay];exact h
 |g::l,S,ρ,ρ',r,h,hr,ay=>by
  simp only[m6,aG,aR] at hr;obtain⟨q,hq,q2,ju,rfl⟩:=hr;simp only[tQ,aG] at ay;obtain⟨ρ1,h1,h2⟩:=ay;exact PS (r:=q2) l (Gh.sound (Φ:=Φ) h hq ρ1 h1) ju h2
theorem aau (h:Good C w0 σ0 S ρ A a w){ops:Array Oper}{o:Oper}(hg:Aw S ops o=some gs):Region.wanted o (yielded ops a.tmps)=holds gs ρ:=by
 obtain⟨σ,own,hv,h⟩:=h;unfold Aw at hg;unfold Region.wanted;split at hg
 ·rename_i e;cases hg;simp[e,holds]
 ·rename_i j want e;simp only[e];split at hg
  case h_2=>cases hg
  rename_i t ht;have pZ:=h.regs t;have hy:∀v,a.tmps.getD t undef=v→(∀b,v=.bool b→yielded ops a.tmps j=some b)∧(v=undef→yielded ops a.tmps j=none):=by
   intro v hv';unfold yielded;rw[ht];simp only[vY];rw[hZ] at hv';cases og:a.tmps[t]? with
   |none=>rw[og] at hv';simp at hv';subst hv';exact⟨fun b e=>absurd e (by simp[undef]),fun _=>rfl⟩
   |some u=>rw[og] at hv';simp at hv';subst hv';exact⟨fun b e=>by subst e;rfl,fun e=>by subst e;rfl⟩
  split at hg
  ·rename_i es;cases hg;rw[es] at pZ;obtain⟨b,jU,ew⟩:=Rep.bool_inv pZ;rw[(hy _ jU).1 b rfl];simp[holds,ew,D.b_bool]
  ·rename_i bZ es;cases hg;rw[es] at pZ;simp only[holds,uc];cases hh:holds bZ ρ with
   |true=>
    obtain⟨b,jU,ew⟩:=Rep.bool_inv (pZ.1 hh);rw[(hy _ jU).1 b rfl];unfold holds at hh;rw[hh,ew];simp[D.b_bool]
   |false=>
    rw[(hy _ (pZ.2 hh)).2 rfl];unfold holds at hh;rw[hh];simp
  ·cases hg
theorem aat (h:Good C w0 σ0 S ρ A a w){ops:Array Oper}{o:Oper}(hg:Aw S ops o=some gs)(hj:∀j want t,o.guard=some (j,want)→(ops[j]?).bind (·.dst)=some t→A t):∀g,g∈gs→A g.1:=by
 obtain⟨σ,own,hv,h⟩:=h;unfold Aw at hg;split at hg
 ·cases hg;simp
 ·rename_i j want e;split at hg
  case h_2=>cases hg
  rename_i t ht;have hA:=hj j want t e ht;split at hg
  ·cases hg;intro g hm;simp at hm;subst hm;exact hA
  ·rename_i bZ es;cases hg;intro g hm;rcases cW.1 hm with e'|cI
   ·subst e';exact hA
   ·exact(h.opts t bZ _ es).1 g cI
  ·cases hg
theorem atZ (h:Inv C S ρ σ own hv w0 σ0 A a w)(hC:CtxOK C σ0)(hg:holds gs ρ=true){o:Oper}{r:Sh×List PI}(hr:LH C S gs dst o.op=some r):eI C S ρ σ hv Φ dst a w o r:=by
 unfold LH at hr;split at hr
 ·rename_i x e;exact afJ h hC hg hr (.inl e)
 ·rename_i c x y e;exact atY h hC hg hr e
 ·rename_i op T x y T' e;exact atJ h hC hg hr e
 ·rename_i op T x e;exact at1 h hC hg hr e
 ·rename_i s d x e;exact atL h hC hg hr e
 ·rename_i T x e;exact LF h hC hg hr e
 ·rename_i T x i e;exact atN h hC hg hr e
 ·rename_i T x i e;exact atO h hC hg hr e
 ·rename_i T x i e;exact atQ h hC hg hr e
 ·rename_i T x i e;exact atT h hC hg hr e
 ·rename_i x i e;exact atM h hC hg hr e
 ·rename_i T m k ok e;exact atW h hC hg hr e
 ·rename_i T x lo hi mx e;exact at0 h hC hg hr e
 ·rename_i f a b e;exact atP h hC hg hr e
 ·rename_i T ps e;exact atK h hC hg hr e
 ·rename_i x e;exact atX h hC hg hr e
 ·cases hr;intro ρ' ay;have:=(U0 hg ay).1;cases this
 ·rename_i c e;split at hr
  ·rename_i x T hc ha ht;refine atU h hC hg hr ?_;rw[e];cases c with|mk callee args argTypes=>
   simp only at hc ha ht;have h1:args=#[x]:=by rw[←vS];exact ha
   have h2:argTypes=#[T]:=by rw[←vS];exact ht
   rw[hc,h1,h2]
  ·rename_i x y hc ha;refine afI (ts:=c.argTypes) h hC hg hr ?_;rw[e];cases c with|mk callee args argTypes=>
   simp only at hc ha;have h1:args=#[x,y]:=by rw[←vS];exact ha
   rw[hc,h1];rfl
  ·rename_i x y hc ha;refine afI (ts:=c.argTypes) h hC hg hr ?_;rw[e];cases c with|mk callee args argTypes=>
   simp only at hc ha;have h1:args=#[x,y]:=by rw[←vS];exact ha
   rw[hc,h1];rfl
  ·cases hr
 ·cases hr
theorem alU (h:Inv C S ρ σ own hv w0 σ0 A a w)(ht:¬A dst)(ar:dst<a.tmps.size){T:TypeId}{x:Operand}{r:St×List PI}(hr:ur C S dst T x=some r){o:Oper}(hd:o.dst=some dst)(ho:o.op=.assign x):cC C w0 σ0 Φ S ρ A a w o r:=by
 unfold ur at hr;split at hr
 case h_2=>cases hr
 rename_i v;simp only[aG] at hr;obtain⟨t,_,z,hz,hr⟩:=hr;cases hc:jL t v<;>simp only[hc,cond_true,cond_false] at hr
 ·cases hr
 cases hr;have cK:=(yH (cap:=C.cap) (σ:=σ) hz hc).1;refine cC.value hd fun ρ' ay=>⟨v,w,by simp[execOp,ho,Act.eval],?_⟩
 have hρ:ρ'=ρ.setR dst z.2:=by simp[PI.runs,PI.run,PE.ev] at ay;exact ay.symm
 subst hρ;exact⟨_,_,_,h.setReg ht (s:=.dat z.1) cK ar (fun _ _ e=>by cases e)⟩
theorem ak1 (h:Inv C S ρ σ own hv w0 σ0 A a w)(hC:CtxOK C σ0)(bA:eh C)(hΦ:dM C Φ){o:Oper}(ht:∀d,o.dst=some d→¬A d∧d<a.tmps.size)(ez:∀g,g∈gs→A g.1)(hg:holds gs ρ=true){r:St×List PI}
 (hr:core C S gs o=some r):cC C w0 σ0 Φ S ρ A a w o r:=by
 unfold core at hr;split at hr
 ·rename_i dst hd;obtain⟨fq,fu⟩:=ht dst hd;split at hr
  ·rename_i q hq;cases eA:Lc q.1<;>simp only[eA,cond_true,cond_false] at hr
   ·cases hr
   cases hr;have ab2:=atZ (Φ:=Φ) h hC hg hq;cases gs with
   |nil=>exact ab2.eff h fq fu hd
   |cons g bZ=>exact ab2.effG h fq fu ez hg hd
  ·rename_i Ef;clear Ef;split at hr
   ·rename_i x e
    have mv:∀r,(match xN C S [] dst x with|some r=>some (S.setR dst r.1,r.2)|none=>ur C S dst o.type x)=some r→cC C w0 σ0 Φ S ρ A a w o r:=by
     intro r hr;split at hr
     ·rename_i q hq;cases hr;exact(afJ (Φ:=Φ) h hC hg hq (.inr e)).eff h fq fu hd
     ·exact alU h fq fu hr hd e
    cases gj:C.fr.any (Nat.beq dst)<;>simp only[gj,cond_true,cond_false] at hr
    ·split at hr
     ·rename_i q hq;cases hr;exact alO h hC fq fu hq hd e
     ·exact mv r hr
    ·exact mv r hr
   ·rename_i T e;exact alp h fq fu hr hd e
   ·rename_i T x e;exact alu h hC fq fu hr hd e
   ·rename_i T n ps e;split at hr
    ·exact alw h hC fq fu hr hd e
    ·exact alG h hC fq fu ez hg hr hd e
   ·rename_i T l c e;exact alK h hC fq fu hr hd e
   ·rename_i T m e;exact alI h fq fu hr hd e
   ·rename_i T x e;exact alQ h fq fu hr hd e
   ·rename_i T U x e;exact aly h hC fq fu hr hd e
   ·rename_i c e;cases c with|mk callee args argTypes=>
    split at hr
    ·rename_i hc;simp only at hc;split at hr
     ·rename_i s x T T' ha Q7;simp only at ha Q7;cases hT:Nat.beq T T'<;>simp only[hT,cond_true,cond_false] at hr
      ·cases hr
      have Az:=aN hT;subst Az;refine alr h hC fq fu hr hd ?_;have h1:args=#[s,x]:=by rw[←vS];exact ha
      have h2:argTypes=#[T,T]:=by rw[←vS];exact Q7
      rw[e,hc,h1,h2]
     ·cases hr
    ·rename_i f hc;simp only at hc;split at hr
     ·rename_i q hq;cases hr;exact alE h hC bA hΦ fq fu ez hg hq hd (by rw[e,hc])
     ·split at hr
      ·split at hr
       ·rename_i q hq;cases hr;exact alC h hC bA hΦ fq fu hq hd (by rw[e,hc])
       ·simp only[aR] at hr;obtain⟨q,hq,rfl⟩:=hr;rw[←hd];exact Z1 h hC bA hΦ ht hq (by rw[e,hc])
      ·cases hr
    ·rename_i x hnf hc;simp only at hc;split at hr
     ·rename_i q hq;cases hr;exact alA h hC bA hΦ fq fu ez hg hq hd (by rw[e,hc])
     ·split at hr
      ·simp only[aR] at hr;obtain⟨q,hq,rfl⟩:=hr;rw[←hd];exact ZZ h hC bA hΦ ht hq (by rw[e,hc])
      ·cases hr
    ·cases hr
   ·rename_i fn first caps e;exact alM h fq fu hr hd e
   ·cases hr
 ·rename_i hd;split at hr
  ·rename_i T x v e;exact alS h hC hr hd e
  ·rename_i T m k v e;exact Z3 h hC hr hd (.inl e)
  ·rename_i T m k v e;exact Z3 h hC hr hd (.inr e)
  ·cases hr;intro ρ' ay;simp[PI.runs,PI.run,PE.ev,D.bool,D.b] at ay
  ·rename_i c e;cases c with|mk callee args argTypes=>
   split at hr
   ·rename_i f hc;simp only at hc;simp only[aR] at hr;obtain⟨q,hq,rfl⟩:=hr;rw[←hd];exact Z1 h hC bA hΦ ht hq (by rw[e,hc])
   ·rename_i t hc;simp only at hc;simp only[aR] at hr;obtain⟨q,hq,rfl⟩:=hr;rw[←hd];exact ZZ h hC bA hΦ ht hq (by rw[e,hc])
   ·cases hr
  ·cases hr
theorem akZ {g:Nat×Bool}{bZ:List (Nat×Bool)}{o:Oper}{r:St×List PI}(hr:core C S (g::bZ) o=some r):
 ∃dst S2 s,o.dst=some dst∧r.1=S2.setR dst (.opt (g::bZ) s)∧((∃js,S2=S.fzs js)∨∃j,S2=S.newO j .dead)∧(∀gs s',s≠.opt gs s')∧(∀x,o.op≠.assign x)∧(∀T,o.op≠.alloc T)∧∀T x v,o.op≠.store T x v:=by
 unfold core at hr;split at hr
 ·rename_i dst hd;split at hr
  ·rename_i q hq;cases eA:Lc q.1<;>simp only[eA,cond_true,cond_false] at hr
   ·cases hr
   cases hr;refine⟨dst,S,q.1,hd,rfl,.inl ⟨[],rfl⟩,(fun gs s' e=>by rw[e] at eA;cases eA),fun x e=>?_,fun T e=>?_,fun T x v e=>?_⟩<;>(rw[e] at hq;simp[LH] at hq)
  ·rename_i Ef;clear Ef;split at hr
   case h_4=>
        rename_i T n ps e;split at hr
        ·rename_i hx;cases hx
        ·unfold An at hr;split at hr
         case h_2=>cases hr
         simp only[aG] at hr;obtain⟨e0,he0,hr⟩:=hr;split at hr
         ·cases hr;exact⟨dst,_,.dat (.slice e0.rol),hd,rfl,.inr ⟨dst,rfl⟩,(fun _ _ e=>by cases e),(fun x e'=>by rw[e] at e';cases e'),(fun x e'=>by rw[e] at e';cases e'),(fun _ _ _ e'=>by rw[e] at e';cases e')⟩
         ·cases hr
   case h_9=>
        rename_i c e;split at hr
        ·rename_i hx;cases hx
        ·rename_i f hc;split at hr
         ·rename_i q hq;cases hr;simp only[Am,aG] at hq;obtain⟨s,hs,hq⟩:=hq;split at hq
          case h_2=>cases hq
          simp only[aG] at hq;obtain⟨u,hu,hq⟩:=hq;cases cR:Ty.subs u.1 s.args<;>simp only[cR,cond_true,cond_false] at hq
          ·cases hq
          cases hq;refine⟨dst,_,.dat s.res,hd,rfl,?_,(fun _ _ e=>by cases e),(fun x e'=>by rw[e] at e';cases e'),(fun x e'=>by rw[e] at e';cases e'),(fun _ _ _ e'=>by rw[e] at e';cases e')⟩;left;cases s.res.pure
          ·exact⟨_,rfl⟩
          ·exact⟨[],rfl⟩
         ·cases hr
        ·rename_i x hnf hc;have hr:∃q,wI C S (g::bZ) dst x c.args.toList=some q∧(q.1.setR dst (sH (g::bZ) q.2.1),q.2.2)=r:=by
          split at hr
          ·rename_i q hq;cases hr;exact⟨q,hq,rfl⟩
          ·split at hr
           all_goals (first|(cases hr;done)|(rename_i hx;cases hx;done)|(rename_i hx _;cases hx;done)|(rename_i hx _ _;cases hx;done)|(rename_i hx;exact absurd hx (by simp)))
         obtain⟨q,hq,rfl⟩:=hr;unfold wI at hq;split at hq
         case h_2=>cases hq
         rename_i aa r0 ee hu0;split at hq
         case h_1=>cases hq
         simp only[aG] at hq;obtain⟨u,hu,hq⟩:=hq;cases cR:Ty.subs u.1 aa<;>simp only[cR,cond_true,cond_false] at hq
         ·cases hq
         cases hq;refine⟨dst,_,.dat r0,hd,rfl,?_,(fun _ _ e=>by cases e),(fun x e'=>by rw[e] at e';cases e'),(fun x e'=>by rw[e] at e';cases e'),(fun _ _ _ e'=>by rw[e] at e';cases e')⟩;left;cases r0.pure
         ·exact⟨_,rfl⟩
         ·exact⟨[],rfl⟩
        ·cases hr
   all_goals (first|(cases hr;done)|(rename_i hx;cases hx;done)|(rename_i hx _;cases hx;done))
 ·split at hr
  all_goals (first|(cases hr;done)|(rename_i hx;cases hx;done)|(rename_i hx _;cases hx;done))
theorem abR {ρ ρ1:Env}:∀{l:List (Nat×Bool)},(∀g,g∈l→ρ1.r g.1=ρ.r g.1)→holds l ρ1=holds l ρ
 |[],_=>rfl
 |x::l,h=>by
  have ih:=abR (l:=l) fun y hy=>h y (fL _ hy);unfold holds at ih ⊢;simp only[uc];rw[ih,h x (gd ..)]
theorem aaq:∀(l:List Gh) {S:St} {r:St×List PI},m6 C l S=some r→∀t,t∉r.2.flatMap PI.modR
 |[],S,r,hr=>by simp only[m6,bx] at hr;subst hr;simp
 |g::l,S,r,hr=>by
  simp only[m6,aG,aR] at hr;obtain⟨q,hq,q2,ju,rfl⟩:=hr;have ih:=aaq l ju;have hg:∀t,t∉q.2.flatMap PI.modR:=by
   cases g with
   |fz j=>simp only[Gh.run,bx] at hq;subst hq;simp
   |fbox b=>
    simp only[Gh.run,DK] at hq;split at hq
    case h_2=>cases hq
    simp only[aG] at hq;obtain⟨x,hx,hq⟩:=hq;rename_i ag aO eo;cases ag<;>simp only[cond_true,cond_false] at hq
    ·split at hq
     ·cases hq;simp[PI.modR]
     ·cases hq
    ·cases hq;simp[PI.modR]
   |rereg t j=>
    simp only[Gh.run,GI] at hq;split at hq
    ·rename_i j' ver es;cases hb:(Nat.beq ver (S.ver j')&&ns (S.o j')&& !Nat.beq j' j)<;>simp only[hb,cond_true,cond_false] at hq<;>cases hq<;>simp[PI.modR]
    ·cases hq;simp
   |recell b i j=>
    simp only[Gh.run,GH] at hq;split at hq
    ·split at hq
     ·rename_i ag aO eo j' ver es;cases hb:(Nat.beq ver (S.ver j')&&ns (S.o j')&& !Nat.beq j' j&& !Nat.beq b j&& !Nat.beq b j')<;>simp only[hb,cond_true,cond_false] at hq<;>cases hq<;>simp[PI.modR]
     ·cases hq;simp
    ·cases hq;simp
   |home b i j T=>
    simp only[Gh.run,Ei] at hq;split at hq
    ·split at hq
     ·cases hb:(!Nat.beq b j)<;>simp only[hb,cond_true,cond_false] at hq<;>cases hq<;>simp[PI.modR]
     ·cases hq;simp
    ·cases hq;simp
  intro t hm;rw[List.flatMap_append,da] at hm;exact hm.elim (hg t) (ih t)
theorem akS (h:Good C w0 σ0 S ρ A a w)(hC:CtxOK C σ0)(bA:eh C)(hΦ:dM C Φ){ops:Array Oper}{o:Oper}(ht:∀d,o.dst=some d→¬A d∧d<a.tmps.size)
 (hj:∀j want t,o.guard=some (j,want)→(ops[j]?).bind (·.dst)=some t→A t) {r:St×List PI} (hr:JC C S ops o=some r) {ρ':Env} (ay:PI.runs Φ r.2 ρ=some ρ')
 {K:Act→World→Prop} {Q:Exit→Act→World→Prop} (hK:∀a' w',Good C w0 σ0 r.1 ρ' (fun u=>A u∨o.dst=some u) a' w'→a'.tmps.size=a.tmps.size→K a' w'):
 if Region.wanted o (yielded ops a.tmps) then o.wp C.P a w K Q else K (a.put o.dst undef) w:=by
 simp only[JC,aG] at hr;obtain⟨gs,ez,r1,oq,r2,sU,r3,KD,hr⟩:=hr;have AL:=aat h ez hj;rw[aau h ez];cases hc:JR gs o.dst r2.2<;>simp only[hc,cond_true,cond_false] at hr
 ·cases hr
 cases hr;simp only[tQ,aG] at ay;obtain⟨ρ2,⟨ρ1,hρ1,hρ2⟩,hρ3⟩:=ay;have h1:=PS _ h oq hρ1;have cu:=h1;obtain⟨σ1,kB,bJ,i1⟩:=cu;have Kh:holds gs ρ1=holds gs ρ:=by
  cases gs with
  |nil=>rfl
  |cons g bZ=>
   have hb:=(PI.runs_but hρ1).r
   have:∀x,x∈(g::bZ)→ρ1.r x.1=ρ.r x.1:=fun x hm=>hb x.1 (by
        intro cJ;exact aaq _ oq x.1 cJ)
   exact abR this
 cases hh:holds gs ρ with
 |true=>
  simp only[if_true];rw[hh] at Kh;refine ak1 i1 hC bA hΦ ht AL Kh sU ρ2 hρ2 K Q (fun a' w' fF bp=>?_);exact hK a' w' (PS (r:=r3) _ fF KD hρ3) bp
 |false=>
  simp only[yJ,if_false];rw[hh] at Kh;cases gs with
  |nil=>simp[holds] at hh
  |cons g bZ=>
   obtain⟨dst,S2,s,hd,hS,uy,hns,n1,n2,n3⟩:=akZ sU;obtain⟨t1,t2⟩:=ht dst hd;have pY:post C r2.1 o=[]:=by
        unfold post;split
        ·rename_i x t e _;exact absurd e (n1 x)
        ·rename_i T t e _;exact absurd e (n2 T)
        ·rename_i T x v e;exact absurd e (n3 T x v)
        ·rfl
   rw[pY] at KD;simp only[m6,bx] at KD;subst KD;have:=oO hρ3;subst this;obtain⟨σ2,jB,i2⟩:∃σ2 jB,Inv C S2 ρ1 σ2 jB bJ w0 σ0 A a w:=by
        rcases uy with⟨js,rfl⟩|⟨j,rfl⟩
        ·obtain⟨σ2,jB,_,i2⟩:=Inv.fzs js i1;exact⟨σ2,jB,i2⟩
        ·exact⟨σ1,kB,i1.kill j⟩
   have Ek:=i2.passed t1 t2 AL Kh (s:=s) hns (ρ'.r dst);have hρe:ρ1.setR dst (ρ'.r dst)=ρ':=by
        have hb:=PI.runs_but hρ2;simp only[JR,hd] at hc;unfold afH at hc;rw[fl] at hc
        have e1:∀t,t≠dst→ρ'.r t=ρ1.r t:=fun t aA=>hb.r t (fun hm=>by
         obtain⟨p,hp,sT⟩:=Hd.1 hm;have:=hc p hp;simp only[az] at this;have:=fl.1 this.1 t sT;exact aA (aN this).symm)
        have e2:∀t,ρ'.o t=ρ1.o t:=fun t=>hb.o t (fun hm=>by
         obtain⟨p,hp,sT⟩:=Hd.1 hm;have:=hc p hp;simp only[az] at this;have h9:=YN.1 this.2;rw[h9] at sT;cases sT)
        have r1:cE ρ1.r dst (ρ'.r dst)=ρ'.r:=by
         funext t;rw[gN];split
         ·rename_i e;subst e;rfl
         ·rename_i aA;exact(e1 t aA).symm
        have r2:ρ1.o=ρ'.o:=funext fun t=>(e2 t).symm;cases ρ' with|mk a b=>simp only[Env.setR] at r1 r2 ⊢;rw[r1,r2]
   rw[hρe] at Ek;have mu:(fun u=>A u∨o.dst=some u)=(fun u=>A u∨u=dst):=by funext u;rw[hd];simp[eq_comm]
   rw[mu] at hK;rw[hd];refine hK _ _ ?_ (size_put _ _ _);simp only;rw[hS];exact⟨_,_,_,Ek⟩
theorem akU (h:Good C w0 σ0 S ρ A a w)(hC:CtxOK C σ0)(bA:eh C)(hΦ:dM C Φ){ops:Array Oper}{o:Oper}(ht:∀d,o.dst=some d→¬A d∧d<a.tmps.size)
 (hj:∀j want t,o.guard=some (j,want)→(ops[j]?).bind (·.dst)=some t→A t) {r:St×List PI} (hr:Dk C S ops o=some r) {ρ':Env} (ay:PI.runs Φ r.2 ρ=some ρ')
 {K:Act→World→Prop} {Q:Exit→Act→World→Prop} (hK:∀a' w',Good C w0 σ0 r.1 ρ' (fun u=>A u∨o.dst=some u) a' w'→a'.tmps.size=a.tmps.size→K a' w'):
 if Region.wanted o (yielded ops a.tmps) then o.wp C.P a w K Q else K (a.put o.dst undef) w:=by
 unfold Dk at hr;split at hr
 ·rename_i q hq;cases hr;exact akS h hC bA hΦ ht hj hq ay hK
 ·cases hr;simp[PI.runs,PI.run,GR,PE.ev,D.b_bool] at ay
end
end Cx
namespace Cx
open Go Go.RowKit
def rl:Op→Bool
 |.defer _=>false
 |_=>true
def FR (rd:Option Nat):Fence:={Fence.wide with round:=rd}
theorem Zz {rd:Option Nat}{n:Nat}{P:Program}{f:FuncId}{args:Array Value}{w:World}{R:Ending→World→Prop}(h:Calls P f args w R):CallsIn (FR rd) n P f args w R:=
 (callsIn_wide (n:=n)).2 h
theorem afK {rd:Option Nat}{n:Nat}{P:Program}{o:Oper}{a:Act}{w:World}{K:Act→World→Prop}{Q:Exit→Act→World→Prop}(bX:rl o.op=true)(h:o.wp P a w K Q):o.wpIn (FR rd) n P a w K Q:=by
 refine⟨fun _ _=>trivial,?_⟩;rw[Oper.semAt_eq _ _ _ (fun c e=>by rw[e] at bX;cases bX)];unfold Oper.wp at h;generalize (execOp a.eval o).run P w=x at h;have eA:∀{p:Prop},((FR rd).depth.isSome=true→p):=fun e=>by cases e
 cases x with
 |ok v w'=>
  cases v with
  |value v=>exact h
  |skip=>exact h
  |defer d=>exact h
  |enter f args=>
   refine⟨eA,(Zz h).mono fun e ls hh=>?_⟩;cases e<;>exact hh
  |row row args=>
   refine⟨eA,fun c cs _=>?_⟩;obtain⟨v,w2,h1,h2⟩:=h c cs;exact⟨v,w2,h1,stepsIn_wide.2 h2⟩
  |_=>exact h.elim
 |halt v w'=>
  cases v with
  |panic v=>exact h
  |_=>exact h.elim
structure SameBut (D:Nat→Prop) (a a':Act):Prop where
 size:a'.tmps.size=a.tmps.size
 get:∀t,¬D t→a'.tmps.getD t undef=a.tmps.getD t undef
theorem SameBut.refl (D:Nat→Prop)(a:Act):SameBut D a a:=⟨rfl,fun _ _=>rfl⟩
theorem SameBut.trans {D:Nat→Prop}{a b c:Act}(h:SameBut D a b)(k:SameBut D b c):SameBut D a c:=⟨k.size.trans h.size,fun t ht=>(k.get t ht).trans (h.get t ht)⟩
theorem SameBut.mono {D D':Nat→Prop}{a b:Act}(h:SameBut D a b)(hd:∀t,D t→D' t):SameBut D' a b:=⟨h.size,fun t ht=>h.get t fun e=>ht (hd t e)⟩
theorem SameBut.put (a:Act)(d:Option Tmp)(v:Value)(ds:List Deferred):SameBut (fun t=>d=some t) a ({a with defers:=ds}.put d v):=by
 refine⟨size_put _ _ _,fun t ht=>?_⟩;cases d with
 |none=>rfl
 |some u=>
  have:t≠u:=fun e=>ht (by rw[e]);rw[GW];simp[this]
theorem Oper.wp_same {P:Program}{o:Oper}{a:Act}{w:World}{K:Act→World→Prop}{Q:Exit→Act→World→Prop}(h:o.wp P a w (fun a' w'=>SameBut (fun t=>o.dst=some t) a a'→K a' w') Q):o.wp P a w K Q:=by
 unfold Oper.wp at h ⊢;generalize (execOp a.eval o).run P w=x at h ⊢;cases x with
 |ok v w'=>
  cases v with
  |value v=>exact h (SameBut.put a _ _ a.defers)
  |skip=>exact h (SameBut.put a _ _ a.defers)
  |defer d=>exact h (SameBut.put a _ _ _)
  |enter f args=>
   refine Calls.mono h fun e ls hh=>?_;cases e with
   |returned v=>exact hh (SameBut.put a _ _ a.defers)
   |panicked c=>exact hh
   |outgrown=>exact hh
  |row row args=>exact Rows.mono h fun v ls hh=>hh (SameBut.put a _ _ a.defers)
  |_=>exact h
 |halt v w'=>
  cases v with
  |panic v=>exact h
  |_=>exact h
def YZ (P:Program)(v:Value)(args:List Value)(w:World)(R:Value→World→Prop):Prop:=
 ∀(rd:Option Nat) (o:Oper) (a:Act) (x:Operand) (aa:Array Operand) (ts:Array TypeId) (K:Act→World→Prop) (Q:Exit→Act→World→Prop),
  o.op=.call {callee:=.value x,args:=aa,argTypes:=ts}→a.eval x=v→aa.toList.map a.eval=args→(∀u w',R u w'→K (a.put o.dst u) w')→o.wpIn (FR rd) 0 P a w K Q
def mO:Nat:=1000000009
def sl (C:Ctx)(Φ:aY)(w0:World)(σ0:Base):Prop:=∀J ys,C.yl=some (J,ys)→σ0.B=0∧(∀t fx cx w,σ0.F t fx cx w→∃xs,t=.list xs)∧
 ∀(xs cH:List D) (d:D),Φ mO [.list (xs++[.tup cH])]=some d→∀(fx cx:Nat→Prop) (w1:World) (σ1:Im) (args:List Value),σ0.F (.list xs) fx cx w1→σ1.ok w1→qw C σ1 ys args cH→
  (∀k o x,σ1.c k o=some x→¬cx k)→(∀k x,σ1.m k=some x→¬cx k)→
  (∀k o x,σ1.c k o=some x→σ0.c k o=some x∨w0.heap.size≤k)→(∀k x,σ1.m k=some x→σ0.m k=some x∨w0.heap.size≤k)→
  YZ C.P C.yv args w1 fun u w2=>∃b,d=.v (.bool b)∧u=.bool b∧Below 0 w1 w2∧(∀k,k<w1.heap.size→¬cx k→w2.heap[k]?=w1.heap[k]?)∧
   ∃m5 m0,σ0.F (.list (xs++[.tup cH])) m5 m0 w2∧(∀k,m5 k→k<w1.heap.size→fx k∨(∃o x,σ1.c k o=some x)∨(∃x,σ1.m k=some x∧x≠fN))∧(∀k,m0 k→k<w1.heap.size→cx k)
def Nh (gs:List (Nat×Bool))(J:Nat)(x:PE):PE:=
 match gs with
 |[]=>.app (.o J) (.lst [x])
 |_=>.pick (.nt (.imp gs (.con (.v (.bool false))))) (.app (.o J) (.lst [x])) (.o J)
def JE (C:Ctx)(S:St)(ops:Array Oper)(o:Oper):Option (St×List PI):=
 match o.dst,o.op,C.yl with
 |some dst,.call {callee:=.value (.tmp t),args:=args,..},some (J,ys)=>
  (Aw S ops o).bind fun gs=>
    match qt S gs t with
    |.yv=>
     match(S.fzs (eR S gs args.toList)).o J with
     |.tr=>
      (rN C (S.fzs (eR S gs args.toList)) gs args.toList).bind fun u=>
        bif Ty.subs u.1 ys then some ((S.fzs (eR S gs args.toList)).setR dst (sH gs (.dat .bool)),[.setO J (Nh gs J (.tup u.2)),.call gs dst mO [.o J]]) else none
     |_=>none
    |_=>none
 |_,_,_=>none
def wG (C:Ctx)(S:St)(ops:Array Oper)(o:Oper):Option (St×List PI):=
 match JE C S ops o with
 |some r=>some r
 |none=>Dk C S ops o
section
variable {C:Ctx} {S:St} {ρ:Env} {σ:Im} {own:Nat→Option Nat} {hv:Nat→Value} {w0:World} {σ0:Base} {A:Nat→Prop} {a:Act} {w:World} {gs:List (Nat×Bool)} {Φ:aY} {dst:Nat}
theorem awR (gs:List (Nat×Bool))(J:Nat)(x:PE)(ρ:Env):(Nh gs J x).ev ρ=if holds gs ρ=true then .list ((ρ.o J).l++[x.ev ρ]) else ρ.o J:=by
 cases gs with
 |nil=>simp[Nh,PE.ev,PE.evs,holds,D.l_list]
 |cons g gs=>
  simp only[Nh,PE.ev,PE.evs,D.b_bool,D.l_list,NG,Bool.not_not];cases holds (g::gs) ρ<;>rfl
theorem Inv.yielded (h:Inv C S ρ σ own hv w0 σ0 A a w)(hB:σ0.B=0){J:Nat}{ys:List Ty}(hJ:C.yl=some (J,ys))(J3:S.o J=.tr){w2:World}(hb:Below 0 w w2){t:D}{fx cx:Nat→Prop}(hf:FrOK σ own w0.heap.size σ0 w t fx cx)
 (hs:∀k,k<w.heap.size→¬cx k→w2.heap[k]?=w.heap[k]?) {t':D} {m5 m0:Nat→Prop} (hF:σ0.F t' m5 m0 w2)
 (h1:∀k,m5 k→k<w.heap.size→fx k∨(∃o x,σ.c k o=some x)∨(∃x,σ.m k=some x∧x≠fN)) (h2:∀k,m0 k→k<w.heap.size→cx k):Inv C S (ρ.setO J t') σ own hv w0 σ0 A a w2:=by
 have cR:=σ0.sub _ _ _ _ hf.F;have jV:∀k o x,σ.c k o=some x→w2.heap[k]?=w.heap[k]?:=fun k o x e=>hs k (h.lt e) (hf.c k o x e);have hms:∀k x,σ.m k=some x→w2.heap[k]?=w.heap[k]?:=fun k x e=>hs k (h.ltm e) (hf.m k x e);have hos:∀k j,own k=some j→w2.heap[k]?=w.heap[k]?:=fun k j e=>hs k (h.owns k j e).2.1 fun hc=>hf.own k j e (cR k hc)
 refine⟨h.defers,⟨fun k o v e=>by rw[World.cell?_of_block (jV k o v e)];exact h.ok.c k o v e,fun k x e=>(h.ok.m k x e).keep (hms k x e)⟩,h.le,h.old,h.newc,h.newm,h.below.trans (hb.mono (by omega)),h.bw,
  fun k j e=>let⟨g1,g2,g3⟩:=h.owns k j e;⟨g1,Hf g2 hb.size,g3⟩,fun u=>bf.mono (S:=S) (ρ:=ρ) (ρ':=ρ.setO J t') (.refl σ) (.refl S hv) (d:=ρ.r u) (fun _ _ _=>rfl) (fun gs s e=>(h.opts u gs s e).2) (h.regs u),fun j=>?_,h.opts,
  t',m5,m0,⟨hF,fun k j e hk=>?_,fun k o x e hc=>hf.c k o x e (h2 k hc (h.lt e)),fun k x e hc=>hf.m k x e (h2 k hc (h.ltm e)),fun k e hB2 hk=>?_⟩,fun j hj=>?_⟩
 ·by_cases AQ:j=J
  ·subst AQ;rw[J3];trivial
  ·exact(h.objs j).mono (.refl σ) (.refl S hv) rfl (by simp[Env.setO,bR _ _ AQ]) (fun k e=>⟨e,hos k j e⟩)
 ·obtain⟨_,g2,g3,g4⟩:=h.owns k j e;rcases h1 k hk g2 with e1|⟨o,x,e1⟩|⟨x,e1,_⟩
  ·exact hf.own k j e e1
  ·rw[g3 o] at e1;cases e1
  ·rw[g4] at e1;cases e1
 ·rcases h1 k hk (h.ltm e) with e1|⟨o,x,e1⟩|⟨x,e1,e2⟩
  ·exact hf.d k e hB2 e1
  ·have c1:=h.ok.c k o x e1;rcases h.ok.m k _ e with⟨m1,_⟩|⟨_,m2⟩
   ·exact m1 rfl
   ·simp[World.cell?,m2] at c1
  ·rw[e] at e1;cases e1;exact e2 rfl
 ·obtain⟨_,_,_,_,ht⟩:=h.frame;obtain⟨⟨ys',e1⟩,_⟩:=ht j hj;rw[hJ] at e1;cases e1;exact⟨⟨_,hJ⟩,be _ _ _⟩
theorem akV {rd:Option Nat}(h:Good C w0 σ0 S ρ A a w)(hC:CtxOK C σ0)(hY:sl C Φ w0 σ0){ops:Array Oper}{o:Oper}(ht:∀d,o.dst=some d→¬A d∧d<a.tmps.size)
 (hj:∀j want t,o.guard=some (j,want)→(ops[j]?).bind (·.dst)=some t→A t) {r:St×List PI} (hr:JE C S ops o=some r) {ρ':Env} (ay:PI.runs Φ r.2 ρ=some ρ')
 {K:Act→World→Prop} {Q:Exit→Act→World→Prop} (hK:∀a' w',Good C w0 σ0 r.1 ρ' (fun u=>A u∨o.dst=some u) a' w'→SameBut (fun t=>o.dst=some t) a a'→K a' w'):
 if Region.wanted o (yielded ops a.tmps) then o.wpIn (FR rd) 0 C.P a w K Q else K (a.put o.dst undef) w:=by
 unfold JE at hr;split at hr
 case h_2=>cases hr
 rename_i _ _ dst t args ts J ys hd dp np;simp only[aG] at hr;obtain⟨gs,ez,hr⟩:=hr;split at hr
 case h_2=>cases hr
 rename_i EG;split at hr
 case h_2=>cases hr
 rename_i J3;simp only[aG] at hr;obtain⟨u,hu,hr⟩:=hr;cases cR:Ty.subs u.1 ys<;>simp only[cR,cond_true,cond_false] at hr
 ·cases hr
 cases hr;have AL:=aat h ez hj;rw[aau h ez];obtain⟨σ,own,hv,i⟩:=h;obtain⟨σ1,kB,hle,i1⟩:=Inv.fzs (eR S gs args.toList) i;obtain⟨t1,t2⟩:=ht dst hd;have mu:(fun u=>A u∨o.dst=some u)=(fun u=>A u∨u=dst):=by funext u;rw[hd];simp[eq_comm]
 rw[mu] at hK;simp only[PI.runs,PI.run,vY,awR,aG] at ay;cases hh:holds gs ρ with
 |false=>
  simp only[hh,yJ,if_false] at ay ⊢;have e1:ρ.setO J (ρ.o J)=ρ:=by
   cases ρ with|mk r o=>simp only[Env.setO];congr 1;funext x;rw[gN];split<;>simp_all
  rw[e1,hh] at ay;obtain⟨ρ1,e2,e3⟩:=ay;cases e2;cases e3;cases gs with
  |nil=>simp[holds] at hh
  |cons g bZ=>
   have Ek:=i1.passed t1 t2 AL hh (s:=.dat .bool) (fun _ _ e=>by cases e) (ρ.r dst);have e4:ρ.setR dst (ρ.r dst)=ρ:=by
        cases ρ with|mk r o=>simp only[Env.setR];congr 1;funext x;rw[gN];split<;>simp_all
   rw[e4] at Ek;rw[hd];exact hK _ _ ⟨_,_,_,Ek⟩ (by rw[hd];exact SameBut.put a (some dst) undef a.defers)
 |true=>
  simp only[hh,if_true] at ay ⊢;have lE:=Nz i1 hC hh hu cR;obtain⟨tr,fx,cx,hf,Ey⟩:=i1.frame;obtain⟨_,hρJ⟩:=Ey J J3;obtain⟨hB,apn,Ri⟩:=hY J ys np;obtain⟨xs,rfl⟩:=apn _ _ _ _ hf.F;rw[hρJ] at ay;simp only[D.l_list,PE.ev] at ay;obtain⟨ρ1,e2,e3⟩:=ay;cases e3;have hh2:holds gs (ρ.setO J (.list (xs++[.tup (PE.evs ρ u.2)])))=true:=hh;rw[hh2] at e2;simp only[cond_true,PE.evs,PE.ev,Env.setO,be,aR] at e2;obtain⟨d,e4,e5⟩:=e2;have hy:=Ri xs (PE.evs ρ u.2) d e4 fx cx w σ1 (args.toList.map a.eval) hf.F i1.ok lE hf.c hf.m i1.newc i1.newm;have cS:a.eval (.tmp t)=C.yv:=by
   have:=(tS i hh t).1;rw[EG] at this;have h9:a.tmps.getD t undef=C.yv:=this;simpa [Act.eval] using h9
  refine hy rd o a (.tmp t) args ts K Q dp cS rfl fun v w2 pY=>?_;obtain⟨b,rfl,rfl,hb,hs,m5,m0,hF,h1,h2⟩:=pY;have i2:=i1.yielded hB np J3 hb hf hs hF h1 h2;refine hK _ _ ?_ (SameBut.put a _ _ a.defers);rw[hd,←e5];change Good C w0 σ0 _ ((ρ.setO J (.list (xs++[.tup (PE.evs ρ u.2)]))).setR dst (.v (.bool b))) _ _ _;have hh3:holds gs ((ρ.setO J (.list (xs++[.tup (PE.evs ρ u.2)]))).setR dst (.v (.bool b)))=true:=by
   rw[Eh (t:=dst) fun g hm e=>t1 (by rw[←e];exact AL g hm)];exact hh2
  cases gs with
  |nil=>exact⟨_,_,_,i2.setReg t1 (s:=.dat .bool) (.bool b) t2 (fun _ _ e=>by cases e)⟩
  |cons g bZ=>
   refine⟨_,_,_,i2.setReg t1 (s:=.opt (g::bZ) (.dat .bool)) ⟨fun _=>.bool b,fun e=>absurd (hh3.symm.trans e) (by decide)⟩ t2 (fun gs s e=>?_)⟩;cases e;exact⟨AL,fun _ _ e=>by cases e⟩
theorem ZN {rd:Option Nat}(h:Good C w0 σ0 S ρ A a w)(hC:CtxOK C σ0)(bA:eh C)(hΦ:dM C Φ)(hY:sl C Φ w0 σ0){ops:Array Oper}{o:Oper}(bX:rl o.op=true)(ht:∀d,o.dst=some d→¬A d∧d<a.tmps.size)
 (hj:∀j want t,o.guard=some (j,want)→(ops[j]?).bind (·.dst)=some t→A t) {r:St×List PI} (hr:wG C S ops o=some r) {ρ':Env} (ay:PI.runs Φ r.2 ρ=some ρ')
 {K:Act→World→Prop} {Q:Exit→Act→World→Prop} (hK:∀a' w',Good C w0 σ0 r.1 ρ' (fun u=>A u∨o.dst=some u) a' w'→SameBut (fun t=>o.dst=some t) a a'→K a' w'):
 if Region.wanted o (yielded ops a.tmps) then o.wpIn (FR rd) 0 C.P a w K Q else K (a.put o.dst undef) w:=by
 unfold wG at hr;split at hr
 ·rename_i q hq;cases hr;exact akV h hC hY ht hj hq ay hK
 ·have:=akU (K:=fun a' w'=>SameBut (fun t=>o.dst=some t) a a'→K a' w') (Q:=Q) h hC bA hΦ ht hj hr ay (fun a' w' g _ hs=>hK a' w' g hs);split
  ·rename_i hw;rw[if_pos hw] at this;exact afK bX (Oper.wp_same this)
  ·rename_i hw;rw[if_neg hw] at this;exact this (SameBut.put a _ _ a.defers)
end
def uk (C:Ctx)(ops:Array Oper):List Nat→St→Option (St×List PI)
 |[],S=>some (S,[])
 |i::l,S=>
  match ops[i]? with
  |some o=>(wG C S ops o).bind fun r=>(uk C ops l r.1).map fun q=>(q.1,r.2++q.2)
  |none=>none
def BZ (n:Nat)(ops:Array Oper):Bool:=
 mE (ops.toList.filterMap (·.dst))&&ops.toList.all fun o=>rl o.op&&match o.dst with|some d=>Nat.blt d n|none=>true
section
variable {C:Ctx} {S:St} {ρ:Env} {σ:Im} {own:Nat→Option Nat} {hv:Nat→Value} {w0:World} {σ0:Base} {A:Nat→Prop} {a:Act} {w:World} {gs:List (Nat×Bool)} {Φ:aY} {dst:Nat}
def yx (ops:Array Oper)(done:List Nat):Nat→Prop:=fun t=>∃i o,i∈done∧ops[i]?=some o∧o.dst=some t
theorem JD.dst_once {ops:Array Oper}(bX:(ops.toList.filterMap (·.dst)).Nodup){i j:Nat}{o o':Oper}{d:Nat}(hi:ops[i]?=some o)(hj:ops[j]?=some o')(hd:o.dst=some d)(dP:o'.dst=some d)(aA:i≠j):False:=by
 have key:∀(l:List Oper),(l.filterMap (·.dst)).Nodup→∀(i j:Nat) (o o':Oper),l[i]?=some o→l[j]?=some o'→o.dst=some d→o'.dst=some d→i=j:=by
  intro l
  induction l with
  |nil=>intro _ i j o o' hi;simp at hi
  |cons x l ih=>
   intro bX i j o o' hi hj hd dP;have cJ:∀(k:Nat) (y:Oper),l[k]?=some y→y.dst=some d→d∈l.filterMap (·.dst):=fun k y hk hy=>yP.2 ⟨y,ud hk,hy⟩;cases hx:x.dst with
   |none=>
    rw[List.filterMap_cons_none hx] at bX;cases i with
    |zero=>simp at hi;subst hi;rw[hx] at hd;cases hd
    |succ i=>
     cases j with
     |zero=>simp at hj;subst hj;rw[hx] at dP;cases dP
     |succ j=>simp at hi hj;rw[ih bX i j o o' hi hj hd dP]
   |some y=>
    rw[List.filterMap_cons_some hx,uf] at bX;cases i with
    |zero=>
     simp at hi;subst hi;rw[hx] at hd;cases hd;cases j with
     |zero=>rfl
     |succ j=>simp at hj;exact absurd (cJ j o' hj dP) bX.1
    |succ i=>
     cases j with
     |zero=>
      simp at hj;subst hj;rw[hx] at dP;cases dP;simp at hi;exact absurd (cJ i o hi hd) bX.1
     |succ j=>simp at hi hj;rw[ih bX.2 i j o o' hi hj hd dP]
 exact aA (key ops.toList bX i j o o' (by simpa using hi) (by simpa using hj) hd dP)
def Ak (ops:Array Oper):Nat→Prop:=fun t=>∃o,o∈ops.toList∧o.dst=some t
theorem JD (hC:CtxOK C σ0)(bA:eh C)(hΦ:dM C Φ)(hY:sl C Φ w0 σ0){ops:Array Oper}{n:Nat}(aB:BZ n ops=true){rd:Option Nat}{Q:Exit→Act→World→Prop}:
 ∀(l done:List Nat) {S:St} {ρ ρ':Env} {a:Act} {w:World} {r:St×List PI},(done++l).Nodup→(∀p i q o j want,l=p++i::q→ops[i]?=some o→o.guard=some (j,want)→j∈done++p)→
  a.tmps.size=n→Good C w0 σ0 S ρ (yx ops done) a w→uk C ops l S=some r→PI.runs Φ r.2 ρ=some ρ'→
  (∀a' w',SameBut (Ak ops) a a'→Good C w0 σ0 r.1 ρ' (yx ops (done++l)) a' w'→Q .normal a' w')→wpOpsIn (FR rd) 0 C.P ops Q l a w:=by
 simp only[BZ,az] at aB;have bX:=tj aB.1;intro l
 induction l with
 |nil=>
  intro done S ρ ρ' a w r _ _ bp h hr ay hQ;simp only[uk,bx] at hr;subst hr;rw[oO ay] at hQ;simp only[wpOpsIn];exact hQ a w (.refl _ _) (by simpa using h)
 |cons i l ih=>
  intro done S ρ ρ' a w r w8 m9 bp h hr ay hQ;simp only[uk] at hr;split at hr
  case h_2=>cases hr
  rename_i o ho;simp only[aG,aR] at hr;obtain⟨r1,oq,q,hq,rfl⟩:=hr;simp only[tQ,aG] at ay;obtain⟨ρ1,hρ1,hρ2⟩:=ay;have Qi:∀d,o.dst=some d→¬yx ops done d∧d<a.tmps.size:=by
   intro d hd;refine⟨fun⟨i',o',eN,jr,dP⟩=>?_,?_⟩
   ·
        have aA:i'≠i:=by
         intro e;subst e;rw[Cs] at w8;exact w8.2.2 i' eN i' (gd ..) rfl
        exact JD.dst_once bX jr ho dP hd aA
   ·have:=fl.1 aB.2 o (by
     have:=oV ho;simpa using this)
    simp only[hd,az] at this;rw[bp];simpa [qC] using this.2
  have hj:∀j want t,o.guard=some (j,want)→(ops[j]?).bind (·.dst)=some t→yx ops done t:=by
   intro j want t hg ht;have:=m9 [] i l o j want rfl ho hg;simp only[rW] at this;rw[aG] at ht;obtain⟨oj,h1,h2⟩:=ht;exact⟨j,oj,this,h1,h2⟩
  have my:rl o.op=true:=by
   have:=fl.1 aB.2 o (by simpa using oV ho);simp only[az] at this;exact this.1
  have main:=ZN (rd:=rd) (K:=wpOpsIn (FR rd) 0 C.P ops Q l) (Q:=Q) h hC bA hΦ hY my Qi hj oq hρ1 (fun a' w' fF p5=>by
   have uS:=p5.size;refine ih (done++[i]) (by simpa using w8) (fun p i' q' o' j want e jr aoX=>?_) (uS.trans bp) ?_ hq hρ2 (fun a2 w2 s2 g2=>hQ a2 w2 ((p5.mono fun t e=>⟨o,by simpa using oV ho,e⟩).trans s2) (by simpa using g2))
   ·have:=m9 (i::p) i' q' o' j want (by rw[e];rfl) jr aoX;simpa using this
   ·have:(fun u=>yx ops done u∨o.dst=some u)=yx ops (done++[i]):=by
     funext u;apply propext;constructor
     ·rintro(⟨i',o',h1,h2,h3⟩|h1)
      ·exact⟨i',o',by simp[h1],h2,h3⟩
      ·exact⟨i,o,by simp,ho,h1⟩
     ·rintro⟨i',o',h1,h2,h3⟩;rcases da.1 h1 with h4|h4
      ·exact .inl ⟨i',o',h4,h2,h3⟩
      ·simp at h4;subst h4;rw[ho] at h2;cases h2;exact .inr h3
    rw[←this];exact fF)
  simp only[wpOpsIn,ho];split
  ·rename_i hw;rw[if_pos hw] at main;exact main
  ·rename_i hw;rw[if_neg hw] at main;exact⟨fun _ _=>trivial,main⟩
end
end Cx
namespace Cx
open Go Go.RowKit
def iM (S:St):Sh→Sh
 |.none=>.none
 |.dat t=>.dat t
 |.obj j ver=>bif Nat.beq ver (S.ver j) then .obj j 0 else .none
 |.ptr j ver off=>bif Nat.beq ver (S.ver j) then .ptr j 0 off else .none
 |.eptr j ver size off=>bif Nat.beq ver (S.ver j) then .eptr j 0 size off else .none
 |.opt _ _=>.none
 |.yv=>.yv
 |.fclo f caps=>bif caps.all (fun c=>Nat.beq c.2 (S.ver c.1)) then .fclo f (caps.map fun c=>(c.1,0)) else .none
def jz (S:St):Ob→Ob
 |.box ag aO=>.box ag (aO.map (iM S))
 |ob=>ob
def St.norm (S:St):St:=⟨fun t=>iM S (S.r t),fun j=>jz S (S.o j),fun _=>0⟩
def jy:Sh→Sh→Sh
 |.dat a,.dat b=>bif Ty.sub a b then .dat b else bif Ty.sub b a then .dat a else .none
 |.obj j v,.obj k u=>bif Nat.beq j k&&Nat.beq v u then .obj j v else .none
 |.ptr j v o,.ptr k u p=>bif Nat.beq j k&&Nat.beq v u&&Nat.beq o p then .ptr j v o else .none
 |.eptr j v s o,.eptr k u t p=>bif Nat.beq j k&&Nat.beq v u&&Nat.beq s t&&Nat.beq o p then .eptr j v s o else .none
 |.yv,.yv=>.yv
 |.fclo f a,.fclo g b=>bif Nat.beq f g&&wy a b then .fclo f a else .none
 |_,_=>.none
def xK:List Sh→List Sh→Option (List Sh)
 |[],[]=>some []
 |a::aa,b::bs=>(xK aa bs).map (jy a b::·)
 |_,_=>none
def ny:Ob→Ob→Ob
 |.fz a,.fz b=>bif Ty.beq a b then .fz a else .dead
 |.fbox a,.fbox b=>bif Ty.beq a b then .fbox a else .dead
 |.box ag aa,.box bg bs=>bif ag==bg then(match xK aa bs with|some cs=>.box ag cs|none=>.dead) else .dead
 |.row T e,.row U f=>bif Nat.beq T U&&Ty.beq e f then .row T e else .dead
 |.mp k e,.mp l f=>bif Ty.beq k l&&Ty.beq e f then .mp k e else .dead
 |.it k e,.it l f=>bif Ty.beq k l&&Ty.beq e f then .it k e else .dead
 |.tr,.tr=>.tr
 |_,_=>.dead
section
variable {C:Ctx} {S:St} {ρ:Env} {σ:Im} {own:Nat→Option Nat} {hv:Nat→Value} {w0:World} {σ0:Base} {A:Nat→Prop} {a:Act} {w:World} {gs:List (Nat×Bool)} {Φ:aY} {dst:Nat}
theorem Lb {s:Sh}{v:Value}{d:D}(h:bf C S ρ σ hv s v d):bf C S.norm ρ σ hv (iM S s) v d∧∀gs s',iM S s≠.opt gs s':=by
 cases s with
 |none=>exact⟨trivial,fun _ _ e=>by cases e⟩
 |dat t=>exact⟨h,fun _ _ e=>by cases e⟩
 |obj j ver=>
  simp only[iM];cases hb:Nat.beq ver (S.ver j)
  ·exact⟨trivial,fun _ _ e=>by cases e⟩
  ·exact⟨⟨bK _,fun _=>h.2 (aN hb)⟩,fun _ _ e=>by cases e⟩
 |ptr j ver off=>
  simp only[iM];cases hb:Nat.beq ver (S.ver j)
  ·exact⟨trivial,fun _ _ e=>by cases e⟩
  ·exact⟨⟨bK _,fun _=>h.2 (aN hb)⟩,fun _ _ e=>by cases e⟩
 |eptr j ver size off=>
  simp only[iM];cases hb:Nat.beq ver (S.ver j)
  ·exact⟨trivial,fun _ _ e=>by cases e⟩
  ·exact⟨⟨bK _,fun _=>h.2 (aN hb)⟩,fun _ _ e=>by cases e⟩
 |opt gs s=>exact⟨trivial,fun _ _ e=>by cases e⟩
 |yv=>exact⟨h,fun _ _ e=>by cases e⟩
 |fclo f caps=>
  simp only[iM];cases hb:caps.all (fun c=>Nat.beq c.2 (S.ver c.1))
  ·exact⟨trivial,fun _ _ e=>by cases e⟩
  ·refine⟨?_,fun _ _ e=>by cases e⟩;obtain⟨vs,h1,h2,h3⟩:=h;refine⟨vs,h1,by simpa using h2,fun i j ver hi=>?_⟩;simp only[dG,aR] at hi;obtain⟨⟨j',v'⟩,hc,e⟩:=hi;cases e;have:=fl.1 hb _ (ud hc);exact⟨bK _,fun _=>(h3 i _ _ hc).2 (aN this)⟩
theorem Inv.weaken (h:Inv C S ρ σ own hv w0 σ0 A a w){S':St}{ρ':Env}(hr:∀t,bf C S' ρ' σ hv (S'.r t) (a.tmps.getD t undef) (ρ'.r t))(ho:∀j,dX C S' ρ' σ own hv w w0.heap.size j (S'.o j))
 (hn:∀t gs s,S'.r t≠.opt gs s) (ht:∀j,S'.o j=.tr→S.o j=.tr∧ρ'.o j=ρ.o j):Inv C S' ρ' σ own hv w0 σ0 (fun _=>False) a w:=
 ⟨h.defers,h.ok,h.le,h.old,h.newc,h.newm,h.below,h.bw,h.owns,hr,ho,fun t gs s e=>absurd e (hn t gs s),by
   obtain⟨t,fx,cx,h1,h5⟩:=h.frame;exact⟨t,fx,cx,h1,fun j hj=>by rw[(ht j hj).2];exact h5 j (ht j hj).1⟩⟩
theorem adw {ob:Ob}(h:jz S ob=.tr):ob=.tr:=by
 cases ob<;>simp only[jz] at h<;>first|rfl|cases h
theorem as6 {x y:Ob}(h:ny x y=.tr):x=.tr∧y=.tr:=by
 cases x<;>cases y<;>simp only[ny] at h<;>first
  |exact⟨rfl,rfl⟩
  |(cases h;done)
  |skip
 ·rename_i a b;cases hb:Ty.beq a b<;>rw[hb] at h<;>cases h
 ·rename_i a b;cases hb:Ty.beq a b<;>rw[hb] at h<;>cases h
 ·rename_i ag aa bg bs;cases hb:ag==bg<;>rw[hb] at h
  ·cases h
  ·simp only[cond_true] at h;split at h<;>cases h
 ·rename_i T e U f;cases hb:(Nat.beq T U&&Ty.beq e f)<;>rw[hb] at h<;>cases h
 ·rename_i T e U f;cases hb:(Ty.beq T U&&Ty.beq e f)<;>rw[hb] at h<;>cases h
 ·rename_i T e U f;cases hb:(Ty.beq T U&&Ty.beq e f)<;>rw[hb] at h<;>cases h
theorem Inv.norm (h:Inv C S ρ σ own hv w0 σ0 A a w):Inv C S.norm ρ σ own hv w0 σ0 (fun _=>False) a w:=by
 refine h.weaken (fun t=>(Lb (h.regs t)).1) (fun j=>?_) (fun t=>(Lb (h.regs t)).2) (fun j hj=>⟨adw hj,rfl⟩);have bG:=h.objs j;show dX C S.norm ρ σ own hv w w0.heap.size j (jz S (S.o j));cases de:S.o j with
 |box ag aO=>
  rw[de] at bG;obtain⟨k,cs,T,ds,h1,h2,h3,h4,h5,h6,h7⟩:=bG;refine⟨k,cs,T,ds,h1,h2,h3,by simpa using h4,h5,by simpa using h6,fun i s hi=>?_⟩;simp only[dG,aR] at hi;obtain⟨s0,QW,rfl⟩:=hi;have:=Lb (h7 i s0 QW).2;exact⟨this.2,this.1⟩
 |_=>rw[de] at bG;exact bG
theorem Hs {b:Bool}{s:Sh}{v:Value}{d:D}(hs:∀gs s',s≠.opt gs s')(h:b=true→bf C S ρ σ hv s v d):bf C S ρ σ hv (bif b then s else .none) v d∧∀gs s',(bif b then s else Sh.none)≠.opt gs s':=by
 cases b with
 |true=>exact⟨h rfl,hs⟩
 |false=>exact⟨trivial,fun _ _ e=>by cases e⟩
theorem adm {s u:Sh}{v:Value}{d:D}(h:bf C S ρ σ hv s v d):bf C S ρ σ hv (jy s u) v d∧∀gs s',jy s u≠.opt gs s':=by
 cases s<;>cases u<;>simp only[jy]<;>first
  |exact⟨trivial,fun _ _ e=>by cases e⟩
  |exact Hs (fun _ _ e=>by cases e) (fun _=>h)
  |exact⟨h,fun _ _ e=>by cases e⟩
  |skip
 rename_i a b;cases h1:Ty.sub a b
 ·exact Hs (fun _ _ e=>by cases e) (fun _=>h)
 ·exact⟨Rep.sub h h1,fun _ _ e=>by cases e⟩
theorem adn {s u:Sh}{v:Value}{d:D}(h:bf C S ρ σ hv u v d):bf C S ρ σ hv (jy s u) v d∧∀gs s',jy s u≠.opt gs s':=by
 cases s<;>cases u<;>simp only[jy]<;>first
  |exact⟨trivial,fun _ _ e=>by cases e⟩
  |exact⟨h,fun _ _ e=>by cases e⟩
  |skip
 ·rename_i a b;cases h1:Ty.sub a b
  ·exact Hs (fun _ _ e=>by cases e) (fun h2=>Rep.sub h h2)
  ·exact⟨h,fun _ _ e=>by cases e⟩
 all_goals
  refine Hs (fun _ _ e=>by cases e) (fun hb=>?_);simp only[az] at hb
  first
   |(obtain⟨⟨⟨h1,h2⟩,h3⟩,h4⟩:=hb;rw[aN h1,aN h2,aN h3,aN h4];exact h)
   |(obtain⟨⟨h1,h2⟩,h3⟩:=hb;rw[aN h1,aN h2,aN h3];exact h)
   |(obtain⟨h1,h2⟩:=hb;rw[aN h1,aN h2];exact h)
   |(obtain⟨h1,h2⟩:=hb;rw[aN h1,Pf _ _ h2];exact h)
theorem RC:∀(aa bs cs:List Sh),xK aa bs=some cs→cs.length=aa.length∧cs.length=bs.length∧∀(i:Nat) (c:Sh),cs[i]?=some c→∃x y,aa[i]?=some x∧bs[i]?=some y∧c=jy x y
 |[],[],cs,h=>by simp[xK] at h;subst h;simp
 |[],b::bs,cs,h=>by simp[xK] at h
 |a::aa,[],cs,h=>by simp[xK] at h
 |a::aa,b::bs,cs,h=>by
  simp only[xK,aR] at h;obtain⟨ds,hd,rfl⟩:=h;obtain⟨h1,h2,h3⟩:=RC aa bs ds hd;refine⟨by simp[h1],by simp[h2],fun i c hi=>?_⟩;cases i with
  |zero=>simp at hi;exact⟨a,b,rfl,rfl,hi.symm⟩
  |succ i=>simp at hi;simpa using h3 i c hi
theorem as4 {j B:Nat}{x y:Ob}(h:dX C S ρ σ own hv w B j x):dX C S ρ σ own hv w B j (ny x y):=by
 cases x<;>cases y<;>simp only[ny]<;>first
  |trivial
  |(rename_i a b;cases Ty.beq a b;·trivial
    ·exact h)
  |skip
 ·rename_i ag aa bg bs;cases ag==bg
  ·trivial
  ·simp only[cond_true];split
   ·rename_i cs jV;obtain⟨l1,l2,og⟩:=RC aa bs cs jV;obtain⟨k,cells,T,ds,h1,h2,h3,h4,h5,h6,h7⟩:=h;refine⟨k,cells,T,ds,h1,h2,h3,by omega,h5,by omega,fun i s hi=>?_⟩;obtain⟨x,y,hx,hy,rfl⟩:=og i s hi;have:=adm (u:=y) (h7 i x hx).2;exact⟨this.2,this.1⟩
   ·trivial
 ·rename_i T e U f;cases Nat.beq T U&&Ty.beq e f
  ·trivial
  ·exact h
 ·rename_i T e U f;cases Ty.beq T U&&Ty.beq e f
  ·trivial
  ·exact h
 ·rename_i T e U f;cases Ty.beq T U&&Ty.beq e f
  ·trivial
  ·exact h
theorem as5 {j B:Nat}{x y:Ob}(h:dX C S ρ σ own hv w B j y):dX C S ρ σ own hv w B j (ny x y):=by
 cases x<;>cases y<;>simp only[ny]<;>first
  |trivial
  |skip
 ·rename_i a b;cases hb:Ty.beq a b
  ·trivial
  ·rw[Ty.beq_eq _ _ hb];exact h
 ·rename_i a b;cases hb:Ty.beq a b
  ·trivial
  ·rw[Ty.beq_eq _ _ hb];exact h
 ·rename_i ag aa bg bs;cases ag==bg
  ·trivial
  ·simp only[cond_true];split
   ·rename_i cs jV;obtain⟨l1,l2,og⟩:=RC aa bs cs jV;obtain⟨k,cells,T,ds,h1,h2,h3,h4,h5,h6,h7⟩:=h;refine⟨k,cells,T,ds,h1,h2,h3,by omega,h5,by omega,fun i s hi=>?_⟩;obtain⟨x,y,hx,hy,rfl⟩:=og i s hi;have:=adn (s:=x) (h7 i y hy).2;exact⟨this.2,this.1⟩
   ·trivial
 ·rename_i T e U f;cases hb:(Nat.beq T U&&Ty.beq e f)
  ·trivial
  ·simp only[az] at hb;rw[aN hb.1,Ty.beq_eq _ _ hb.2];exact h
 ·rename_i T e U f;cases hb:(Ty.beq T U&&Ty.beq e f)
  ·trivial
  ·simp only[az] at hb;rw[Ty.beq_eq _ _ hb.1,Ty.beq_eq _ _ hb.2];exact h
 ·rename_i T e U f;cases hb:(Ty.beq T U&&Ty.beq e f)
  ·trivial
  ·simp only[az] at hb;rw[Ty.beq_eq _ _ hb.1,Ty.beq_eq _ _ hb.2];exact h
end
end Cx
namespace Cx
open Go Go.RowKit
section
variable {C:Ctx} {S T:St} {ρ ρ':Env} {σ:Im} {own:Nat→Option Nat} {hv:Nat→Value} {w0:World} {σ0:Base} {A:Nat→Prop} {a:Act} {w:World} {gs:List (Nat×Bool)} {Φ:aY} {dst:Nat}
theorem Inv.env (h:Inv C S ρ σ own hv w0 σ0 (fun _=>False) a w)(hn:∀t gs s,S.r t≠.opt gs s)(hr:∀t,isNone (S.r t)=false→ρ'.r t=ρ.r t)(ho:∀j,q9 (S.o j)=false→ρ'.o j=ρ.o j):
 Inv C S ρ' σ own hv w0 σ0 (fun _=>False) a w:=by
 refine h.weaken (fun t=>?_) (fun j=>?_) hn (fun j hj=>⟨hj,ho j (by rw[hj];rfl)⟩)
 ·cases hs:isNone (S.r t) with
  |true=>cases hc:S.r t<;>rw[hc] at hs<;>simp[isNone] at hs;trivial
  |false=>
   rw[hr t hs];exact bf.mono' (.refl σ) (.refl S hv) (hn t) (h.regs t)
 ·cases hs:q9 (S.o j) with
  |true=>cases hc:S.o j<;>rw[hc] at hs<;>simp[q9] at hs;trivial
  |false=>exact(h.objs j).mono (.refl σ) (.refl S hv) rfl (ho j hs) (fun k hk=>⟨hk,rfl⟩)
end
end Cx
namespace Cx
open Go Go.RowKit
structure Snap where
 rs:List Sh
 os:List Ob
 deriving Inhabited
def eD:List Nat→List Ob→Nat→Ob
 |i::is,o::os,j=>bif Nat.beq i j then o else eD is os j
 |_,_,_=>.dead
def cP:Sh→Sh
 |.opt _ _=>.none
 |s=>s
def Snap.st (ids:List Nat)(s:Snap):St:=⟨fun t=>cP (s.rs.getD t .none),fun j=>eD ids s.os j,fun _=>0⟩
def St.snap (n:Nat)(ids:List Nat)(S:St):Snap:=⟨(List.range n).map fun t=>iM S (S.r t),ids.map fun j=>jz S (S.o j)⟩
def Snap.beq (a b:Snap):Bool:=yA a.rs b.rs&&Bq a.os b.os
theorem Snap.beq_eq (a b:Snap)(h:a.beq b=true):a=b:=by
 cases a;cases b;simp only[Snap.beq,az] at h;rw[U5 _ _ h.1,adE _ _ h.2]
def Snap.meet (a b:Snap):Snap:=⟨List.zipWith jy a.rs b.rs,List.zipWith ny a.os b.os⟩
theorem az7 (s:Sh):∀gs s',cP s≠.opt gs s':=by
 intro gs s' e;cases s<;>simp[cP] at e
theorem Snap.noOpt (ids:List Nat)(s:Snap):∀t gs s',(s.st ids).r t≠.opt gs s':=fun t=>az7 _
section
variable {C:Ctx} {S:St} {ρ:Env} {σ:Im} {own:Nat→Option Nat} {hv:Nat→Value} {w0:World} {σ0:Base} {A:Nat→Prop} {a:Act} {w:World} {n:Nat} {ids:List Nat}
theorem xG (f:Nat→Ob)(P:Ob→Prop)(hd:P .dead)(j:Nat)(hf:P (f j)):∀ids:List Nat,P (eD ids (ids.map f) j)
 |[]=>hd
 |i::is=>by
  simp only[jN,eD];cases hb:Nat.beq i j
  ·exact xG f P hd j hf is
  ·rw[aN hb];exact hf
theorem Yi {s:Sh}{v:Value}{d:D}(h:bf C S ρ σ hv s v d):bf C S ρ σ hv (cP s) v d:=by
 cases s<;>first|exact h|trivial
theorem Inv.snap (h:Inv C S ρ σ own hv w0 σ0 A a w)(n:Nat)(ids:List Nat):Inv C ((S.snap n ids).st ids) ρ σ own hv w0 σ0 (fun _=>False) a w:=by
 have h1:=h.norm;have hc:Compat S.norm hv ((S.snap n ids).st ids) hv:=⟨fun _=>bK _,fun _ _=>rfl⟩
 refine h1.weaken (fun t=>?_) (fun j=>?_) (Snap.noOpt _ _) (fun j hj=>⟨xG (fun j=>jz S (S.o j)) (fun ob=>ob=.tr→jz S (S.o j)=.tr) (fun e=>by cases e) j id ids hj,rfl⟩)
 ·refine bf.mono' (ρ:=ρ) (.refl σ) hc (Snap.noOpt _ _ t) ?_;show bf C S.norm ρ σ hv (cP (((List.range n).map fun t=>iM S (S.r t)).getD t .none)) _ _;refine Yi ?_;rw[bh,dG];by_cases ht:t<n
  ·rw[qz ht];exact h1.regs t
  ·rw[rX (by simpa using ht)];trivial
 ·have ho:=(h1.objs j).mono (.refl σ) hc (w:=w) (w':=w) rfl rfl (fun k hk=>⟨hk,rfl⟩);exact xG (fun j=>jz S (S.o j)) (fun ob=>dX C _ ρ σ own hv w w0.heap.size j ob) trivial j ho ids
theorem NC {f:Sh→Sh→Sh}:∀(x y:List Sh) (t:Nat),(List.zipWith f x y).getD t .none=.none∨∃s u,x.getD t .none=s∧y.getD t .none=u∧(List.zipWith f x y).getD t .none=f s u
 |[],_,t=>.inl (by simp)
 |_::_,[],t=>.inl (by simp)
 |a::aa,b::bs,0=>.inr ⟨a,b,rfl,rfl,rfl⟩
 |a::aa,b::bs,t+1=>by simpa using NC (f:=f) aa bs t
theorem KV {f:Ob→Ob→Ob}:∀(ids:List Nat) (x y:List Ob) (j:Nat),eD ids (List.zipWith f x y) j=.dead∨eD ids (List.zipWith f x y) j=f (eD ids x j) (eD ids y j)
 |[],_,_,_=>.inl rfl
 |_::_,[],_,_=>.inl rfl
 |_::_,_::_,[],_=>.inl rfl
 |i::is,a::aa,b::bs,j=>by
  simp only[List.zipWith_cons_cons,eD];cases Nat.beq i j
  ·exact KV is aa bs j
  ·exact .inr rfl
theorem az5 {s u:Sh}{v:Value}{d:D}(h:bf C S ρ σ hv (cP s) v d):bf C S ρ σ hv (cP (jy s u)) v d:=by
 cases hs:s with
 |opt gs s'=>cases u<;>simp[jy,cP,bf]
 |_=>rw[hs] at h;exact Yi (adm h).1
theorem az6 {s u:Sh}{v:Value}{d:D}(h:bf C S ρ σ hv (cP u) v d):bf C S ρ σ hv (cP (jy s u)) v d:=by
 cases hs:u with
 |opt gs s'=>cases s<;>simp[jy,cP,bf]
 |_=>rw[hs] at h;exact Yi (adn h).1
theorem ado {x y:Snap}{j:Nat}(h:((x.meet y).st ids).o j=.tr):(x.st ids).o j=.tr∧(y.st ids).o j=.tr:=by
 change eD ids (List.zipWith ny x.os y.os) j=.tr at h;rcases KV (f:=ny) ids x.os y.os j with h0|h0
 ·rw[h0] at h;cases h
 ·rw[h0] at h;exact as6 h
theorem Snap.meet_ok1 {x y:Snap}(h:Inv C (x.st ids) ρ σ own hv w0 σ0 A a w):Inv C ((x.meet y).st ids) ρ σ own hv w0 σ0 (fun _=>False) a w:=by
 have hc:Compat (x.st ids) hv ((x.meet y).st ids) hv:=⟨fun _=>bK _,fun _ _=>rfl⟩
 refine h.weaken (fun t=>?_) (fun j=>?_) (Snap.noOpt _ _) (fun j hj=>⟨(ado hj).1,rfl⟩)
 ·refine bf.mono' (ρ:=ρ) (.refl σ) hc (Snap.noOpt _ _ t) ?_;show bf C (x.st ids) ρ σ hv (cP ((List.zipWith jy x.rs y.rs).getD t .none)) _ _;rcases NC (f:=jy) x.rs y.rs t with h0|⟨s,u,h1,h2,h3⟩
  ·rw[h0];trivial
  ·rw[h3];exact az5 (by rw[←h1];exact h.regs t)
 ·refine dX.mono (S:=x.st ids) (ρ:=ρ) (own:=own) (hv:=hv) (.refl σ) hc (w:=w) rfl rfl (fun k hk=>⟨hk,rfl⟩) ?_;show dX C _ ρ σ own hv w w0.heap.size j (eD ids (List.zipWith ny x.os y.os) j);rcases KV (f:=ny) ids x.os y.os j with h0|h0
  ·rw[h0];trivial
  ·rw[h0];exact as4 (h.objs j)
theorem Snap.meet_ok2 {x y:Snap}(h:Inv C (y.st ids) ρ σ own hv w0 σ0 A a w):Inv C ((x.meet y).st ids) ρ σ own hv w0 σ0 (fun _=>False) a w:=by
 have hc:Compat (y.st ids) hv ((x.meet y).st ids) hv:=⟨fun _=>bK _,fun _ _=>rfl⟩
 refine h.weaken (fun t=>?_) (fun j=>?_) (Snap.noOpt _ _) (fun j hj=>⟨(ado hj).2,rfl⟩)
 ·refine bf.mono' (ρ:=ρ) (.refl σ) hc (Snap.noOpt _ _ t) ?_;show bf C (y.st ids) ρ σ hv (cP ((List.zipWith jy x.rs y.rs).getD t .none)) _ _;rcases NC (f:=jy) x.rs y.rs t with h0|⟨s,u,h1,h2,h3⟩
  ·rw[h0];trivial
  ·rw[h3];exact az6 (by rw[←h2];exact h.regs t)
 ·refine dX.mono (S:=y.st ids) (ρ:=ρ) (own:=own) (hv:=hv) (.refl σ) hc (w:=w) rfl rfl (fun k hk=>⟨hk,rfl⟩) ?_;show dX C _ ρ σ own hv w w0.heap.size j (eD ids (List.zipWith ny x.os y.os) j);rcases KV (f:=ny) ids x.os y.os j with h0|h0
  ·rw[h0];trivial
  ·rw[h0];exact as5 (h.objs j)
end
end Cx
namespace Cx
open Go Go.RowKit
def xE (C:Ctx)(S:St)(T:TypeId)(x:Operand):List Nat:=
 match kH S [] x,p6 C.P T,C.P.info? T with
 |.ptr j _ off,some true,some inf=>(match S.o j with|.box _ aO=>C6 ((aO.drop off).take inf.size)|_=>[])
 |_,_,_=>[]
def MW (C:Ctx)(S:St):ResultVar→Option (St×Ty×PE)
 |.tmp t=>(use C (S.fzs (eR S [] [.tmp t])) [] (.tmp t)).map fun x=>(S.fzs (eR S [] [.tmp t]),x.1,x.2)
 |.cell b T=>
  match E3 C (S.fzs (xE C S T (.tmp b))) [] 0 T (.tmp b) with
  |some (.dat ty,[.setR 0 e])=>some (S.fzs (xE C S T (.tmp b)),ty,e)
  |some (.obj j ver,[.setR _ _])=>
   bif Nat.beq ver (((S.fzs (xE C S T (.tmp b))).fz j).ver j) then
    match((S.fzs (xE C S T (.tmp b))).fz j).o j with
    |.fz ty=>some ((S.fzs (xE C S T (.tmp b))).fz j,ty,.o j)
    |_=>none
   else none
  |_=>none
def GJ (C:Ctx):List ResultVar→St→Option (St×List Ty×List PE)
 |[],S=>some (S,[],[])
 |x::xs,S=>(MW C S x).bind fun r=>(GJ C xs r.1).map fun q=>(q.1,r.2.1::q.2.1,r.2.2::q.2.2)
def aht (C:Ctx)(fn:Func)(S:St)(res:Ty):Option PE:=
 (GJ C fn.results.toList S).bind fun r=>
    match r.2.1,r.2.2 with
    |[ty],[e]=>bif Ty.sub ty res then some e else none
    |nP,es=>bif Ty.sub (.tup nP) res then some (.tup es) else none
def ahu (C:Ctx)(fn:Func)(S:St)(T:TypeId)(e:Ty):Option PE:=
 match fn.results.toList with
 |[.tmp t]=>
  match qt S [] t with
  |.obj j ver=>bif Nat.beq ver (S.ver j) then(match S.o j with|.row U f=>bif Nat.beq U T&&Ty.beq f e then some (.o j) else none|_=>none) else none
  |_=>none
 |[.cell b U]=>
  match E3 C S [] 0 U (.tmp b) with
  |some (.obj j ver,[.setR _ _])=>bif Nat.beq ver (S.ver j) then(match S.o j with|.row U f=>bif Nat.beq U T&&Ty.beq f e then some (.o j) else none|_=>none) else none
  |_=>none
 |_=>none
def yt (C:Ctx)(fn:Func)(s:Sig)(S:St):Option PE:=
 match s.mode with
 |.ob _ _=>none
 |.dat=>aht C fn S s.res
 |.it J=>match fn.results.toList,S.o J with|[],.tr=>some (.o J)|_,_=>none
 |.row T e=>ahu C fn S T e
def MT (P:Program)(tmps:Array Value)(w:World):ResultVar→Value→Prop
 |.tmp t,v=>v=tmps.getD t undef
 |.cell a T,v=>∃k,tmps.getD a undef=.pointer (some k)∧(loadVar T k).run P w=.ok v w
def MU (P:Program)(tmps:Array Value)(w:World):List ResultVar→List Value→Prop
 |[],[]=>True
 |x::xs,v::vs=>MT P tmps w x v∧MU P tmps w xs vs
 |_,_=>False
def LD:List Value→Value
 |[v]=>v
 |vs=>.tuple vs.toArray
section
variable {C:Ctx} {S:St} {ρ:Env} {σ:Im} {own:Nat→Option Nat} {hv:Nat→Value} {w0:World} {σ0:Base} {A:Nat→Prop} {a:Act} {w:World} {gs:List (Nat×Bool)} {Φ:aY} {dst:Nat}
theorem ac4 {P:Program}{tmps:Array Value}{w:World}(f:ResultVar→Sem Value)(hf1:∀t,f (.tmp t)=pure (tmps.getD t undef))(hf2:∀b T,f (.cell b T)=(do loadVar T (←asAddr (tmps.getD b undef)))):
 ∀(l:List ResultVar) (vs:List Value),MU P tmps w l vs→(l.mapM f).run P w=.ok vs w
 |[],[],_=>by simp[Sem.run_pure]
 |x::l,v::vs,h=>by
  obtain⟨hx,Rh⟩:=h;have ih:=ac4 f hf1 hf2 l vs Rh;rw[YO];have h1:(f x).run P w=.ok v w:=by
   cases x with
   |tmp t=>rw[hf1];simp only[MT] at hx;subst hx;simp[Sem.run_pure]
   |cell b T=>
    obtain⟨k,h1,h2⟩:=hx;rw[hf2,h1];simp[asAddr,h2]
  simp[Sem.run_bind,h1,ih,Sem.run_pure,Result.andThen_ok]
theorem MV {P:Program}{fn:Func}{tmps:Array Value}{w:World}{vs:List Value}(h:MU P tmps w fn.results.toList vs):
 (results fn tmps).run P w=.ok (LD vs) w:=by
 unfold results;rw[Array.mapM_eq_mapM_toList];simp only[Sem.run_bind];simp only[bind_map_left,map_eq_pure_bind,Sem.run_bind,bind_assoc,pure_bind];rw[ac4 (tmps:=tmps) _ (fun t=>rfl) (fun b T=>rfl) _ _ h];simp only[Result.andThen_ok,Sem.run_pure];rcases vs with _|⟨v,_|⟨u,vs⟩⟩<;>simp[Sem.run_pure,LD]
theorem Ru {o:Oper}{T:TypeId}{b:Nat}{v:Value}(ho:o.op=.load T (.tmp b))(hx:(execOp a.eval o).run C.P w=.ok (.value v) w):MT C.P a.tmps w (.cell b T) v:=by
 have he:a.eval (.tmp b)=a.tmps.getD b undef:=by simp[Act.eval]
 simp only[execOp,ho,Instr.loadAt,he] at hx;cases hp:a.tmps.getD b undef with
 |pointer p=>
  cases p with
  |none=>rw[hp] at hx;simp[Instr.sureAddr] at hx
  |some k=>
   rw[hp] at hx;refine⟨k,hp,?_⟩;simp[Instr.sureAddr] at hx;cases hr:(loadVar T k).run C.P w with
   |ok u w'=>rw[hr] at hx;simp at hx;rw[hx.1,hx.2]
   |halt u w'=>rw[hr] at hx;simp at hx
 |_=>rw[hp] at hx;simp[Instr.sureAddr] at hx
theorem avS (h:Inv C S ρ σ own hv w0 σ0 A a w)(hC:CtxOK C σ0){x:ResultVar}{r:St×Ty×PE}(hr:MW C S x=some r):
 ∃σ' own' v,σ.le σ'∧Inv C r.1 ρ σ' own' hv w0 σ0 A a w∧MT C.P a.tmps w x v∧Rep C.cap σ' r.2.1 v (r.2.2.ev ρ):=by
 cases x with
 |tmp t=>
  simp only[MW,aR] at hr;obtain⟨y,hy,rfl⟩:=hr;obtain⟨σ1,kB,hle,h1⟩:=Inv.fzs (eR S [] [.tmp t]) h;refine⟨σ1,kB,a.tmps.getD t undef,hle,h1,rfl,?_⟩;have:=cG (gs:=[]) h1 hC rfl hy;simpa [Act.eval] using this
 |cell b T=>
  simp only[MW] at hr;obtain⟨σ1,kB,hle,h1⟩:=Inv.fzs (xE C S T (.tmp b)) h;generalize J2:S.fzs (xE C S T (.tmp b))=S1 at hr h1
  let o:Oper:={(default:Oper) with op:=.load T (.tmp b)}
  split at hr
  ·rename_i ty e hl;cases hr;have hq:=LF (Φ:=fun _ _=>none) (dst:=0) (gs:=[]) h1 hC rfl hl (o:=o) rfl;obtain⟨v,d,e1,e2,e3,e4⟩:=hq _ rfl;have hd:d=e.ev ρ:=by
        have:=congrArg (fun x:Env=>x.r 0) e1;simpa [Env.setR,be] using this.symm
   subst hd;exact⟨σ1,kB,v,hle,h1,Ru rfl e2,e3⟩
  ·rename_i j ver t0 e0 hl;have hq:=LF (Φ:=fun _ _=>none) (dst:=0) (gs:=[]) h1 hC rfl hl (o:=o) rfl;obtain⟨v,d,e1,e2,e3,e4⟩:=hq _ rfl;cases hb:Nat.beq ver ((S1.fz j).ver j)<;>simp only[hb,cond_true,cond_false] at hr
   ·cases hr
   split at hr
   case h_2=>cases hr
   rename_i ty bt;cases hr;obtain⟨σ2,jB,uK,h2⟩:=h1.fz j;refine⟨σ2,jB,v,hle.trans uK,h2,Ru rfl e2,?_⟩;have ho:=h2.objs j;rw[bt] at ho;have fS:ver=S1.ver j:=by rw[aN hb,(PQ S1 j).1]
   rw[e3.2 fS];exact ho.2
  ·cases hr
theorem ahs (hC:CtxOK C σ0):∀(l:List ResultVar) {S:St} {σ:Im} {own:Nat→Option Nat} {r:St×List Ty×List PE},Inv C S ρ σ own hv w0 σ0 A a w→GJ C l S=some r→
 ∃σ' own' vs,σ.le σ'∧Inv C r.1 ρ σ' own' hv w0 σ0 A a w∧MU C.P a.tmps w l vs∧vs.length=r.2.1.length∧r.2.2.length=r.2.1.length∧
  ∀(i:Nat) (t:Ty),r.2.1[i]?=some t→Rep C.cap σ' t (vs.getD i undef) ((PE.evs ρ r.2.2).getD i .none)
 |[],S,σ,own,r,h,hr=>by
  simp only[GJ,bx] at hr;subst hr;exact⟨σ,own,[],.refl σ,h,trivial,rfl,rfl,fun i t e=>by simp at e⟩
 |x::l,S,σ,own,r,h,hr=>by
  simp only[GJ,aG,aR] at hr;obtain⟨r1,h1,q,h2,rfl⟩:=hr;obtain⟨σ1,kB,v,hle,i1,hx,cK⟩:=avS h hC h1;obtain⟨σ2,jB,vs,uK,i2,Rh,AS,AT,A3⟩:=ahs hC l i1 h2;refine⟨σ2,jB,v::vs,hle.trans uK,i2,⟨hx,Rh⟩,by simp[AS],by simp[AT],fun i t e=>?_⟩;cases i with
  |zero=>simp at e;subst e;simpa [PE.evs] using cK.mono uK
  |succ i=>simp at e;simpa [PE.evs] using A3 i t e
def Hh (C:Ctx)(s:Sig)(σ:Im)(own:Nat→Option Nat)(w0 w:World)(tmps:Array Value)(d:D)(v:Value):Prop:=True
theorem Hh.no {C:Ctx}{s:Sig}{σ:Im}{own:Nat→Option Nat}{w0 w:World}{tmps:Array Value}{d:D}{v:Value}(h:xA s.mode=false):Hh C s σ own w0 w tmps d v:=trivial
def N9 (C:Ctx)(w0:World)(σ0:Base)(fn:Func)(s:Sig)(d:D)(a:Act)(w:World):Prop:=
 ∃v σ,(∃own t fx cx,FrOK σ own w0.heap.size σ0 w t fx cx∧(∀J,s.mode=.it J→d=t)∧Hh C s σ own w0 w a.tmps d v)∧(results fn a.tmps).run C.P w=.ok v w∧σ0.le σ∧σ.ok w∧Below σ0.B w0 w∧
  (∀k o x,σ.c k o=some x→σ0.c k o=some x∨w0.heap.size≤k)∧(∀k x,σ.m k=some x→σ0.m k=some x∨w0.heap.size≤k)∧se C s σ w0 w v d
theorem Inv.fr (h:Inv C S ρ σ own hv w0 σ0 A a w){s:Sig}{d:D}{v:Value}(hm:∀J,s.mode≠.it J)(ho:xA s.mode=false):∃own t fx cx,FrOK σ own w0.heap.size σ0 w t fx cx∧(∀J,s.mode=.it J→d=t)∧Hh C s σ own w0 w a.tmps d v:=by
 obtain⟨t,fx,cx,h1,_⟩:=h.frame;exact⟨own,t,fx,cx,h1,fun J e=>absurd e (hm J),.no ho⟩
theorem az4 {ty:Ty}{nP:List Ty}{es:List PE}(h:∀ty e,nP=[ty]→es=[e]→False)(hl:es.length=nP.length):nP.length≠1:=by
 intro h1
 match nP,es with
 |[ty],[e]=>exact h ty e rfl rfl
 |[],_=>simp at h1
 |_::_::_,_=>simp at h1
 |[_],[]=>simp at hl
 |[_],_::_::_=>simp at hl
theorem ahv (h:Inv C S ρ σ own hv w0 σ0 A a w){T:TypeId}{e:Ty}{j ver:Nat}{v:Value}{d:D}(hc:bf C S ρ σ hv (.obj j ver) v d){pe:PE}
 (hr:(bif Nat.beq ver (S.ver j) then(match S.o j with|.row U f=>bif Nat.beq U T&&Ty.beq f e then some (PE.o j) else none|_=>none) else none)=some pe):
 ∃cells xs,pe.ev ρ=.list xs∧w.ownsRow w0.heap.size T e.size v xs.length cells∧jM C.cap σ e cells xs∧∀k,v.ownBlock=some k→(∀o,σ.c k o=none)∧σ.m k=none:=by
 cases hb:Nat.beq ver (S.ver j)<;>simp only[hb,cond_true,cond_false] at hr
 ·cases hr
 split at hr
 case h_2=>cases hr
 rename_i U f ho;cases ew:Nat.beq U T&&Ty.beq f e<;>simp only[ew,cond_true,cond_false] at hr
 ·cases hr
 cases hr;simp only[az] at ew;have hU:=aN ew.1;have hf:=Ty.beq_eq _ _ ew.2;subst hU hf;have hj:=h.objs j;rw[ho] at hj;obtain⟨cells,xs,h1,h2,h3,h4⟩:=hj;have hv':=hc.2 (aN hb);subst hv';exact⟨cells,xs,h1,h2,h3,fun k hk=>(h.owns k j (h4 k hk)).2.2⟩
theorem avT (h:Inv C S ρ σ own hv w0 σ0 A a w)(hC:CtxOK C σ0)(fS:∀j,S.ver j=0){fn:Func}{s:Sig}{pe:PE}(hr:yt C fn s S=some pe):N9 C w0 σ0 fn s (pe.ev ρ) a w:=by
 unfold yt at hr;split at hr
 ·cases hr
 ·rename_i hm;simp only[aht,aG] at hr;obtain⟨r,bn,hr⟩:=hr;obtain⟨σ1,kB,vs,hle,h1,Es,AS,AT,A3⟩:=ahs hC _ h bn;refine⟨_,σ1,h1.fr (fun J e=>by rw[hm] at e;cases e) (by rw[hm];rfl),MV Es,h.le.trans hle,h1.ok,h1.below,h1.newc,h1.newm,?_⟩;unfold se;rw[hm];simp only;split at hr
  ·rename_i ty e e1 e2;rw[e1] at AS A3;rw[e2] at A3;cases hb:Ty.sub ty s.res<;>simp only[hb,cond_true,cond_false] at hr
   ·cases hr
   cases hr;obtain⟨v,rfl⟩:∃v,vs=[v]:=by
        match vs,AS with
        |[v],_=>exact⟨v,rfl⟩
   have:=A3 0 ty rfl;exact Rep.sub (by simpa [PE.evs,LD] using this) hb
  ·rename_i aA;cases hb:Ty.sub (.tup r.2.1) s.res<;>simp only[hb,cond_true,cond_false] at hr
   ·cases hr
   cases hr;have abM:=az4 (ty:=.bool) aA AT;have cS:LD vs=Value.tuple vs.toArray:=by
        match vs,AS with
        |[],_=>rfl
        |[v],hl=>rw[←hl] at abM;exact absurd rfl abM
        |_::_::_,_=>rfl
   rw[cS];refine Rep.sub (Rep.tup _ _ _ (by rw[AS]) (by rw[PE.evs_eq,nU,AT]) A3) hb
 ·rename_i J hm;split at hr
  case h_2=>cases hr
  rename_i nk hJ;cases hr;obtain⟨t,fx,cx,h1,h2⟩:=h.frame;refine⟨_,σ,⟨own,t,fx,cx,h1,fun J' e=>?_,.no (by rw[hm];rfl)⟩,MV (vs:=[]) (by rw[nk];trivial),h.le,h.ok,h.below,h.newc,h.newm,by unfold se;rw[hm];trivial⟩;exact(h2 J hJ).2
 ·rename_i T e hm;have key:∃v,(results fn a.tmps).run C.P w=.ok v w∧∃cells xs,pe.ev ρ=.list xs∧w.ownsRow w0.heap.size T e.size v xs.length cells∧jM C.cap σ e cells xs∧∀k,v.ownBlock=some k→(∀o,σ.c k o=none)∧σ.m k=none:=by
   unfold ahu at hr;split at hr
   ·rename_i t ht;split at hr
    case h_2=>cases hr
    rename_i j ver hs;have hc:=(tS (gs:=[]) h rfl t).1;rw[hs] at hc;exact⟨_,MV (vs:=[a.tmps.getD t undef]) (by rw[ht];exact⟨rfl,trivial⟩),ahv h hc hr⟩
   ·rename_i b U hb;split at hr
    case h_2=>cases hr
    rename_i j ver t0 e0 hl;have hq:=LF (Φ:=fun _ _=>none) (dst:=0) (gs:=[]) h hC rfl hl (o:={(default:Oper) with op:=.load U (.tmp b)}) rfl;obtain⟨v,d,e1,e2,e3,e4⟩:=hq _ rfl;exact⟨_,MV (vs:=[v]) (by rw[hb];exact⟨Ru rfl e2,trivial⟩),ahv h e3 hr⟩
   ·cases hr
  obtain⟨v,h1,h2⟩:=key;refine⟨v,σ,h.fr (fun J e=>by rw[hm] at e;cases e) (by rw[hm];rfl),h1,h.le,h.ok,h.below,h.newc,h.newm,?_⟩;unfold se;rw[hm];exact h2
theorem kJ.drop {σ:Im}{B D:Nat}:∀{ds:List Deferred},({target:=.collected D,args:=#[]}:Deferred)∉ds→kJ σ B ds→kJ (σ.drop D) B ds
 |[],_,_=>trivial
 |x::ds,hn,⟨⟨D',h1,h2,h3⟩,h⟩=>by
  simp only[cW,not_or] at hn;refine⟨⟨D',h1,?_,h3⟩,kJ.drop hn.2 h⟩;have:D'≠D:=fun e=>hn.1 (by rw[h1,e]);simp[Im.drop,this,h2]
theorem Inv.shut (h:Inv C S ρ σ own hv w0 σ0 A a w)(pO:σ0.fin){x:Deferred}{ds:List Deferred}(hd:a.defers=x::ds):
 ∃D,x.target=.collected D∧w.heap[D]?=some (.deferred (some []))∧Inv C S ρ (σ.drop D) own hv w0 σ0 A {a with defers:=ds} (w.putObj D (.deferred none)):=by
 have oe:=h.defers;rw[hd] at oe;obtain⟨⟨D,rfl,hm,hB,QG⟩,DY⟩:=oe;have hD:w.heap[D]?=some (.deferred (some [])):=by
  rcases h.ok.m D _ hm with⟨h1,_⟩|⟨_,h2⟩
  ·exact absurd rfl h1
  ·exact h2
 have p5:∀k,k≠D→(w.putObj D (.deferred none)).heap[k]?=w.heap[k]?:=fun k hk=>World.putObj_heap_other hk;have dz:∀k j,own k=some j→k≠D:=fun k j hk e=>by subst e;rw[(h.owns k j hk).2.2.2] at hm;cases hm
 have hR:Im.leR C.cap σ (σ.drop D):=⟨fun r=>r.drop hm,fun _ _ _ e=>e⟩
 have uD:∀k x,(σ.drop D).m k=some x→k≠D∧σ.m k=some x:=by
  intro k x hx;simp only[Im.drop] at hx;split at hx
  ·cases hx
  ·rename_i aA;exact⟨aA,hx⟩
 refine⟨D,rfl,hD,DY.drop QG,⟨fun k o v hc=>?_,fun k es hc=>?_⟩,⟨h.le.c,fun k es hc=>?_⟩,h.old,h.newc,fun k es hc=>h.newm k es (uD k es hc).2,h.below.trans ⟨rfl,rfl,rfl,by simp,fun k hk=>p5 k (by have:=h.bw;omega)⟩,h.bw,fun k j hk=>?_,fun t=>?_,fun j=>?_,h.opts,?_⟩
 ·have h1:=h.ok.c k o v hc;have aA:k≠D:=fun e=>by subst e;simp[World.cell?,hD] at h1
  rw[World.cell?_of_block (p5 k aA)];exact h1
 ·exact(h.ok.m k es (uD k es hc).2).keep (p5 k (uD k es hc).1)
 ·have aA:k≠D:=fun e=>by
   subst e;have:=h.le.m _ _ hc;rw[hm] at this;cases this;have:=h.old pO _ hc;omega
  simp[Im.drop,aA,h.le.m k es hc]
 ·obtain⟨g1,g2,g3,g4⟩:=h.owns k j hk;exact⟨g1,by simpa using g2,g3,by simp only[Im.drop];split<;>first|rfl|exact g4⟩
 ·exact bf.monoR hR (.refl S hv) (fun _ _ _=>rfl) (fun gs s e=>(h.opts t gs s e).2) (h.regs t)
 ·exact(h.objs j).monoR hR (.refl S hv) rfl rfl (fun k hk=>⟨hk,p5 k (dz k j hk)⟩)
 ·obtain⟨t,fx,cx,hf,ht⟩:=h.frame;exact⟨t,fx,cx,⟨σ0.keep _ _ _ _ _ hf.F ⟨rfl,rfl,rfl,by simp,fun k hk=>by omega⟩ (fun k hk=>p5 k fun e=>by subst e;exact hf.d k hm hB hk),hf.own,hf.c,fun k x hx=>hf.m k x (uD k x hx).2,fun k hx=>hf.d k (uD k _ hx).2⟩,ht⟩
def sf (C:Ctx)(w0:World)(σ0:Base)(fn:Func)(s:Sig)(d:D)(tmps:Array Value):List Deferred→World→Prop
 |[],w=>N9 C w0 σ0 fn s d {tmps:=tmps,defers:=[]} w
 |x::ds,w=>∃D,x.target=.collected D∧w.heap[D]?=some (.deferred (some []))∧sf C w0 σ0 fn s d tmps ds (w.putObj D (.deferred none))
theorem Inv.retD (hC:CtxOK C σ0)(fS:∀j,S.ver j=0)(pO:σ0.fin){fn:Func}{s:Sig}{pe:PE}(hr:yt C fn s S=some pe):∀(ds:List Deferred) {σ:Im} {a:Act} {w:World},Inv C S ρ σ own hv w0 σ0 A a w→a.defers=ds→sf C w0 σ0 fn s (pe.ev ρ) a.tmps ds w
 |[],σ,a,w,h,hd=>by
  have e:a={tmps:=a.tmps,defers:=[]}:=by cases a;simp only at hd;subst hd;rfl
  rw[e] at h;exact avT h hC fS hr
 |x::ds,σ,a,w,h,hd=>by
  obtain⟨D,h1,h2,h3⟩:=h.shut pO hd;exact⟨D,h1,h2,Inv.retD hC fS pO hr ds (a:={a with defers:=ds}) h3 rfl⟩
end
end Cx
namespace Cx
open Go Go.RowKit
def l5 (C:Ctx)(f:Nat)(cts ys:List Ty)(ds xs:List D):Prop:=
 ∀(σ:Im) (w:World) (yv:Value) (vs:List Value) (F:D→(Nat→Prop)→(Nat→Prop)→World→Prop) (fx cx:Nat→Prop) (m:Nat),σ.ok w→CtxOK C σ→qw C σ cts vs ds→m≤xs.length→
  (∀t fx cx w,F t fx cx w→∀k,fx k→k<w.heap.size)→(∀t fx cx w,F t fx cx w→∀k,cx k→fx k)→
  (∀t fx cx w w',F t fx cx w→Below 0 w w'→(∀k,fx k→w'.heap[k]?=w.heap[k]?)→F t fx cx w')→
  F (.list []) fx cx w→(∀k o x,σ.c k o=some x→¬cx k)→(∀k x,σ.m k=some x→¬cx k)→
  (∀(i:Nat) (fx cx:Nat→Prop) (w1:World) (σ1:Im) (args:List Value) (cH:List D),i≤m→xs[i]?=some (.tup cH)→F (.list (xs.take i)) fx cx w1→σ1.ok w1→qw C σ1 ys args cH→
    (∀k o x,σ1.c k o=some x→¬cx k)→(∀k x,σ1.m k=some x→¬cx k)→
    (∀k o x,σ1.c k o=some x→σ.c k o=some x∨w.heap.size≤k)→(∀k x,σ1.m k=some x→σ.m k=some x∨w.heap.size≤k)→
    YZ C.P yv args w1 fun u w2=>u=.bool (decide (i<m))∧Below 0 w1 w2∧(∀k,k<w1.heap.size→¬cx k→w2.heap[k]?=w1.heap[k]?)∧
     ∃m5 m0,F (.list (xs.take (i+1))) m5 m0 w2∧(∀k,m5 k→k<w1.heap.size→fx k∨(∃o x,σ1.c k o=some x)∨(∃x,σ1.m k=some x∧x≠fN))∧(∀k,m0 k→k<w1.heap.size→cx k))→
  Calls C.P f (#[yv]++vs.toArray) w fun e w'=>(∃v,e=.returned v)∧∃fx cx,F (.list (xs.take (m+1))) fx cx w'
def gx (C:Ctx)(Φ:aY):Prop:=∀f cs ys,C.cap f=some cs→nu cs.args cs.res=some ys→(∃fn,C.P.funcs[f]?=some fn∧fn.body.isSome=true∧(fn.name== "runtime.NumGoroutine")=false)∧
 ∀ds d,Φ f ds=some d→∃xs,d=.list xs∧(∀x,x∈xs→∃cH,x=.tup cH∧cH.length=ys.length)∧l5 C f cs.caps ys ds xs
section
variable {C:Ctx} {S:St} {ρ:Env} {σ:Im} {own:Nat→Option Nat} {hv:Nat→Value} {w0:World} {σ0:Base} {A:Nat→Prop} {a:Act} {w:World}
theorem Inv.mono_regs (h:Inv C S ρ σ own hv w0 σ0 A a w){τ:Im}(hle:σ.le τ)(t:Nat):bf C S ρ τ hv (S.r t) (a.tmps.getD t undef) (ρ.r t):=
 bf.mono hle (.refl S hv) (fun _ _ _=>rfl) (fun gs s e=>(h.opts t gs s e).2) (h.regs t)
theorem Inv.joinIm (h:Inv C S ρ σ own hv w0 σ0 A a w){τ:Im}(hτ:τ.ok w)(hd:∀k,τ.m k≠some fN)(hoc:∀k o v,τ.c k o=some v→own k=none)(hom:∀k v,τ.m k=some v→own k=none)
 (gm:∀k o v,τ.c k o=some v→σ.c k o=some v∨w0.heap.size≤k) (ed:∀k v,τ.m k=some v→σ.m k=some v∨w0.heap.size≤k)
 (gj:∀t fx cx,FrOK σ own w0.heap.size σ0 w t fx cx→(∀k o v,τ.c k o=some v→¬cx k)∧∀k v,τ.m k=some v→¬cx k):Inv C S ρ (σ.plus τ) own hv w0 σ0 A a w where
 defers:=h.defers.mono (Im.plus_le1 σ τ)
 ok:=Im.plus_ok h.ok hτ
 le:=h.le.trans (Im.plus_le1 σ τ)
 old:=h.old
 newc:=fun k o x e=>(Im.plus_c e).elim (h.newc k o x) fun e=>(gm k o x e).elim (h.newc k o x) .inr
 newm:=fun k x e=>(Im.plus_m e).elim (h.newm k x) fun e=>(ed k x e).elim (h.newm k x) .inr
 below:=h.below
 bw:=h.bw
 owns:=fun k j hk=>by
  obtain⟨g1,g2,g3,g4⟩:=h.owns k j hk;refine⟨g1,g2,fun o=>?_,?_⟩
  ·cases e:(σ.plus τ).c k o with
   |none=>rfl
   |some x=>
    rcases Im.plus_c e with e|e
    ·rw[g3 o] at e;cases e
    ·rw[hoc k o x e] at hk;cases hk
  ·cases e:(σ.plus τ).m k with
   |none=>rfl
   |some x=>
    rcases Im.plus_m e with e|e
    ·rw[g4] at e;cases e
    ·rw[hom k x e] at hk;cases hk
 regs:=h.mono_regs (Im.plus_le1 σ τ)
 objs:=fun j=>(h.objs j).mono (Im.plus_le1 σ τ) (.refl S hv) rfl rfl fun k hk=>⟨hk,rfl⟩
 opts:=h.opts
 frame:=by
  obtain⟨t,fx,cx,hf,ht⟩:=h.frame;obtain⟨h1,h2⟩:=gj t fx cx hf;exact⟨t,fx,cx,⟨hf.F,hf.own,fun k o x e=>(Im.plus_c e).elim (hf.c k o x) (h1 k o x),fun k x e=>(Im.plus_m e).elim (hf.m k x) (h2 k x),fun k e=>(Im.plus_m e).elim (hf.d k) fun e=>absurd e (hd k)⟩,ht⟩
theorem Inv.keep (h:Inv C S ρ σ own hv w0 σ0 A a w){w':World}{X:Nat→Prop}(hb:Below 0 w w')(hX:∀k,X k→w'.heap[k]?=w.heap[k]?)(h0:∀k,k<w0.heap.size→X k)(ho:∀k j,own k=some j→X k)(hc:∀k o v,σ.c k o=some v→X k)(hm:∀k v,σ.m k=some v→X k)
 (gj:∀t fx cx,FrOK σ own w0.heap.size σ0 w t fx cx→∀k,fx k→X k):Inv C S ρ σ own hv w0 σ0 A a w' where
 defers:=h.defers
 ok:=⟨fun k o v e=>by rw[World.cell?_of_block (hX k (hc k o v e))];exact h.ok.c k o v e,fun k v e=>(h.ok.m k v e).keep (hX k (hm k v e))⟩
 le:=h.le
 old:=h.old
 newc:=h.newc
 newm:=h.newm
 below:=h.below.trans ⟨hb.os,hb.tape,hb.output,hb.size,fun k hk=>hX k (h0 k (Hf hk h.bw))⟩
 bw:=h.bw
 owns:=fun k j hk=>let⟨g1,g2,g3⟩:=h.owns k j hk;⟨g1,Hf g2 hb.size,g3⟩
 regs:=h.regs
 objs:=fun j=>(h.objs j).mono (.refl σ) (.refl S hv) rfl rfl fun k hk=>⟨hk,hX k (ho k j hk)⟩
 opts:=h.opts
 frame:=by
  obtain⟨t,fx,cx,hf,ht⟩:=h.frame;exact⟨t,fx,cx,⟨σ0.keep _ _ _ _ _ hf.F hb fun k hk=>hX k (gj t fx cx hf k hk),hf.own,hf.c,hf.m,hf.d⟩,ht⟩
end
def Base.rnd (σ0:Base)(σ:Im)(own:Nat→Option Nat)(w:World)(t:D)(X:Nat→Prop):Base:=
 {σ with
  B:=σ0.B
  fin:=False
  F:=fun t' fx cx w'=>t'=t∧(∀k,fx k↔(k<w.heap.size∧own k=none∧σ.m k≠some fN∧¬X k))∧(∀k,cx k↔(fx k∧(∀o,σ.c k o=none)∧σ.m k=none))∧w.heap.size≤w'.heap.size∧∀k,fx k→w'.heap[k]?=w.heap[k]?
  lt:=fun t' fx cx w' h k hk=>Hf ((h.2.1 k).1 hk).1 h.2.2.2.1
  sub:=fun t' fx cx w' h k hk=>((h.2.2.1 k).1 hk).1
  keep:=fun t' fx cx w' ls h hb hs=>⟨h.1,h.2.1,h.2.2.1,ke h.2.2.2.1 hb.size,fun k hk=>(hs k hk).trans (h.2.2.2.2 k hk)⟩}
section
variable {C:Ctx} {S S':St} {ρ ρ':Env} {σ σ':Im} {own own':Nat→Option Nat} {hv hv':Nat→Value} {w0:World} {σ0:Base} {A A':Nat→Prop} {a a':Act} {w w':World} {X:Nat→Prop}
theorem Inv.toRnd (h:Inv C S ρ σ own hv w0 σ0 A a w){t:D}(ht:∀j,S.o j=.tr→(∃ys,C.yl=some (j,ys))∧ρ.o j=t):Inv C S ρ σ own hv w0 (σ0.rnd σ own w t X) A a w:=by
 refine⟨h.defers,h.ok,.refl σ,(fun hf=>hf.elim),(fun _ _ _ e=>.inl e),(fun _ _ e=>.inl e),h.below,h.bw,h.owns,h.regs,h.objs,h.opts,t,fun k=>k<w.heap.size∧own k=none∧σ.m k≠some fN∧¬X k,fun k=>(k<w.heap.size∧own k=none∧σ.m k≠some fN∧¬X k)∧(∀o,σ.c k o=none)∧σ.m k=none,
  ⟨⟨rfl,fun _=>.rfl,fun _=>.rfl,bK _,fun _ _=>rfl⟩,fun k j hk hf=>?_,fun k o x e hc=>?_,fun k x e hc=>?_,fun k e _ hf=>hf.2.2.1 e⟩,ht⟩
 ·have:=hf.2.1;rw[hk] at this;cases this
 ·have:=hc.2.1 o;rw[e] at this;cases this
 ·have:=hc.2.2;rw[e] at this;cases this
theorem Inv.markSame {w1:World}(h:σ.ok w1)(h':σ'.ok w')(hle:σ.le σ'){k:Nat}(hk:σ.m k=some fN):w'.heap[k]?=w1.heap[k]?:=by
 have e1:w1.heap[k]?=some (.deferred (some [])):=by
  rcases h.m k _ hk with⟨h1,_⟩|⟨_,h2⟩
  ·exact absurd rfl h1
  ·exact h2
 have e2:w'.heap[k]?=some (.deferred (some [])):=by
  rcases h'.m k _ (hle.m k _ hk) with⟨h1,_⟩|⟨_,h2⟩
  ·exact absurd rfl h1
  ·exact h2
 rw[e1,e2]
theorem Inv.rndSame {w1:World}{t:D}(aB:σ.ok w1)(h':Inv C S' ρ' σ' own' hv' w0 (σ0.rnd σ own w1 t X) A' a' w'){k:Nat}(hk:k<w1.heap.size)(ho:own k=none)(hX:¬X k):w'.heap[k]?=w1.heap[k]?:=by
 by_cases hd:σ.m k=some fN
 ·exact Inv.markSame aB h'.ok h'.le hd
 ·obtain⟨t',fx,cx,hf,_⟩:=h'.frame;obtain⟨_,f2,_,_,f5⟩:=hf.F;exact f5 k ((f2 k).2 ⟨hk,ho,hd,hX⟩)
theorem Inv.rndBelow {w1:World}{t:D}(h:Inv C S ρ σ own hv w0 σ0 A a w1)(h':Inv C S' ρ' σ' own' hv' w0 (σ0.rnd σ own w1 t X) A' a' w'):Below 0 w1 w':=by
 obtain⟨t',fx,cx,hf,_⟩:=h'.frame;obtain⟨_,_,_,f4,_⟩:=hf.F;exact⟨h'.below.os.trans h.below.os.symm,h'.below.tape.trans h.below.tape.symm,h'.below.output.trans h.below.output.symm,f4,fun k hk=>by omega⟩
theorem Inv.rndOwn {w1:World}{t:D}(h':Inv C S' ρ' σ' own' hv' w0 (σ0.rnd σ own w1 t X) A' a' w'){k j:Nat}(hk:own' k=some j)(hX:¬X k):(∃i,own k=some i)∨w1.heap.size≤k:=by
 obtain⟨t',fx,cx,hf,_⟩:=h'.frame;obtain⟨_,f2,_,_,_⟩:=hf.F;cases e:own k with
 |some i=>exact .inl ⟨i,rfl⟩
 |none=>
  refine .inr (Nat.le_of_not_lt fun ar=>?_);by_cases hd:σ.m k=some fN
  ·have:=(h'.owns k j hk).2.2.2;rw[h'.le.m k _ hd] at this;cases this
  ·exact hf.own k j hk ((f2 k).2 ⟨ar,e,hd,hX⟩)
theorem Inv.rndC {w1:World}{t:D}(h':Inv C S' ρ' σ' own' hv' w0 (σ0.rnd σ own w1 t X) A' a' w'){k:Nat}(hk:(∃o x,σ'.c k o=some x)∨∃x,σ'.m k=some x)(hX:¬X k):(∃o x,σ.c k o=some x)∨(∃x,σ.m k=some x)∨(∃i,own k=some i)∨w1.heap.size≤k:=by
 obtain⟨t',fx,cx,hf,_⟩:=h'.frame;obtain⟨_,f2,f3,_,_⟩:=hf.F;cases e:own k with
 |some i=>exact .inr (.inr (.inl ⟨i,rfl⟩))
 |none=>
  by_cases hm:∃x,σ.m k=some x
  ·exact .inr (.inl hm)
  by_cases hc:∃o x,σ.c k o=some x
  ·exact .inl hc
  refine .inr (.inr (.inr (Nat.le_of_not_lt fun ar=>?_)));have kT:σ.m k=none:=by
   cases e2:σ.m k with
   |none=>rfl
   |some x=>exact absurd ⟨x,e2⟩ hm
  have hcx:cx k:=(f3 k).2 ⟨(f2 k).2 ⟨ar,e,by rw[kT];simp,hX⟩,fun o=>by
   cases e2:σ.c k o with
   |none=>rfl
   |some x=>exact absurd ⟨o,x,e2⟩ hc,kT⟩
  rcases hk with⟨o,x,hk⟩|⟨x,hk⟩
  ·exact hf.c k o x hk hcx
  ·exact hf.m k x hk hcx
theorem Inv.ofRnd {w1:World}(h:Inv C S ρ σ own hv w0 σ0 A a w1){t:D}{fx cx:Nat→Prop}(gj:FrOK σ own w0.heap.size σ0 w1 t fx cx)(hX:∀k,fx k→¬X k)(h':Inv C S' ρ' σ' own' hv' w0 (σ0.rnd σ own w1 t X) A' a' w'):
 Inv C S' ρ' σ' own' hv' w0 σ0 A' a' w':=by
 have hb:=h.rndBelow h';have kO:=h';obtain⟨t',m5,m0,hf,ht⟩:=kO.frame;obtain⟨f1,f2,f3,f4,f5⟩:=hf.F;have ar:=σ0.lt _ _ _ _ gj.F;have cR:=σ0.sub _ _ _ _ gj.F
 have hon:∀k,fx k→own k=none:=fun k hk=>by
  cases e:own k with
  |none=>rfl
  |some j=>exact absurd hk (gj.own k j e)
 have lJ:∀k,cx k→¬((∃o x,σ'.c k o=some x)∨∃x,σ'.m k=some x):=fun k hk hc=>by
  have h1:=cR k hk;rcases Inv.rndC h' hc (hX k h1) with⟨o,x,e⟩|⟨x,e⟩|⟨j,e⟩|e
  ·exact gj.c k o x e hk
  ·exact gj.m k x e hk
  ·exact gj.own k j e h1
  ·have:=ar k h1;omega
 refine⟨h'.defers,h'.ok,h.le.trans h'.le,h.old,fun k o x e=>(h'.newc k o x e).elim (h.newc k o x) .inr,fun k x e=>(h'.newm k x e).elim (h.newm k x) .inr,h'.below,h'.bw,h'.owns,h'.regs,h'.objs,h'.opts,t,fx,cx,
  ⟨σ0.keep _ _ _ _ _ gj.F hb fun k hk=>Inv.rndSame h.ok h' (ar k hk) (hon k hk) (hX k hk),fun k j hk qU=>?_,fun k o x e hc=>lJ k hc (.inl ⟨o,x,e⟩),fun k x e hc=>lJ k hc (.inr ⟨x,e⟩),fun k e hB qU=>?_⟩,fun j hj=>⟨(ht j hj).1,by rw[(ht j hj).2,f1]⟩⟩
 ·rcases Inv.rndOwn h' hk (hX k qU) with⟨i,e⟩|e
  ·exact gj.own k i e qU
  ·have:=ar k qU;omega
 ·by_cases hd:σ.m k=some fN
  ·exact gj.d k hd hB qU
  ·exact hf.d k e hB ((f2 k).2 ⟨ar k qU,hon k qU,hd,hX k qU⟩)
theorem Inv.restore (h:Inv C S ρ σ own hv w0 σ0 A a w)(hn:∀t gs s,S.r t≠.opt gs s)(hd:kJ σ w0.heap.size a'.defers)(hr:∀t,isNone (S.r t)=false→a'.tmps.getD t undef=a.tmps.getD t undef∧ρ'.r t=ρ.r t)(ho:∀j,q9 (S.o j)=false→ρ'.o j=ρ.o j):
 Inv C S ρ' σ own hv w0 σ0 (fun _=>False) a' w:=by
 refine⟨hd,h.ok,h.le,h.old,h.newc,h.newm,h.below,h.bw,h.owns,fun t=>?_,fun j=>?_,fun t gs s e=>absurd e (hn t gs s),?_⟩
 ·cases hs:isNone (S.r t) with
  |true=>cases hc:S.r t<;>rw[hc] at hs<;>simp[isNone] at hs;trivial
  |false=>
   rw[(hr t hs).1,(hr t hs).2];exact bf.mono' (.refl σ) (.refl S hv) (hn t) (h.regs t)
 ·cases hs:q9 (S.o j) with
  |true=>cases hc:S.o j<;>rw[hc] at hs<;>simp[q9] at hs;trivial
  |false=>exact(h.objs j).mono (.refl σ) (.refl S hv) rfl (ho j hs) (fun k hk=>⟨hk,rfl⟩)
 ·obtain⟨t,fx,cx,h1,h2⟩:=h.frame;exact⟨t,fx,cx,h1,fun j hj=>⟨(h2 j hj).1,by rw[ho j (by rw[hj];rfl)];exact(h2 j hj).2⟩⟩
theorem kJ.mem {σ:Im}{B:Nat}:∀{ds:List Deferred} {d:Deferred},d∈ds→kJ σ B ds→∃D,d={target:=.collected D,args:=#[]}∧σ.m D=some fN
 |x::ds,d,hm,⟨⟨D,h1,h2,_⟩,h⟩=>by
  rcases cW.1 hm with e|e
  ·subst e;exact⟨D,h1,h2⟩
  ·exact kJ.mem e h
def Im.mark (σ:Im)(D:Nat):Im:=⟨σ.c,fun k=>if k=D then some fN else σ.m k⟩
theorem Z7 (w:World)(o1 o2:Obj):Below w.heap.size w ((w.alloc o1).alloc o2):=(((Below.refl _ w).alloc (bK _) o1).alloc (by simp) o2)
theorem Inv.enter (h:Inv C S ρ σ own hv w0 σ0 A a w)(r:Loop):
 Inv C S ρ (σ.mark w.heap.size) own hv w0 σ0 A {a with defers:={target:=.collected w.heap.size,args:=#[]}::a.defers} ((w.alloc (.deferred (some []))).alloc (.loop r)):=by
 have hD:((w.alloc (.deferred (some []))).alloc (.loop r)).heap[w.heap.size]?=some (.deferred (some [])):=(Below.heap_alloc _ _ _ (by simp)).trans (World.alloc_heap_new w _);have hle:σ.le (σ.mark w.heap.size):=by
  refine⟨fun _ _ _ e=>e,fun k x e=>?_⟩;have:k≠w.heap.size:=by have:=h.ltm e;omega
  simp[Im.mark,this,e]
 have xg:∀k x,(σ.mark w.heap.size).m k=some x→σ.m k=some x∨(k=w.heap.size∧x=fN):=by
  intro k x e;simp only[Im.mark] at e;split at e
  ·rename_i e2;cases e;exact .inr ⟨e2,rfl⟩
  ·exact .inl e
 have hb:=Z7 w (.deferred (some [])) (.loop r);have aB:(σ.mark w.heap.size).ok ((w.alloc (.deferred (some []))).alloc (.loop r)):=by
  have h1:=h.ok.below hb;refine⟨h1.c,fun k x e=>?_⟩;rcases xg k x e with e|⟨rfl,rfl⟩
  ·exact h1.m k x e
  ·exact .inr ⟨rfl,hD⟩
 have hw:=h.world hle aB hb (fun _ _ _ e=>.inl e) (fun k x e=>(xg k x e).imp id fun e=>by omega);have oe:=hw.defers;refine⟨⟨⟨_,rfl,by simp[Im.mark],h.below.size,fun hm=>?_⟩,oe⟩,hw.ok,hw.le,hw.old,hw.newc,hw.newm,hw.below,hw.bw,hw.owns,hw.regs,hw.objs,hw.opts,hw.frame⟩;obtain⟨D,e1,e2⟩:=kJ.mem hm h.defers;have:D=w.heap.size:=by cases e1;rfl
 subst this;have:=h.ltm e2;omega
end
end Cx
