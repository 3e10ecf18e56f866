/-
  Shared texts of this claim.
-/
import Derived.Test.YtefchokhgdmamaaGreatDoorHAD
import Derived.Tactics
import Derived.RangeFuncIn
import Derived.OrdersIn
import Derived.RangeFuncRecord
set_option linter.unusedSimpArgs false
set_option linter.unusedVariables false
namespace Cx
open Go Go.RowKit
inductive Gh where
 |fz (j:Nat)|fbox (b:Nat)|rereg (t j:Nat)|recell (b i j:Nat)|home (b i j:Nat) (T:TypeId)
def Gh.run (C:Ctx)(S:St):Gh→Option (St×List PI)
 |.fz j=>some (S.fz j,[])
 |.fbox b=>BA S b
 |.rereg t j=>wM S t j
 |.recell b i j=>D3 S b i j
 |.home b i j T=>Cn C S b i j T
def jz (C:Ctx):List Gh→St→Option (St×List PI)
 |[],S=>some (S,[])
 |g::gs,S=>(g.run C S).bind fun r=>(jz C gs r.1).map fun q=>(q.1,r.2++q.2)
theorem nW {Φ:aR}:∀{a b:List PI} {ρ:Env},PI.runs Φ (a++b) ρ=(PI.runs Φ a ρ).bind (PI.runs Φ b)
 |[],b,ρ=>by simp[PI.runs]
 |x::a,b,ρ=>by
  simp only[EA,PI.runs];cases x.run Φ ρ with
  |none=>rfl
  |some ρ1=>simp[nW (a:=a) (b:=b)]
def oC (S:St)(ops:Array Oper)(o:Oper):Option (List (Nat×Bool)):=
 match o.guard with
 |none=>some []
 |some (j,want)=>
  match(ops[j]?).bind (·.dst) with
  |some t=>
   match S.r t with
   |.dat .bool=>some [(t,want)]
   |.opt gs (.dat .bool)=>some ((t,want)::gs)
   |_=>none
  |none=>none
def rW (S:St)(gs:List (Nat×Bool)):Op→List Nat
 |.build _ ps=>bJ S gs (ps.toList.map (·.2))
 |.buildSlice _ _ ps=>bJ S gs (ps.toList.map (·.2))
 |.box _ x=>match eU S gs x with|.agg _=>[]|_=>bJ S gs [x]
 |.pick _ x y=>bJ S gs [x,y]
 |.slice _ x _ _ _=>bJ S gs [x]
 |.mapUpdate _ _ k v=>bJ S gs [k,v]
 |.insert _ _ k v=>bJ S gs [k,v]
 |.store _ x v=>match eU S gs x with|.eptr ..=>bJ S gs [v]|_=>[]
 |_=>[]
def AU:List Sh→List Nat
 |[]=>[]
 |.obj j _::r=>j::AU r
 |_::r=>AU r
def EZ (S:St)(gs:List (Nat×Bool)):List Operand→List Nat
 |[]=>[]
 |x::xs=>
  match eU S gs x with
  |.ptr j ver off=>bif Nat.beq ver (S.ver j)&&(match S.o j with|.box ..=>true|_=>false) then j::EZ S gs xs else EZ S gs xs
  |_=>EZ S gs xs
def WN (C:Ctx):Fn→Bool
 |.func f=>(match C.sig f with|some s=>oV s.mode|none=>false)
 |_=>false
theorem ai9 {α:Type}{b:Bool}{x:α}{l:List α}(h:x∈bif b then[] else l):x∈l:=by
 cases b with
 |true=>cases h
 |false=>exact h
def pre (C:Ctx)(S:St)(gs:List (Nat×Bool))(op:Op):List Gh:=
 match op with
 |.makeFunc fn _ caps=>
  bif WN C fn then[] else(EZ S gs caps.toList).flatMap fun b=>(match S.o b with|.box _ shs=>(AU shs).map .fz|_=>[])++[.fbox b]
 |.load T x=>
  match eU S gs x,oU C.P T,C.P.info? T with
  |.ptr j _ off,some true,some inf=>bif JX C j then[] else(match S.o j with|.box _ shs=>((AU ((shs.drop off).take inf.size)).filter fun j=>kG (S.o j)).map .fz|_=>[])
  |_,_,_=>[]
 |.build T ps=>((rW S gs (.build T ps)).filter fun j=> !(C.fr.any (Nat.beq (3000000+j)))).map .fz
 |op=>(rW S gs op).map .fz
def pj (C:Ctx)(S:St)(gs:List (Nat×Bool))(o:Oper):List Gh:=
 match o.op,o.dst with
 |.assign x,some t=>bif C.fr.any (Nat.beq t) then(bJ S gs [x]).map .fz else[]
 |_,_=>[]
def KH (P:Program):Nat→TypeId→List (Option TypeId)
 |0,_=>[]
 |n+1,t=>
  match P.underlying t with
  |some (.struct fs)=>fs.toList.flatMap fun f=>KH P n f.type
  |some (.array len e)=>(List.replicate len (KH P n e)).flatten
  |some (.slice e)=>[some e]
  |_=>[none]
def homes (P:Program)(b off:Nat)(T:TypeId):List Gh:=
 ((KH P 12 T).zipIdx).filterMap fun x=>x.1.map fun e=>.home b (off+x.2) (gj b (off+x.2)) e
def Hu (nh:List Nat)(l:List Gh):List Gh:=l.filter fun g=>match g with|.home _ _ j _=> !(nh.any (Nat.beq j))|_=>true
def Zk (b off n:Nat):List Gh:=(List.range n).map fun i=>.recell b (off+i) (gj b (off+i))
def post (C:Ctx)(S:St)(o:Oper):List Gh:=
 match o.op,o.dst with
 |.assign _,some t=>[.rereg t t]
 |.alloc T,some t=>Hu C.nh (homes C.P t 0 T)
 |.store T x _,_=>
  match eU S [] x with
  |.ptr j _ off=>Hu C.nh (homes C.P j off T)++Zk j off (match C.P.info? T with|some i=>i.size|none=>0)
  |_=>[]
 |_,_=>[]
def qs:Sh→Bool
 |.opt ..=>false
 |_=>true
def sS (C:Ctx)(S:St)(dst:Nat)(T:TypeId)(x:Operand):ke:=
 match x with
 |.const v=>(oa C.P T).bind fun t=>(oc t).bind fun z=>bif jo t v then some (S.setR dst (.dat z.1),[.setR dst (.con z.2)]) else none
 |_=>none
def core (C:Ctx)(S:St)(gs:List (Nat×Bool))(o:Oper):Option (St×List PI):=
 match o.dst with
 |some dst=>
  match nN C S gs dst o.op with
  |some r=>bif qs r.1 then some (S.setR dst (iT gs r.1),r.2) else none
  |none=>
   match o.op,gs with
   |.assign x,[]=>
    bif C.fr.any (Nat.beq dst) then
          match pg C S [] dst x with
          |some r=>some (S.setR dst r.1,r.2)
          |none=>sS C S dst o.type x
    else
    match Bg C S dst o.type x with
    |some r=>some r
    |none=>
     match pg C S [] dst x with
     |some r=>some (S.setR dst r.1,r.2)
     |none=>sS C S dst o.type x
   |.alloc T,[]=>A6 C S dst T
   |.box T x,[]=>A8 C S dst T x
   |.buildSlice T n ps,gs=>
    match gs with
    |[]=>vk C S [] dst T n ps.toList
    |_=>yk C S gs dst T n ps.toList
   |.makeSlice T l c,[]=>Be C S dst T l c
   |.makeMap T r,[]=>Bd C S dst T r
   |.range T x,[]=>Bh C S dst T x
   |.convert T U x,[]=>A9 C S dst T U x
   |.call c,gs=>
    match c.callee,gs with
    |.builtin .append,[]=>
     match c.args.toList,c.argTypes.toList with
     |[s,x],[T,T']=>bif Nat.beq T T' then A7 C S dst T s x else none
     |_,_=>none
    |.value (.func f),gs=>
     match ox C S gs dst f c.args.toList with
     |some r=>some (r.1.setR dst (iT gs r.2.1),r.2.2)
     |none=>
      match gs with
      |[]=>
       match Bb C S dst f c.args.toList with
       |some r=>some r
       |none=>
        match Bc C S dst f c.args.toList with
        |some r=>some r
        |none=>
        match Ba C S dst f c.args.toList with
        |some r=>some r
        |none=>(pZ C S f c.args.toList []).map (pf S (some dst))
      |_=>none
    |.value x,gs=>
     match np C S gs dst x c.args.toList with
     |some r=>some (r.1.setR dst (iT gs r.2.1),r.2.2)
     |none=>
      match x,gs with
      |.tmp t,[]=>(yj C S t c.args.toList).map (pf S (some dst))
      |_,_=>none
    |_,_=>none
   |.makeFunc fn first caps,[]=>Bf C S dst fn first caps
   |_,_=>none
 |none=>
  match o.op,gs with
  |.store T x v,[]=>sR C S T x v
  |.mapUpdate T m k v,[]=>q7 C S T m k v
  |.insert T m k v,[]=>q7 C S T m k v
  |.panic _,[]=>some (S,[.chk (.nt (.con (.bool true)))])
  |.call c,[]=>
   match c.callee with
   |.value (.func f)=>(pZ C S f c.args.toList []).map (pf S none)
   |.value (.tmp t)=>(yj C S t c.args.toList).map (pf S none)
   |_=>none
  |_,_=>none
def XV (dst:Nat)(l:List PI):Bool:=l.all fun p=>p.modR.all (Nat.beq dst)&&p.modO.isEmpty
def iU (gs:List (Nat×Bool))(dst:Option Nat)(l:List PI):Bool:=
 match gs,dst with
 |[],_=>true
 |_,some d=>XV d l
 |_,none=>false
def A0 (C:Ctx)(S:St)(ops:Array Oper)(o:Oper):Option (St×List PI):=
 (oC S ops o).bind fun gs=>
 (jz C (pre C S gs o.op++pj C S gs o) S).bind fun r1=>
 (core C r1.1 gs o).bind fun r2=>
 (jz C (post C r2.1 o) r2.1).bind fun r3=>
 bif iU gs o.dst r2.2 then some (r3.1,r1.2++r2.2++r3.2) else none
def Eh:PI:=.chk (.con (.v (.bool false)))
def yf (C:Ctx)(S:St)(ops:Array Oper)(o:Oper):Option (St×List PI):=
 match A0 C S ops o with
 |some r=>some r
 |none=>some (match o.dst with|some d=>S.setR d .none|none=>S,[Eh])
section
variable {C:Ctx} {S:St} {ρ:Env} {σ:Im} {own:Nat→Option Nat} {hv:Nat→Value} {w0:World} {σ0:Base} {A:Nat→Prop} {a:Act} {w:World} {gs:List (Nat×Bool)} {Φ:aR} {dst:Nat}
theorem Gh.sound {g:Gh}{r:St×List PI}(h:Good C w0 σ0 S ρ A a w)(hr:g.run C S=some r):As C w0 σ0 Φ S ρ A a w r:=by
 obtain⟨σ,own,hv,h⟩:=h;cases g with
 |fz j=>
  simp only[Gh.run,aO] at hr;subst hr;intro ρ' af;rw[m0 af];obtain⟨σ',own',_,h'⟩:=h.fz j;exact⟨σ',own',hv,h'⟩
 |fbox b=>exact aes h hr
 |rereg t j=>exact aln h hr
 |recell b i j=>exact alm h hr
 |home b i j T=>exact agM h hr
theorem Lp:∀(l:List Gh) {S:St} {ρ ρ':Env} {r:St×List PI},Good C w0 σ0 S ρ A a w→jz C l S=some r→PI.runs Φ r.2 ρ=some ρ'→Good C w0 σ0 r.1 ρ' A a w
 |[],S,ρ,ρ',r,h,hr,af=>by
  simp only[jz,aO] at hr;subst hr;rw[m0 af];exact h
 |g::l,S,ρ,ρ',r,h,hr,af=>by
  simp only[jz,ao,av] at hr;obtain⟨q,hq,q2,iZ,rfl⟩:=hr;simp only[nW,ao] at af;obtain⟨ρ1,h1,h2⟩:=af;exact Lp (r:=q2) l (Gh.sound (Φ:=Φ) h hq ρ1 h1) iZ h2
theorem T7 (h:Good C w0 σ0 S ρ A a w){ops:Array Oper}{o:Oper}(hg:oC S ops o=some gs):Region.wanted o (yielded ops a.tmps)=holds gs ρ:=by
 obtain⟨σ,own,hv,h⟩:=h;unfold oC at hg;unfold Region.wanted;split at hg
 ·rename_i e;cases hg;simp[e,holds]
 ·rename_i j want e;simp only[e];split at hg
  case h_2=>cases hg
  rename_i t ht;have fU:=h.regs t;have hy:∀v,a.tmps.getD t undef=v→(∀b,v=.bool b→yielded ops a.tmps j=some b)∧(v=undef→yielded ops a.tmps j=none):=by
   intro v hv';unfold yielded;rw[ht];simp only[jQ];rw[ej] at hv';cases oJ:a.tmps[t]? with
   |none=>rw[oJ] at hv';simp at hv';subst hv';exact⟨fun b e=>absurd e (by simp[undef]),fun _=>rfl⟩
   |some u=>rw[oJ] at hv';simp at hv';subst hv';exact⟨fun b e=>by subst e;rfl,fun e=>by subst e;rfl⟩
  split at hg
  ·rename_i es;cases hg;rw[es] at fU;obtain⟨b,bW,bk⟩:=Rep.bool_inv fU;rw[(hy _ bW).1 b rfl];simp[holds,bk,D.b_bool]
  ·rename_i bG es;cases hg;rw[es] at fU;simp only[holds,pK];cases hh:holds bG ρ with
   |true=>
    obtain⟨b,bW,bk⟩:=Rep.bool_inv (fU.1 hh);rw[(hy _ bW).1 b rfl];unfold holds at hh;rw[hh,bk];simp[D.b_bool]
   |false=>
    rw[(hy _ (fU.2 hh)).2 rfl];unfold holds at hh;rw[hh];simp
  ·cases hg
theorem T6 (h:Good C w0 σ0 S ρ A a w){ops:Array Oper}{o:Oper}(hg:oC S ops o=some gs)(hj:∀j want t,o.guard=some (j,want)→(ops[j]?).bind (·.dst)=some t→A t):∀g,g∈gs→A g.1:=by
 obtain⟨σ,own,hv,h⟩:=h;unfold oC at hg;split at hg
 ·cases hg;simp
 ·rename_i j want e;split at hg
  case h_2=>cases hg
  rename_i t ht;have hA:=hj j want t e ht;split at hg
  ·cases hg;intro g hm;simp at hm;subst hm;exact hA
  ·rename_i bG es;cases hg;intro g hm;rcases df.1 hm with e'|fu
   ·subst e';exact hA
   ·exact(h.opts t bG _ es).1 g fu
  ·cases hg
theorem aj6 (h:Inv C S ρ σ own hv w0 σ0 A a w)(hC:CtxOK C σ0)(hg:holds gs ρ=true){o:Oper}{r:Sh×List PI}(hr:nN C S gs dst o.op=some r):eF C S ρ σ hv Φ dst a w o r:=by
 unfold nN at hr;split at hr
 ·rename_i x e;exact XZ h hC hg hr (.inl e)
 ·rename_i c x y e;exact aj5 h hC hg hr e
 ·rename_i op T x y T' e;exact ajG h hC hg hr e
 ·rename_i op T x e;exact aka h hC hg hr e
 ·rename_i s d x e;exact ajK h hC hg hr e
 ·rename_i T x e;exact C5 h hC hg hr e
 ·rename_i T x i e;exact ajO h hC hg hr e
 ·rename_i T x i e;exact ajQ h hC hg hr e
 ·rename_i T x i e;exact ajT h hC hg hr e
 ·rename_i T x i e;exact ajV h hC hg hr e
 ·rename_i x i e;exact ajM h hC hg hr e
 ·rename_i T m k ok e;exact aj1 h hC hg hr e
 ·rename_i T x lo hi mx e;exact aj8 h hC hg hr e
 ·rename_i f a b e;exact ajR h hC hg hr e
 ·rename_i T ps e;exact ajI h hC hg hr e
 ·rename_i x e;exact aj3 h hC hg hr e
 ·cases hr;intro ρ' af;have:=(PJ hg af).1;cases this
 ·rename_i c e;split at hr
  ·rename_i x T hc ha ht;refine ajX h hC hg hr ?_;rw[e];cases c with|mk callee args argTypes=>
   simp only at hc ha ht;have h1:args=#[x]:=by rw[←sv];exact ha
   have h2:argTypes=#[T]:=by rw[←sv];exact ht
   rw[hc,h1,h2]
  ·rename_i x y hc ha;refine XX (ts:=c.argTypes) h hC hg hr ?_;rw[e];cases c with|mk callee args argTypes=>
   simp only at hc ha;have h1:args=#[x,y]:=by rw[←sv];exact ha
   rw[hc,h1];rfl
  ·rename_i x y hc ha;refine XX (ts:=c.argTypes) h hC hg hr ?_;rw[e];cases c with|mk callee args argTypes=>
   simp only at hc ha;have h1:args=#[x,y]:=by rw[←sv];exact ha
   rw[hc,h1];rfl
  ·cases hr
 ·cases hr
theorem ac5 (h:Inv C S ρ σ own hv w0 σ0 A a w)(ht:¬A dst)(ae:dst<a.tmps.size){T:TypeId}{x:Operand}{r:St×List PI}(hr:sS C S dst T x=some r){o:Oper}(hd:o.dst=some dst)(ho:o.op=.assign x):bP C w0 σ0 Φ S ρ A a w o r:=by
 unfold sS at hr;split at hr
 case h_2=>cases hr
 rename_i v;simp only[ao] at hr;obtain⟨t,_,z,hz,hr⟩:=hr;cases hc:jo t v<;>simp only[hc,cond_true,cond_false] at hr
 ·cases hr
 cases hr;have bE:=(wY (cap:=C.cap) (σ:=σ) hz hc).1;refine bP.value hd fun ρ' af=>⟨v,w,by simp[execOp,ho,Act.eval],?_⟩
 have hρ:ρ'=ρ.setR dst z.2:=by simp[PI.runs,PI.run,PE.ev] at af;exact af.symm
 subst hρ;exact⟨_,_,_,h.setReg ht (s:=.dat z.1) bE ae (fun _ _ e=>by cases e)⟩
theorem ach (h:Inv C S ρ σ own hv w0 σ0 A a w)(hC:CtxOK C σ0)(aP:dY C)(hΦ:dF C Φ){o:Oper}(ht:∀d,o.dst=some d→¬A d∧d<a.tmps.size)(dR:∀g,g∈gs→A g.1)(hg:holds gs ρ=true){r:St×List PI}
 (hr:core C S gs o=some r):bP C w0 σ0 Φ S ρ A a w o r:=by
 unfold core at hr;split at hr
 ·rename_i dst hd;obtain⟨fV,fW⟩:=ht dst hd;split at hr
  ·rename_i q hq;cases eI:qs q.1<;>simp only[eI,cond_true,cond_false] at hr
   ·cases hr
   cases hr;have Vi:=aj6 (Φ:=Φ) h hC hg hq;cases gs with
   |nil=>exact Vi.eff h fV fW hd
   |cons g bG=>exact Vi.effG h fV fW dR hg hd
  ·rename_i Ck;clear Ck;split at hr
   ·rename_i x e
    have mv:∀r,(match pg C S [] dst x with|some r=>some (S.setR dst r.1,r.2)|none=>sS C S dst o.type x)=some r→bP C w0 σ0 Φ S ρ A a w o r:=by
     intro r hr;split at hr
     ·rename_i q hq;cases hr;exact(XZ (Φ:=Φ) h hC hg hq (.inr e)).eff h fV fW hd
     ·exact ac5 h fV fW hr hd e
    cases cW:C.fr.any (Nat.beq dst)<;>simp only[cW,cond_true,cond_false] at hr
    ·split at hr
     ·rename_i q hq;cases hr;exact acZ h hC fV fW hq hd e
     ·exact mv r hr
    ·exact mv r hr
   ·rename_i T e;exact acv h fV fW hr hd e
   ·rename_i T x e;exact acz h hC fV fW hr hd e
   ·rename_i T n ps e;split at hr
    ·exact acB h hC fV fW hr hd e
    ·exact acR h hC fV fW dR hg hr hd e
   ·rename_i T l c e;exact acV h hC fV fW hr hd e
   ·rename_i T m e;exact acT h fV fW hr hd e
   ·rename_i T x e;exact ac1 h fV fW hr hd e
   ·rename_i T U x e;exact acD h hC fV fW hr hd e
   ·rename_i c e;cases c with|mk callee args argTypes=>
    split at hr
    ·rename_i hc;simp only at hc;split at hr
     ·rename_i s x T T' ha MY;simp only at ha MY;cases hT:Nat.beq T T'<;>simp only[hT,cond_true,cond_false] at hr
      ·cases hr
      have yB:=au hT;subst yB;refine acx h hC fV fW hr hd ?_;have h1:args=#[s,x]:=by rw[←sv];exact ha
      have h2:argTypes=#[T,T]:=by rw[←sv];exact MY
      rw[e,hc,h1,h2]
     ·cases hr
    ·rename_i f hc;simp only at hc;split at hr
     ·rename_i q hq;cases hr;exact acP h hC aP hΦ fV fW dR hg hq hd (by rw[e,hc])
     ·split at hr
      ·split at hr
       ·rename_i q hq;cases hr;exact acK h hC aP hΦ fV fW hq hd (by rw[e,hc])
       ·split at hr
        ·rename_i q hq;cases hr;exact acM h hC aP hΦ fV fW hq hd (by rw[e,hc])
        split at hr
        ·rename_i q hq;cases hr;exact acI h hC aP hΦ fV fW hq hd (by rw[e,hc])
        ·simp only[av] at hr;obtain⟨q,hq,rfl⟩:=hr;rw[←hd];exact Tr h hC aP hΦ ht hq (by rw[e,hc])
      ·cases hr
    ·rename_i x Ha hc;simp only at hc;split at hr
     ·rename_i q hq;cases hr;exact acG h hC aP hΦ fV fW dR hg hq hd (by rw[e,hc])
     ·split at hr
      ·simp only[av] at hr;obtain⟨q,hq,rfl⟩:=hr;rw[←hd];exact Tp h hC aP hΦ ht hq (by rw[e,hc])
      ·cases hr
    ·cases hr
   ·rename_i fn first caps e;exact acX h fV fW hr hd e
   ·cases hr
 ·rename_i hd;split at hr
  ·rename_i T x v e;exact ac3 h hC hr hd e
  ·rename_i T m k v e;exact Tt h hC hr hd (.inl e)
  ·rename_i T m k v e;exact Tt h hC hr hd (.inr e)
  ·cases hr;intro ρ' af;simp[PI.runs,PI.run,PE.ev,D.bool,D.b] at af
  ·rename_i c e;cases c with|mk callee args argTypes=>
   split at hr
   ·rename_i f hc;simp only at hc;simp only[av] at hr;obtain⟨q,hq,rfl⟩:=hr;rw[←hd];exact Tr h hC aP hΦ ht hq (by rw[e,hc])
   ·rename_i t hc;simp only at hc;simp only[av] at hr;obtain⟨q,hq,rfl⟩:=hr;rw[←hd];exact Tp h hC aP hΦ ht hq (by rw[e,hc])
   ·cases hr
  ·cases hr
theorem acf {g:Nat×Bool}{bG:List (Nat×Bool)}{o:Oper}{r:St×List PI}(hr:core C S (g::bG) o=some r):
 ∃dst S2 s,o.dst=some dst∧r.1=S2.setR dst (.opt (g::bG) s)∧((∃js,S2=S.fzs js)∨∃j,S2=S.newO j .dead)∧(∀gs s',s≠.opt gs s')∧(∀x,o.op≠.assign x)∧(∀T,o.op≠.alloc T)∧∀T x v,o.op≠.store T x v:=by
 unfold core at hr;split at hr
 ·rename_i dst hd;split at hr
  ·rename_i q hq;cases eI:qs q.1<;>simp only[eI,cond_true,cond_false] at hr
   ·cases hr
   cases hr;refine⟨dst,S,q.1,hd,rfl,.inl ⟨[],rfl⟩,(fun gs s' e=>by rw[e] at eI;cases eI),fun x e=>?_,fun T e=>?_,fun T x v e=>?_⟩<;>(rw[e] at hq;simp[nN] at hq)
  ·rename_i Ck;clear Ck;split at hr
   case h_4=>
        rename_i T n ps e;split at hr
        ·rename_i hx;cases hx
        ·unfold yk at hr;split at hr
         case h_2=>cases hr
         simp only[ao] at hr;obtain⟨e0,he0,hr⟩:=hr;split at hr
         ·cases hr;exact⟨dst,_,.dat (.slice e0.rol),hd,rfl,.inr ⟨dst,rfl⟩,(fun _ _ e=>by cases e),(fun x e'=>by rw[e] at e';cases e'),(fun x e'=>by rw[e] at e';cases e'),(fun _ _ _ e'=>by rw[e] at e';cases e')⟩
         ·cases hr
   case h_9=>
        rename_i c e;split at hr
        ·rename_i hx;cases hx
        ·rename_i f hc;split at hr
         ·rename_i q hq;cases hr;simp only[ox,ao] at hq;obtain⟨s,hs,hq⟩:=hq;split at hq
          case h_2=>cases hq
          simp only[ao] at hq;obtain⟨u,hu,hq⟩:=hq;cases bI:Ty.subs u.1 s.args<;>simp only[bI,cond_true,cond_false] at hq
          ·cases hq
          cases hq;refine⟨dst,_,.dat s.res,hd,rfl,?_,(fun _ _ e=>by cases e),(fun x e'=>by rw[e] at e';cases e'),(fun x e'=>by rw[e] at e';cases e'),(fun _ _ _ e'=>by rw[e] at e';cases e')⟩;left;cases s.res.pure
          ·exact⟨_,rfl⟩
          ·exact⟨[],rfl⟩
         ·cases hr
        ·rename_i x Ha hc;have hr:∃q,np C S (g::bG) dst x c.args.toList=some q∧(q.1.setR dst (iT (g::bG) q.2.1),q.2.2)=r:=by
          split at hr
          ·rename_i q hq;cases hr;exact⟨q,hq,rfl⟩
          ·split at hr
           all_goals (first|(cases hr;done)|(rename_i hx;cases hx;done)|(rename_i hx _;cases hx;done)|(rename_i hx _ _;cases hx;done)|(rename_i hx;exact absurd hx (by simp)))
         obtain⟨q,hq,rfl⟩:=hr;unfold np at hq;split at hq
         case h_2=>cases hq
         rename_i aa r0 ee vW;split at hq
         case h_1=>cases hq
         simp only[ao] at hq;obtain⟨u,hu,hq⟩:=hq;cases bI:Ty.subs u.1 aa<;>simp only[bI,cond_true,cond_false] at hq
         ·cases hq
         cases hq;refine⟨dst,_,.dat r0,hd,rfl,?_,(fun _ _ e=>by cases e),(fun x e'=>by rw[e] at e';cases e'),(fun x e'=>by rw[e] at e';cases e'),(fun _ _ _ e'=>by rw[e] at e';cases e')⟩;left;cases r0.pure
         ·exact⟨_,rfl⟩
         ·exact⟨[],rfl⟩
        ·cases hr
   all_goals (first|(cases hr;done)|(rename_i hx;cases hx;done)|(rename_i hx _;cases hx;done))
 ·split at hr
  all_goals (first|(cases hr;done)|(rename_i hx;cases hx;done)|(rename_i hx _;cases hx;done))
theorem Vc {ρ ρ1:Env}:∀{l:List (Nat×Bool)},(∀g,g∈l→ρ1.r g.1=ρ.r g.1)→holds l ρ1=holds l ρ
 |[],_=>rfl
 |x::l,h=>by
  have ih:=Vc (l:=l) fun y hy=>h y (dz _ hy);unfold holds at ih ⊢;simp only[pK];rw[ih,h x (dG ..)]
theorem T3:∀(l:List Gh) {S:St} {r:St×List PI},jz C l S=some r→∀t,t∉r.2.flatMap PI.modR
 |[],S,r,hr=>by simp only[jz,aO] at hr;subst hr;simp
 |g::l,S,r,hr=>by
  simp only[jz,ao,av] at hr;obtain⟨q,hq,q2,iZ,rfl⟩:=hr;have ih:=T3 l iZ;have hg:∀t,t∉q.2.flatMap PI.modR:=by
   cases g with
   |fz j=>simp only[Gh.run,aO] at hq;subst hq;simp
   |fbox b=>
    simp only[Gh.run,BA] at hq;split at hq
    case h_2=>cases hq
    simp only[ao] at hq;obtain⟨x,hx,hq⟩:=hq;rename_i ag shs eo;cases ag<;>simp only[cond_true,cond_false] at hq
    ·split at hq
     ·cases hq;simp[PI.modR]
     ·cases hq
    ·cases hq;simp[PI.modR]
   |rereg t j=>
    simp only[Gh.run,wM] at hq;split at hq
    ·rename_i j' ver es;cases hb:(Nat.beq ver (S.ver j')&&kG (S.o j')&& !Nat.beq j' j)<;>simp only[hb,cond_true,cond_false] at hq<;>cases hq<;>simp[PI.modR]
    ·cases hq;simp
   |recell b i j=>
    simp only[Gh.run,D3] at hq;split at hq
    ·split at hq
     ·rename_i ag shs eo j' ver es;cases hb:(Nat.beq ver (S.ver j')&&kG (S.o j')&& !Nat.beq j' j&& !Nat.beq b j&& !Nat.beq b j')<;>simp only[hb,cond_true,cond_false] at hq<;>cases hq<;>simp[PI.modR]
     ·cases hq;simp
    ·cases hq;simp
   |home b i j T=>
    simp only[Gh.run,Cn] at hq;split at hq
    ·split at hq
     ·cases hb:(!Nat.beq b j)<;>simp only[hb,cond_true,cond_false] at hq<;>cases hq<;>simp[PI.modR]
     ·cases hq;simp
    ·cases hq;simp
  intro t hm;rw[R8,de] at hm;exact hm.elim (hg t) (ih t)
theorem ab7 (h:Good C w0 σ0 S ρ A a w)(hC:CtxOK C σ0)(aP:dY C)(hΦ:dF C Φ){ops:Array Oper}{o:Oper}(ht:∀d,o.dst=some d→¬A d∧d<a.tmps.size)
 (hj:∀j want t,o.guard=some (j,want)→(ops[j]?).bind (·.dst)=some t→A t) {r:St×List PI} (hr:A0 C S ops o=some r) {ρ':Env} (af:PI.runs Φ r.2 ρ=some ρ')
 {K:Act→World→Prop} {Q:Exit→Act→World→Prop} (hK:∀a' w',Good C w0 σ0 r.1 ρ' (fun u=>A u∨o.dst=some u) a' w'→a'.tmps.size=a.tmps.size→K a' w'):
 if Region.wanted o (yielded ops a.tmps) then o.wp C.P a w K Q else K (a.put o.dst undef) w:=by
 simp only[A0,ao] at hr;obtain⟨gs,dR,r1,iw,r2,lT,r3,vQ,hr⟩:=hr;have tn:=T6 h dR hj;rw[T7 h dR];cases hc:iU gs o.dst r2.2<;>simp only[hc,cond_true,cond_false] at hr
 ·cases hr
 cases hr;simp only[nW,ao] at af;obtain⟨ρ2,⟨ρ1,hρ1,hρ2⟩,hρ3⟩:=af;have h1:=Lp _ h iw hρ1;have dq:=h1;obtain⟨σ1,dv,aL,i1⟩:=dq;have GO:holds gs ρ1=holds gs ρ:=by
  cases gs with
  |nil=>rfl
  |cons g bG=>
   have hb:=(PI.runs_but hρ1).r
   have:∀x,x∈(g::bG)→ρ1.r x.1=ρ.r x.1:=fun x hm=>hb x.1 (by
        intro cK;exact T3 _ iw x.1 cK)
   exact Vc this
 cases hh:holds gs ρ with
 |true=>
  simp only[if_true];rw[hh] at GO;refine ach i1 hC aP hΦ ht tn GO lT ρ2 hρ2 K Q (fun a' w' fb aA=>?_);exact hK a' w' (Lp (r:=r3) _ fb vQ hρ3) aA
 |false=>
  simp only[uQ,if_false];rw[hh] at GO;cases gs with
  |nil=>simp[holds] at hh
  |cons g bG=>
   obtain⟨dst,S2,s,hd,hS,yA,hns,n1,n2,n3⟩:=acf lT;obtain⟨t1,t2⟩:=ht dst hd;have jX:post C r2.1 o=[]:=by
        unfold post;split
        ·rename_i x t e _;exact absurd e (n1 x)
        ·rename_i T t e _;exact absurd e (n2 T)
        ·rename_i T x v e;exact absurd e (n3 T x v)
        ·rfl
   rw[jX] at vQ;simp only[jz,aO] at vQ;subst vQ;have:=m0 hρ3;subst this;obtain⟨σ2,iz,i2⟩:∃σ2 iz,Inv C S2 ρ1 σ2 iz aL w0 σ0 A a w:=by
        rcases yA with⟨js,rfl⟩|⟨j,rfl⟩
        ·obtain⟨σ2,iz,_,i2⟩:=Inv.fzs js i1;exact⟨σ2,iz,i2⟩
        ·exact⟨σ1,dv,i1.kill j⟩
   have Cq:=i2.passed t1 t2 tn GO (s:=s) hns (ρ'.r dst);have hρe:ρ1.setR dst (ρ'.r dst)=ρ':=by
        have hb:=PI.runs_but hρ2;simp only[iU,hd] at hc;unfold XV at hc;rw[bz] at hc
        have e1:∀t,t≠dst→ρ'.r t=ρ1.r t:=fun t az=>hb.r t (fun hm=>by
         obtain⟨p,hp,tB⟩:=iL.1 hm;have:=hc p hp;simp only[aj] at this;have:=bz.1 this.1 t tB;exact az (au this).symm)
        have e2:∀t,ρ'.o t=ρ1.o t:=fun t=>hb.o t (fun hm=>by
         obtain⟨p,hp,tB⟩:=iL.1 hm;have:=hc p hp;simp only[aj] at this;have h9:=sD.1 this.2;rw[h9] at tB;cases tB)
        have r1:bO ρ1.r dst (ρ'.r dst)=ρ'.r:=by
         funext t;rw[fj];split
         ·rename_i e;subst e;rfl
         ·rename_i az;exact(e1 t az).symm
        have r2:ρ1.o=ρ'.o:=funext fun t=>(e2 t).symm;cases ρ' with|mk a b=>simp only[Env.setR] at r1 r2 ⊢;rw[r1,r2]
   rw[hρe] at Cq;have gD:(fun u=>A u∨o.dst=some u)=(fun u=>A u∨u=dst):=by funext u;rw[hd];simp[eq_comm]
   rw[gD] at hK;rw[hd];refine hK _ _ ?_ (size_put _ _ _);simp only;rw[hS];exact⟨_,_,_,Cq⟩
theorem ab9 (h:Good C w0 σ0 S ρ A a w)(hC:CtxOK C σ0)(aP:dY C)(hΦ:dF C Φ){ops:Array Oper}{o:Oper}(ht:∀d,o.dst=some d→¬A d∧d<a.tmps.size)
 (hj:∀j want t,o.guard=some (j,want)→(ops[j]?).bind (·.dst)=some t→A t) {r:St×List PI} (hr:yf C S ops o=some r) {ρ':Env} (af:PI.runs Φ r.2 ρ=some ρ')
 {K:Act→World→Prop} {Q:Exit→Act→World→Prop} (hK:∀a' w',Good C w0 σ0 r.1 ρ' (fun u=>A u∨o.dst=some u) a' w'→a'.tmps.size=a.tmps.size→K a' w'):
 if Region.wanted o (yielded ops a.tmps) then o.wp C.P a w K Q else K (a.put o.dst undef) w:=by
 unfold yf at hr;split at hr
 ·rename_i q hq;cases hr;exact ab7 h hC aP hΦ ht hj hq af hK
 ·cases hr;simp[PI.runs,PI.run,Eh,PE.ev,D.b_bool] at af
end
end Cx
namespace Cx
open Go Go.RowKit
def nM:Op→Bool
 |.defer _=>false
 |_=>true
def FR (rd:Option Nat):Fence:={Fence.wide with round:=rd}
theorem S4 {rd:Option Nat}{n:Nat}{P:Program}{f:FuncId}{args:Array Value}{w:World}{R:Ending→World→Prop}(h:Calls P f args w R):CallsIn (FR rd) n P f args w R:=
 (callsIn_wide (n:=n)).2 h
theorem X1 {rd:Option Nat}{n:Nat}{P:Program}{o:Oper}{a:Act}{w:World}{K:Act→World→Prop}{Q:Exit→Act→World→Prop}(be:nM o.op=true)(h:o.wp P a w K Q):o.wpIn (FR rd) n P a w K Q:=by
 refine⟨fun _ _=>trivial,?_⟩;rw[Oper.semAt_eq _ _ _ (fun c e=>by rw[e] at be;cases be)];unfold Oper.wp at h;generalize (execOp a.eval o).run P w=x at h;have eI:∀{p:Prop},((FR rd).depth.isSome=true→p):=fun e=>by cases e
 cases x with
 |ok v w'=>
  cases v with
  |value v=>exact h
  |skip=>exact h
  |defer d=>exact h
  |enter f args=>
   refine⟨eI,(S4 h).mono fun e j9 hh=>?_⟩;cases e<;>exact hh
  |row row args=>
   refine⟨eI,fun c cs _=>?_⟩;obtain⟨v,w2,h1,h2⟩:=h c cs;exact⟨v,w2,h1,stepsIn_wide.2 h2⟩
  |_=>exact h.elim
 |halt v w'=>
  cases v with
  |panic v=>exact h
  |_=>exact h.elim
structure SameBut (D:Nat→Prop) (a a':Act):Prop where
 size:a'.tmps.size=a.tmps.size
 get:∀t,¬D t→a'.tmps.getD t undef=a.tmps.getD t undef
theorem SameBut.refl (D:Nat→Prop)(a:Act):SameBut D a a:=⟨rfl,fun _ _=>rfl⟩
theorem SameBut.trans {D:Nat→Prop}{a b c:Act}(h:SameBut D a b)(k:SameBut D b c):SameBut D a c:=⟨k.size.trans h.size,fun t ht=>(k.get t ht).trans (h.get t ht)⟩
theorem SameBut.mono {D D':Nat→Prop}{a b:Act}(h:SameBut D a b)(hd:∀t,D t→D' t):SameBut D' a b:=⟨h.size,fun t ht=>h.get t fun e=>ht (hd t e)⟩
theorem SameBut.put (a:Act)(d:Option Tmp)(v:Value)(ds:List Deferred):SameBut (fun t=>d=some t) a ({a with defers:=ds}.put d v):=by
 refine⟨size_put _ _ _,fun t ht=>?_⟩;cases d with
 |none=>rfl
 |some u=>
  have:t≠u:=fun e=>ht (by rw[e]);rw[wS];simp[this]
theorem Oper.wp_same {P:Program}{o:Oper}{a:Act}{w:World}{K:Act→World→Prop}{Q:Exit→Act→World→Prop}(h:o.wp P a w (fun a' w'=>SameBut (fun t=>o.dst=some t) a a'→K a' w') Q):o.wp P a w K Q:=by
 unfold Oper.wp at h ⊢;generalize (execOp a.eval o).run P w=x at h ⊢;cases x with
 |ok v w'=>
  cases v with
  |value v=>exact h (SameBut.put a _ _ a.defers)
  |skip=>exact h (SameBut.put a _ _ a.defers)
  |defer d=>exact h (SameBut.put a _ _ _)
  |enter f args=>
   refine Calls.mono h fun e j9 hh=>?_;cases e with
   |returned v=>exact hh (SameBut.put a _ _ a.defers)
   |panicked c=>exact hh
   |outgrown=>exact hh
  |row row args=>exact Rows.mono h fun v j9 hh=>hh (SameBut.put a _ _ a.defers)
  |_=>exact h
 |halt v w'=>
  cases v with
  |panic v=>exact h
  |_=>exact h
def Sy (P:Program)(v:Value)(args:List Value)(w:World)(R:Value→World→Prop):Prop:=
 ∀(rd:Option Nat) (o:Oper) (a:Act) (x:Operand) (aa:Array Operand) (ts:Array TypeId) (K:Act→World→Prop) (Q:Exit→Act→World→Prop),
  o.op=.call {callee:=.value x,args:=aa,argTypes:=ts}→a.eval x=v→aa.toList.map a.eval=args→(∀u w',R u w'→K (a.put o.dst u) w')→o.wpIn (FR rd) 0 P a w K Q
def aam:Nat:=1000000009
def pP (C:Ctx)(Φ:aR)(w0:World)(σ0:Base):Prop:=∀J ys,C.yl=some (J,ys)→σ0.B=0∧(∀t fx cx w,σ0.F t fx cx w→∃xs,t=.list xs)∧
 ∀(xs ds':List D) (d:D),Φ aam [.list (xs++[.tup ds'])]=some d→∀(fx cx:Nat→Prop) (w1:World) (σ1:Im) (args:List Value),σ0.F (.list xs) fx cx w1→σ1.ok w1→pI C σ1 ys args ds'→
  (∀k o x,σ1.c k o=some x→¬cx k)→(∀k x,σ1.m k=some x→¬cx k)→
  (∀k o x,σ1.c k o=some x→σ0.c k o=some x∨w0.heap.size≤k)→(∀k x,σ1.m k=some x→σ0.m k=some x∨w0.heap.size≤k)→
  Sy C.P C.yv args w1 fun u w2=>∃b,d=.v (.bool b)∧u=.bool b∧Below 0 w1 w2∧(∀k,k<w1.heap.size→¬cx k→w2.heap[k]?=w1.heap[k]?)∧
   ∃oB kQ,σ0.F (.list (xs++[.tup ds'])) oB kQ w2∧(∀k,oB k→k<w1.heap.size→fx k∨(∃o x,σ1.c k o=some x)∨(∃x,σ1.m k=some x∧x≠cP))∧(∀k,kQ k→k<w1.heap.size→cx k)
def Jj (gs:List (Nat×Bool))(J:Nat)(x:PE):PE:=
 match gs with
 |[]=>.app (.o J) (.lst [x])
 |_=>.pick (.nt (.imp gs (.con (.v (.bool false))))) (.app (.o J) (.lst [x])) (.o J)
def yg (C:Ctx)(S:St)(ops:Array Oper)(o:Oper):Option (St×List PI):=
 match o.dst,o.op,C.yl with
 |some dst,.call {callee:=.value (.tmp t),args:=args,..},some (J,ys)=>
  (oC S ops o).bind fun gs=>
    match j6 S gs t with
    |.yv=>
     match(S.fzs (bJ S gs args.toList)).o J with
     |.tr=>
      (j7 C (S.fzs (bJ S gs args.toList)) gs args.toList).bind fun u=>
        bif Ty.subs u.1 ys then some ((S.fzs (bJ S gs args.toList)).setR dst (iT gs (.dat .bool)),[.setO J (Jj gs J (.tup u.2)),.call gs dst aam [.o J]]) else none
     |_=>none
    |_=>none
 |_,_,_=>none
def oq (C:Ctx)(S:St)(ops:Array Oper)(o:Oper):Option (St×List PI):=
 match yg C S ops o with
 |some r=>some r
 |none=>yf C S ops o
section
variable {C:Ctx} {S:St} {ρ:Env} {σ:Im} {own:Nat→Option Nat} {hv:Nat→Value} {w0:World} {σ0:Base} {A:Nat→Prop} {a:Act} {w:World} {gs:List (Nat×Bool)} {Φ:aR} {dst:Nat}
theorem amo (gs:List (Nat×Bool))(J:Nat)(x:PE)(ρ:Env):(Jj gs J x).ev ρ=if holds gs ρ=true then .list ((ρ.o J).l++[x.ev ρ]) else ρ.o J:=by
 cases gs with
 |nil=>simp[Jj,PE.ev,PE.evs,holds,D.l_list]
 |cons g gs=>
  simp only[Jj,PE.ev,PE.evs,D.b_bool,D.l_list,sw,Bool.not_not];cases holds (g::gs) ρ<;>rfl
theorem Inv.yielded (h:Inv C S ρ σ own hv w0 σ0 A a w)(hB:σ0.B=0){J:Nat}{ys:List Ty}(hJ:C.yl=some (J,ys))(Gx:S.o J=.tr){w2:World}(hb:Below 0 w w2){t:D}{fx cx:Nat→Prop}(hf:FrOK σ own w0.heap.size σ0 w t fx cx)
 (hs:∀k,k<w.heap.size→¬cx k→w2.heap[k]?=w.heap[k]?) {t':D} {oB kQ:Nat→Prop} (hF:σ0.F t' oB kQ w2)
 (h1:∀k,oB k→k<w.heap.size→fx k∨(∃o x,σ.c k o=some x)∨(∃x,σ.m k=some x∧x≠cP)) (h2:∀k,kQ k→k<w.heap.size→cx k):Inv C S (ρ.setO J t') σ own hv w0 σ0 A a w2:=by
 have bI:=σ0.sub _ _ _ _ hf.F;have dA:∀k o x,σ.c k o=some x→w2.heap[k]?=w.heap[k]?:=fun k o x e=>hs k (h.lt e) (hf.c k o x e);have yS:∀k x,σ.m k=some x→w2.heap[k]?=w.heap[k]?:=fun k x e=>hs k (h.ltm e) (hf.m k x e);have My:∀k j,own k=some j→w2.heap[k]?=w.heap[k]?:=fun k j e=>hs k (h.owns k j e).2.1 fun hc=>hf.own k j e (bI k hc)
 refine⟨h.defers,⟨fun k o v e=>by rw[World.cell?_of_block (dA k o v e)];exact h.ok.c k o v e,fun k x e=>(h.ok.m k x e).keep (yS k x e)⟩,h.le,h.old,h.newc,h.newm,h.below.trans (hb.mono (by omega)),h.bw,
  fun k j e=>let⟨g1,g2,g3⟩:=h.owns k j e;⟨g1,uW g2 hb.size,g3⟩,fun u=>aC.mono (S:=S) (ρ:=ρ) (ρ':=ρ.setO J t') (.refl σ) (.refl S hv) (d:=ρ.r u) (fun _ _ _=>rfl) (fun gs s e=>(h.opts u gs s e).2) (h.regs u),fun j=>?_,h.opts,
  t',oB,kQ,⟨hF,fun k j e hk=>?_,fun k o x e hc=>hf.c k o x e (h2 k hc (h.lt e)),fun k x e hc=>hf.m k x e (h2 k hc (h.ltm e)),fun k e kX hk=>?_⟩,fun j hj=>?_⟩
 ·by_cases yO:j=J
  ·subst yO;rw[Gx];trivial
  ·exact(h.objs j).mono (.refl σ) (.refl S hv) rfl (by simp[Env.setO,bf _ _ yO]) (fun k e=>⟨e,My k j e⟩)
 ·obtain⟨_,g2,g3,g4⟩:=h.owns k j e;rcases h1 k hk g2 with e1|⟨o,x,e1⟩|⟨x,e1,_⟩
  ·exact hf.own k j e e1
  ·rw[g3 o] at e1;cases e1
  ·rw[g4] at e1;cases e1
 ·rcases h1 k hk (h.ltm e) with e1|⟨o,x,e1⟩|⟨x,e1,e2⟩
  ·exact hf.d k e kX e1
  ·have c1:=h.ok.c k o x e1;rcases h.ok.m k _ e with⟨m1,_⟩|⟨_,m2⟩
   ·exact m1 rfl
   ·simp[World.cell?,m2] at c1
  ·rw[e] at e1;cases e1;exact e2 rfl
 ·obtain⟨_,_,_,_,ht⟩:=h.frame;obtain⟨⟨ys',e1⟩,_⟩:=ht j hj;rw[hJ] at e1;cases e1;exact⟨⟨_,hJ⟩,aG _ _ _⟩
theorem aca {rd:Option Nat}(h:Good C w0 σ0 S ρ A a w)(hC:CtxOK C σ0)(hY:pP C Φ w0 σ0){ops:Array Oper}{o:Oper}(ht:∀d,o.dst=some d→¬A d∧d<a.tmps.size)
 (hj:∀j want t,o.guard=some (j,want)→(ops[j]?).bind (·.dst)=some t→A t) {r:St×List PI} (hr:yg C S ops o=some r) {ρ':Env} (af:PI.runs Φ r.2 ρ=some ρ')
 {K:Act→World→Prop} {Q:Exit→Act→World→Prop} (hK:∀a' w',Good C w0 σ0 r.1 ρ' (fun u=>A u∨o.dst=some u) a' w'→SameBut (fun t=>o.dst=some t) a a'→K a' w'):
 if Region.wanted o (yielded ops a.tmps) then o.wpIn (FR rd) 0 C.P a w K Q else K (a.put o.dst undef) w:=by
 unfold yg at hr;split at hr
 case h_2=>cases hr
 rename_i _ _ dst t args ts J ys hd bQ lX;simp only[ao] at hr;obtain⟨gs,dR,hr⟩:=hr;split at hr
 case h_2=>cases hr
 rename_i Na;split at hr
 case h_2=>cases hr
 rename_i Gx;simp only[ao] at hr;obtain⟨u,hu,hr⟩:=hr;cases bI:Ty.subs u.1 ys<;>simp only[bI,cond_true,cond_false] at hr
 ·cases hr
 cases hr;have tn:=T6 h dR hj;rw[T7 h dR];obtain⟨σ,own,hv,i⟩:=h;obtain⟨σ1,dv,hle,i1⟩:=Inv.fzs (bJ S gs args.toList) i;obtain⟨t1,t2⟩:=ht dst hd;have gD:(fun u=>A u∨o.dst=some u)=(fun u=>A u∨u=dst):=by funext u;rw[hd];simp[eq_comm]
 rw[gD] at hK;simp only[PI.runs,PI.run,jQ,amo,ao] at af;cases hh:holds gs ρ with
 |false=>
  simp only[hh,uQ,if_false] at af ⊢;have e1:ρ.setO J (ρ.o J)=ρ:=by
   cases ρ with|mk r o=>simp only[Env.setO];congr 1;funext x;rw[fj];split<;>simp_all
  rw[e1,hh] at af;obtain⟨ρ1,e2,e3⟩:=af;cases e2;cases e3;cases gs with
  |nil=>simp[holds] at hh
  |cons g bG=>
   have Cq:=i1.passed t1 t2 tn hh (s:=.dat .bool) (fun _ _ e=>by cases e) (ρ.r dst);have e4:ρ.setR dst (ρ.r dst)=ρ:=by
        cases ρ with|mk r o=>simp only[Env.setR];congr 1;funext x;rw[fj];split<;>simp_all
   rw[e4] at Cq;rw[hd];exact hK _ _ ⟨_,_,_,Cq⟩ (by rw[hd];exact SameBut.put a (some dst) undef a.defers)
 |true=>
  simp only[hh,if_true] at af ⊢;have il:=Ai i1 hC hh hu bI;obtain⟨tr,fx,cx,hf,vV⟩:=i1.frame;obtain⟨_,hρJ⟩:=vV J Gx;obtain⟨hB,agn,ahH⟩:=hY J ys lX;obtain⟨xs,rfl⟩:=agn _ _ _ _ hf.F;rw[hρJ] at af;simp only[D.l_list,PE.ev] at af;obtain⟨ρ1,e2,e3⟩:=af;cases e3;have UR:holds gs (ρ.setO J (.list (xs++[.tup (PE.evs ρ u.2)])))=true:=hh;rw[UR] at e2;simp only[cond_true,PE.evs,PE.ev,Env.setO,aG,av] at e2;obtain⟨d,e4,e5⟩:=e2;have hy:=ahH xs (PE.evs ρ u.2) d e4 fx cx w σ1 (args.toList.map a.eval) hf.F i1.ok il hf.c hf.m i1.newc i1.newm;have cj:a.eval (.tmp t)=C.yv:=by
   have:=(ml i hh t).1;rw[Na] at this;have h9:a.tmps.getD t undef=C.yv:=this;simpa [Act.eval] using h9
  refine hy rd o a (.tmp t) args ts K Q bQ cj rfl fun v w2 jX=>?_;obtain⟨b,rfl,rfl,hb,hs,oB,kQ,hF,h1,h2⟩:=jX;have i2:=i1.yielded hB lX Gx hb hf hs hF h1 h2;refine hK _ _ ?_ (SameBut.put a _ _ a.defers);rw[hd,←e5];change Good C w0 σ0 _ ((ρ.setO J (.list (xs++[.tup (PE.evs ρ u.2)]))).setR dst (.v (.bool b))) _ _ _;have hh3:holds gs ((ρ.setO J (.list (xs++[.tup (PE.evs ρ u.2)]))).setR dst (.v (.bool b)))=true:=by
   rw[Cm (t:=dst) fun g hm e=>t1 (by rw[←e];exact tn g hm)];exact UR
  cases gs with
  |nil=>exact⟨_,_,_,i2.setReg t1 (s:=.dat .bool) (.bool b) t2 (fun _ _ e=>by cases e)⟩
  |cons g bG=>
   refine⟨_,_,_,i2.setReg t1 (s:=.opt (g::bG) (.dat .bool)) ⟨fun _=>.bool b,fun e=>absurd (hh3.symm.trans e) (by decide)⟩ t2 (fun gs s e=>?_)⟩;cases e;exact⟨tn,fun _ _ e=>by cases e⟩
theorem F3 {rd:Option Nat}(h:Good C w0 σ0 S ρ A a w)(hC:CtxOK C σ0)(aP:dY C)(hΦ:dF C Φ)(hY:pP C Φ w0 σ0){ops:Array Oper}{o:Oper}(be:nM o.op=true)(ht:∀d,o.dst=some d→¬A d∧d<a.tmps.size)
 (hj:∀j want t,o.guard=some (j,want)→(ops[j]?).bind (·.dst)=some t→A t) {r:St×List PI} (hr:oq C S ops o=some r) {ρ':Env} (af:PI.runs Φ r.2 ρ=some ρ')
 {K:Act→World→Prop} {Q:Exit→Act→World→Prop} (hK:∀a' w',Good C w0 σ0 r.1 ρ' (fun u=>A u∨o.dst=some u) a' w'→SameBut (fun t=>o.dst=some t) a a'→K a' w'):
 if Region.wanted o (yielded ops a.tmps) then o.wpIn (FR rd) 0 C.P a w K Q else K (a.put o.dst undef) w:=by
 unfold oq at hr;split at hr
 ·rename_i q hq;cases hr;exact aca h hC hY ht hj hq af hK
 ·have:=ab9 (K:=fun a' w'=>SameBut (fun t=>o.dst=some t) a a'→K a' w') (Q:=Q) h hC aP hΦ ht hj hr af (fun a' w' g _ hs=>hK a' w' g hs);split
  ·rename_i hw;rw[if_pos hw] at this;exact X1 be (Oper.wp_same this)
  ·rename_i hw;rw[if_neg hw] at this;exact this (SameBut.put a _ _ a.defers)
end
def nm (C:Ctx)(ops:Array Oper):List Nat→St→Option (St×List PI)
 |[],S=>some (S,[])
 |i::l,S=>
  match ops[i]? with
  |some o=>(oq C S ops o).bind fun r=>(nm C ops l r.1).map fun q=>(q.1,r.2++q.2)
  |none=>none
def qB (n:Nat)(ops:Array Oper):Bool:=
 gp (ops.toList.filterMap (·.dst))&&ops.toList.all fun o=>nM o.op&&match o.dst with|some d=>Nat.blt d n|none=>true
section
variable {C:Ctx} {S:St} {ρ:Env} {σ:Im} {own:Nat→Option Nat} {hv:Nat→Value} {w0:World} {σ0:Base} {A:Nat→Prop} {a:Act} {w:World} {gs:List (Nat×Bool)} {Φ:aR} {dst:Nat}
def lE (ops:Array Oper)(done:List Nat):Nat→Prop:=fun t=>∃i o,i∈done∧ops[i]?=some o∧o.dst=some t
theorem vj.dst_once {ops:Array Oper}(be:(ops.toList.filterMap (·.dst)).Nodup){i j:Nat}{o o':Oper}{d:Nat}(hi:ops[i]?=some o)(hj:ops[j]?=some o')(hd:o.dst=some d)(gC:o'.dst=some d)(az:i≠j):False:=by
 have key:∀(l:List Oper),(l.filterMap (·.dst)).Nodup→∀(i j:Nat) (o o':Oper),l[i]?=some o→l[j]?=some o'→o.dst=some d→o'.dst=some d→i=j:=by
  intro l
  induction l with
  |nil=>intro _ i j o o' hi;simp at hi
  |cons x l ih=>
   intro be i j o o' hi hj hd gC;have cK:∀(k:Nat) (y:Oper),l[k]?=some y→y.dst=some d→d∈l.filterMap (·.dst):=fun k y hk hy=>sE.2 ⟨y,jO hk,hy⟩;cases hx:x.dst with
   |none=>
    rw[List.filterMap_cons_none hx] at be;cases i with
    |zero=>simp at hi;subst hi;rw[hx] at hd;cases hd
    |succ i=>
     cases j with
     |zero=>simp at hj;subst hj;rw[hx] at gC;cases gC
     |succ j=>simp at hi hj;rw[ih be i j o o' hi hj hd gC]
   |some y=>
    rw[List.filterMap_cons_some hx,mB] at be;cases i with
    |zero=>
     simp at hi;subst hi;rw[hx] at hd;cases hd;cases j with
     |zero=>rfl
     |succ j=>simp at hj;exact absurd (cK j o' hj gC) be.1
    |succ i=>
     cases j with
     |zero=>
      simp at hj;subst hj;rw[hx] at gC;cases gC;simp at hi;exact absurd (cK i o hi hd) be.1
     |succ j=>simp at hi hj;rw[ih be.2 i j o o' hi hj hd gC]
 exact az (key ops.toList be i j o o' (by simpa using hi) (by simpa using hj) hd gC)
def pY (ops:Array Oper):Nat→Prop:=fun t=>∃o,o∈ops.toList∧o.dst=some t
theorem vj (hC:CtxOK C σ0)(aP:dY C)(hΦ:dF C Φ)(hY:pP C Φ w0 σ0){ops:Array Oper}{n:Nat}(ax:qB n ops=true){rd:Option Nat}{Q:Exit→Act→World→Prop}:
 ∀(l done:List Nat) {S:St} {ρ ρ':Env} {a:Act} {w:World} {r:St×List PI},(done++l).Nodup→(∀p i q o j want,l=p++i::q→ops[i]?=some o→o.guard=some (j,want)→j∈done++p)→
  a.tmps.size=n→Good C w0 σ0 S ρ (lE ops done) a w→nm C ops l S=some r→PI.runs Φ r.2 ρ=some ρ'→
  (∀a' w',SameBut (pY ops) a a'→Good C w0 σ0 r.1 ρ' (lE ops (done++l)) a' w'→Q .normal a' w')→wpOpsIn (FR rd) 0 C.P ops Q l a w:=by
 simp only[qB,aj] at ax;have be:=l8 ax.1;intro l
 induction l with
 |nil=>
  intro done S ρ ρ' a w r _ _ aA h hr af hQ;simp only[nm,aO] at hr;subst hr;rw[m0 af] at hQ;simp only[wpOpsIn];exact hQ a w (.refl _ _) (by simpa using h)
 |cons i l ih=>
  intro done S ρ ρ' a w r LS gi aA h hr af hQ;simp only[nm] at hr;split at hr
  case h_2=>cases hr
  rename_i o ho;simp only[ao,av] at hr;obtain⟨r1,iw,q,hq,rfl⟩:=hr;simp only[nW,ao] at af;obtain⟨ρ1,hρ1,hρ2⟩:=af;have qf:∀d,o.dst=some d→¬lE ops done d∧d<a.tmps.size:=by
   intro d hd;refine⟨fun⟨i',o',cv,dJ,gC⟩=>?_,?_⟩
   ·
        have az:i'≠i:=by
         intro e;subst e;rw[Aw] at LS;exact LS.2.2 i' cv i' (dG ..) rfl
        exact vj.dst_once be dJ ho gC hd az
   ·have:=bz.1 ax.2 o (by
     have:=gJ ho;simpa using this)
    simp only[hd,aj] at this;rw[aA];simpa [ia] using this.2
  have hj:∀j want t,o.guard=some (j,want)→(ops[j]?).bind (·.dst)=some t→lE ops done t:=by
   intro j want t hg ht;have:=gi [] i l o j want rfl ho hg;simp only[kO] at this;rw[ao] at ht;obtain⟨oj,h1,h2⟩:=ht;exact⟨j,oj,this,h1,h2⟩
  have jF:nM o.op=true:=by
   have:=bz.1 ax.2 o (by simpa using gJ ho);simp only[aj] at this;exact this.1
  have main:=F3 (rd:=rd) (K:=wpOpsIn (FR rd) 0 C.P ops Q l) (Q:=Q) h hC aP hΦ hY jF qf hj iw hρ1 (fun a' w' fb jb=>by
   have qm:=jb.size;refine ih (done++[i]) (by simpa using LS) (fun p i' q' o' j want e dJ afY=>?_) (qm.trans aA) ?_ hq hρ2 (fun a2 w2 s2 g2=>hQ a2 w2 ((jb.mono fun t e=>⟨o,by simpa using gJ ho,e⟩).trans s2) (by simpa using g2))
   ·have:=gi (i::p) i' q' o' j want (by rw[e];rfl) dJ afY;simpa using this
   ·have:(fun u=>lE ops done u∨o.dst=some u)=lE ops (done++[i]):=by
     funext u;apply propext;constructor
     ·rintro(⟨i',o',h1,h2,h3⟩|h1)
      ·exact⟨i',o',by simp[h1],h2,h3⟩
      ·exact⟨i,o,by simp,ho,h1⟩
     ·rintro⟨i',o',h1,h2,h3⟩;rcases de.1 h1 with h4|h4
      ·exact .inl ⟨i',o',h4,h2,h3⟩
      ·simp at h4;subst h4;rw[ho] at h2;cases h2;exact .inr h3
    rw[←this];exact fb)
  simp only[wpOpsIn,ho];split
  ·rename_i hw;rw[if_pos hw] at main;exact main
  ·rename_i hw;rw[if_neg hw] at main;exact⟨fun _ _=>trivial,main⟩
end
end Cx
namespace Cx
open Go Go.RowKit
def SA (S:St):AgC→Bool
 |.dat _=>true
 |.obj j ver=>Nat.beq ver (S.ver j)
def AgC.zero:AgC→AgC
 |.dat t=>.dat t
 |.obj j _=>.obj j 0
def fg (S:St):Sh→Sh
 |.none=>.none
 |.dat t=>.dat t
 |.obj j ver=>bif Nat.beq ver (S.ver j) then .obj j 0 else .none
 |.ptr j ver off=>bif Nat.beq ver (S.ver j) then .ptr j 0 off else .none
 |.eptr j ver size off=>bif Nat.beq ver (S.ver j) then .eptr j 0 size off else .none
 |.opt _ _=>.none
 |.yv=>.yv
 |.fclo f caps=>bif caps.all (fun c=>Nat.beq c.2 (S.ver c.1)) then .fclo f (caps.map fun c=>(c.1,0)) else .none
 |.agg l=>bif l.all (SA S) then .agg (l.map AgC.zero) else .none
def gV (S:St):Ob→Ob
 |.box ag shs=>.box ag (shs.map (fg S))
 |ob=>ob
def St.norm (S:St):St:=⟨fun t=>fg S (S.r t),fun j=>gV S (S.o j),fun _=>0⟩
def jh:Sh→Sh→Sh
 |.dat a,.dat b=>bif Ty.sub a b then .dat b else bif Ty.sub b a then .dat a else .none
 |.obj j v,.obj k u=>bif Nat.beq j k&&Nat.beq v u then .obj j v else .none
 |.ptr j v o,.ptr k u p=>bif Nat.beq j k&&Nat.beq v u&&Nat.beq o p then .ptr j v o else .none
 |.eptr j v s o,.eptr k u t p=>bif Nat.beq j k&&Nat.beq v u&&Nat.beq s t&&Nat.beq o p then .eptr j v s o else .none
 |.yv,.yv=>.yv
 |.fclo f a,.fclo g b=>bif Nat.beq f g&&ve a b then .fclo f a else .none
 |_,_=>.none
def wk:List Sh→List Sh→Option (List Sh)
 |[],[]=>some []
 |a::aa,b::bs=>(wk aa bs).map (jh a b::·)
 |_,_=>none
def mW:Ob→Ob→Ob
 |.fz a,.fz b=>bif Ty.beq a b then .fz a else .dead
 |.fbox a,.fbox b=>bif Ty.beq a b then .fbox a else .dead
 |.box ag aa,.box bg bs=>bif ag==bg then(match wk aa bs with|some cs=>.box ag cs|none=>.dead) else .dead
 |.row T e,.row U f=>bif Nat.beq T U&&Ty.beq e f then .row T e else .dead
 |.mp k e,.mp l f=>bif Ty.beq k l&&Ty.beq e f then .mp k e else .dead
 |.it k e,.it l f=>bif Ty.beq k l&&Ty.beq e f then .it k e else .dead
 |.tr,.tr=>.tr
 |_,_=>.dead
section
variable {C:Ctx} {S:St} {ρ:Env} {σ:Im} {own:Nat→Option Nat} {hv:Nat→Value} {w0:World} {σ0:Base} {A:Nat→Prop} {a:Act} {w:World} {gs:List (Nat×Bool)} {Φ:aR} {dst:Nat}
theorem HS {s:Sh}{v:Value}{d:D}(h:aC C S ρ σ hv s v d):aC C S.norm ρ σ hv (fg S s) v d∧∀gs s',fg S s≠.opt gs s':=by
 cases s with
 |none=>exact⟨trivial,fun _ _ e=>by cases e⟩
 |dat t=>exact⟨h,fun _ _ e=>by cases e⟩
 |obj j ver=>
  simp only[fg];cases hb:Nat.beq ver (S.ver j)
  ·exact⟨trivial,fun _ _ e=>by cases e⟩
  ·exact⟨⟨aU _,fun _=>h.2 (au hb)⟩,fun _ _ e=>by cases e⟩
 |ptr j ver off=>
  simp only[fg];cases hb:Nat.beq ver (S.ver j)
  ·exact⟨trivial,fun _ _ e=>by cases e⟩
  ·exact⟨⟨aU _,fun _=>h.2 (au hb)⟩,fun _ _ e=>by cases e⟩
 |eptr j ver size off=>
  simp only[fg];cases hb:Nat.beq ver (S.ver j)
  ·exact⟨trivial,fun _ _ e=>by cases e⟩
  ·exact⟨⟨aU _,fun _=>h.2 (au hb)⟩,fun _ _ e=>by cases e⟩
 |opt gs s=>exact⟨trivial,fun _ _ e=>by cases e⟩
 |yv=>exact⟨h,fun _ _ e=>by cases e⟩
 |agg l=>
  simp only[fg];cases hb:l.all (SA S)
  ·exact⟨trivial,fun _ _ e=>by cases e⟩
  ·refine⟨?_,fun _ _ e=>by cases e⟩;obtain⟨vs,ds,h1,h2,h3,h4,h5⟩:=h;refine⟨vs,ds,h1,h2,by simpa using h3,by simpa using h4,fun i c hi=>?_⟩;simp only[cA,av] at hi;obtain⟨c0,hc,rfl⟩:=hi;have:=bz.1 hb _ (jO hc);have h6:=h5 i c0 hc;cases c0 with
   |dat t=>exact h6
   |obj j ver=>exact⟨aU _,fun _=>h6.2 (au this)⟩
 |fclo f caps=>
  simp only[fg];cases hb:caps.all (fun c=>Nat.beq c.2 (S.ver c.1))
  ·exact⟨trivial,fun _ _ e=>by cases e⟩
  ·refine⟨?_,fun _ _ e=>by cases e⟩;obtain⟨vs,h1,h2,h3⟩:=h;refine⟨vs,h1,by simpa using h2,fun i j ver hi=>?_⟩;simp only[cA,av] at hi;obtain⟨⟨j',v'⟩,hc,e⟩:=hi;cases e;have:=bz.1 hb _ (jO hc);exact⟨aU _,fun _=>(h3 i _ _ hc).2 (au this)⟩
theorem Inv.weaken (h:Inv C S ρ σ own hv w0 σ0 A a w){S':St}{ρ':Env}(hr:∀t,aC C S' ρ' σ hv (S'.r t) (a.tmps.getD t undef) (ρ'.r t))(ho:∀j,cn C S' ρ' σ own hv w w0.heap.size j (S'.o j))
 (hn:∀t gs s,S'.r t≠.opt gs s) (ht:∀j,S'.o j=.tr→S.o j=.tr∧ρ'.o j=ρ.o j):Inv C S' ρ' σ own hv w0 σ0 (fun _=>False) a w:=
 ⟨h.defers,h.ok,h.le,h.old,h.newc,h.newm,h.below,h.bw,h.owns,hr,ho,fun t gs s e=>absurd e (hn t gs s),by
   obtain⟨t,fx,cx,h1,h5⟩:=h.frame;exact⟨t,fx,cx,h1,fun j hj=>by rw[(ht j hj).2];exact h5 j (ht j hj).1⟩⟩
theorem WL {ob:Ob}(h:gV S ob=.tr):ob=.tr:=by
 cases ob<;>simp only[gV] at h<;>first|rfl|cases h
theorem ai7 {x y:Ob}(h:mW x y=.tr):x=.tr∧y=.tr:=by
 cases x<;>cases y<;>simp only[mW] at h<;>first
  |exact⟨rfl,rfl⟩
  |(cases h;done)
  |skip
 ·rename_i a b;cases hb:Ty.beq a b<;>rw[hb] at h<;>cases h
 ·rename_i a b;cases hb:Ty.beq a b<;>rw[hb] at h<;>cases h
 ·rename_i ag aa bg bs;cases hb:ag==bg<;>rw[hb] at h
  ·cases h
  ·simp only[cond_true] at h;split at h<;>cases h
 ·rename_i T e U f;cases hb:(Nat.beq T U&&Ty.beq e f)<;>rw[hb] at h<;>cases h
 ·rename_i T e U f;cases hb:(Ty.beq T U&&Ty.beq e f)<;>rw[hb] at h<;>cases h
 ·rename_i T e U f;cases hb:(Ty.beq T U&&Ty.beq e f)<;>rw[hb] at h<;>cases h
theorem Inv.norm (h:Inv C S ρ σ own hv w0 σ0 A a w):Inv C S.norm ρ σ own hv w0 σ0 (fun _=>False) a w:=by
 refine h.weaken (fun t=>(HS (h.regs t)).1) (fun j=>?_) (fun t=>(HS (h.regs t)).2) (fun j hj=>⟨WL hj,rfl⟩);have aV:=h.objs j;show cn C S.norm ρ σ own hv w w0.heap.size j (gV S (S.o j));cases cI:S.o j with
 |box ag shs=>
  rw[cI] at aV;obtain⟨k,cs,T,ds,h1,h2,h3,h4,h5,h6,h7⟩:=aV;refine⟨k,cs,T,ds,h1,h2,h3,by simpa using h4,h5,by simpa using h6,fun i s hi=>?_⟩;simp only[cA,av] at hi;obtain⟨s0,hs0,rfl⟩:=hi;have:=HS (h7 i s0 hs0).2;exact⟨this.2,this.1⟩
 |_=>rw[cI] at aV;exact aV
theorem EW {b:Bool}{s:Sh}{v:Value}{d:D}(hs:∀gs s',s≠.opt gs s')(h:b=true→aC C S ρ σ hv s v d):aC C S ρ σ hv (bif b then s else .none) v d∧∀gs s',(bif b then s else Sh.none)≠.opt gs s':=by
 cases b with
 |true=>exact⟨h rfl,hs⟩
 |false=>exact⟨trivial,fun _ _ e=>by cases e⟩
theorem WC {s u:Sh}{v:Value}{d:D}(h:aC C S ρ σ hv s v d):aC C S ρ σ hv (jh s u) v d∧∀gs s',jh s u≠.opt gs s':=by
 cases s<;>cases u<;>simp only[jh]<;>first
  |exact⟨trivial,fun _ _ e=>by cases e⟩
  |exact EW (fun _ _ e=>by cases e) (fun _=>h)
  |exact⟨h,fun _ _ e=>by cases e⟩
  |skip
 rename_i a b;cases h1:Ty.sub a b
 ·exact EW (fun _ _ e=>by cases e) (fun _=>h)
 ·exact⟨Rep.sub h h1,fun _ _ e=>by cases e⟩
theorem WD {s u:Sh}{v:Value}{d:D}(h:aC C S ρ σ hv u v d):aC C S ρ σ hv (jh s u) v d∧∀gs s',jh s u≠.opt gs s':=by
 cases s<;>cases u<;>simp only[jh]<;>first
  |exact⟨trivial,fun _ _ e=>by cases e⟩
  |exact⟨h,fun _ _ e=>by cases e⟩
  |skip
 ·rename_i a b;cases h1:Ty.sub a b
  ·exact EW (fun _ _ e=>by cases e) (fun h2=>Rep.sub h h2)
  ·exact⟨h,fun _ _ e=>by cases e⟩
 all_goals
  refine EW (fun _ _ e=>by cases e) (fun hb=>?_);simp only[aj] at hb
  first
   |(obtain⟨⟨⟨h1,h2⟩,h3⟩,h4⟩:=hb;rw[au h1,au h2,au h3,au h4];exact h)
   |(obtain⟨⟨h1,h2⟩,h3⟩:=hb;rw[au h1,au h2,au h3];exact h)
   |(obtain⟨h1,h2⟩:=hb;rw[au h1,au h2];exact h)
   |(obtain⟨h1,h2⟩:=hb;rw[au h1,KB _ _ h2];exact h)
theorem NA:∀(aa bs cs:List Sh),wk aa bs=some cs→cs.length=aa.length∧cs.length=bs.length∧∀(i:Nat) (c:Sh),cs[i]?=some c→∃x y,aa[i]?=some x∧bs[i]?=some y∧c=jh x y
 |[],[],cs,h=>by simp[wk] at h;subst h;simp
 |[],b::bs,cs,h=>by simp[wk] at h
 |a::aa,[],cs,h=>by simp[wk] at h
 |a::aa,b::bs,cs,h=>by
  simp only[wk,av] at h;obtain⟨ds,hd,rfl⟩:=h;obtain⟨h1,h2,h3⟩:=NA aa bs ds hd;refine⟨by simp[h1],by simp[h2],fun i c hi=>?_⟩;cases i with
  |zero=>simp at hi;exact⟨a,b,rfl,rfl,hi.symm⟩
  |succ i=>simp at hi;simpa using h3 i c hi
theorem ai5 {j B:Nat}{x y:Ob}(h:cn C S ρ σ own hv w B j x):cn C S ρ σ own hv w B j (mW x y):=by
 cases x<;>cases y<;>simp only[mW]<;>first
  |trivial
  |(rename_i a b;cases Ty.beq a b;·trivial
    ·exact h)
  |skip
 ·rename_i ag aa bg bs;cases ag==bg
  ·trivial
  ·simp only[cond_true];split
   ·rename_i cs dA;obtain⟨l1,l2,oJ⟩:=NA aa bs cs dA;obtain⟨k,cells,T,ds,h1,h2,h3,h4,h5,h6,h7⟩:=h;refine⟨k,cells,T,ds,h1,h2,h3,by omega,h5,by omega,fun i s hi=>?_⟩;obtain⟨x,y,hx,hy,rfl⟩:=oJ i s hi;have:=WC (u:=y) (h7 i x hx).2;exact⟨this.2,this.1⟩
   ·trivial
 ·rename_i T e U f;cases Nat.beq T U&&Ty.beq e f
  ·trivial
  ·exact h
 ·rename_i T e U f;cases Ty.beq T U&&Ty.beq e f
  ·trivial
  ·exact h
 ·rename_i T e U f;cases Ty.beq T U&&Ty.beq e f
  ·trivial
  ·exact h
theorem ai6 {j B:Nat}{x y:Ob}(h:cn C S ρ σ own hv w B j y):cn C S ρ σ own hv w B j (mW x y):=by
 cases x<;>cases y<;>simp only[mW]<;>first
  |trivial
  |skip
 ·rename_i a b;cases hb:Ty.beq a b
  ·trivial
  ·rw[Ty.beq_eq _ _ hb];exact h
 ·rename_i a b;cases hb:Ty.beq a b
  ·trivial
  ·rw[Ty.beq_eq _ _ hb];exact h
 ·rename_i ag aa bg bs;cases ag==bg
  ·trivial
  ·simp only[cond_true];split
   ·rename_i cs dA;obtain⟨l1,l2,oJ⟩:=NA aa bs cs dA;obtain⟨k,cells,T,ds,h1,h2,h3,h4,h5,h6,h7⟩:=h;refine⟨k,cells,T,ds,h1,h2,h3,by omega,h5,by omega,fun i s hi=>?_⟩;obtain⟨x,y,hx,hy,rfl⟩:=oJ i s hi;have:=WD (s:=x) (h7 i y hy).2;exact⟨this.2,this.1⟩
   ·trivial
 ·rename_i T e U f;cases hb:(Nat.beq T U&&Ty.beq e f)
  ·trivial
  ·simp only[aj] at hb;rw[au hb.1,Ty.beq_eq _ _ hb.2];exact h
 ·rename_i T e U f;cases hb:(Ty.beq T U&&Ty.beq e f)
  ·trivial
  ·simp only[aj] at hb;rw[Ty.beq_eq _ _ hb.1,Ty.beq_eq _ _ hb.2];exact h
 ·rename_i T e U f;cases hb:(Ty.beq T U&&Ty.beq e f)
  ·trivial
  ·simp only[aj] at hb;rw[Ty.beq_eq _ _ hb.1,Ty.beq_eq _ _ hb.2];exact h
end
end Cx
namespace Cx
open Go Go.RowKit
section
variable {C:Ctx} {S T:St} {ρ ρ':Env} {σ:Im} {own:Nat→Option Nat} {hv:Nat→Value} {w0:World} {σ0:Base} {A:Nat→Prop} {a:Act} {w:World} {gs:List (Nat×Bool)} {Φ:aR} {dst:Nat}
theorem Inv.env (h:Inv C S ρ σ own hv w0 σ0 (fun _=>False) a w)(hn:∀t gs s,S.r t≠.opt gs s)(hr:∀t,isNone (S.r t)=false→ρ'.r t=ρ.r t)(ho:∀j,nJ (S.o j)=false→ρ'.o j=ρ.o j):
 Inv C S ρ' σ own hv w0 σ0 (fun _=>False) a w:=by
 refine h.weaken (fun t=>?_) (fun j=>?_) hn (fun j hj=>⟨hj,ho j (by rw[hj];rfl)⟩)
 ·cases hs:isNone (S.r t) with
  |true=>cases hc:S.r t<;>rw[hc] at hs<;>simp[isNone] at hs;trivial
  |false=>
   rw[hr t hs];exact aC.mono' (.refl σ) (.refl S hv) (hn t) (h.regs t)
 ·cases hs:nJ (S.o j) with
  |true=>cases hc:S.o j<;>rw[hc] at hs<;>simp[nJ] at hs;trivial
  |false=>exact(h.objs j).mono (.refl σ) (.refl S hv) rfl (ho j hs) (fun k hk=>⟨hk,rfl⟩)
end
end Cx
namespace Cx
open Go Go.RowKit
structure Snap where
 rs:List Sh
 os:List Ob
 deriving Inhabited
def dM:List Nat→List Ob→Nat→Ob
 |i::is,o::os,j=>bif Nat.beq i j then o else dM is os j
 |_,_,_=>.dead
def cH:Sh→Sh
 |.opt _ _=>.none
 |s=>s
def Snap.st (ids:List Nat)(s:Snap):St:=⟨fun t=>cH (s.rs.getD t .none),fun j=>dM ids s.os j,fun _=>0⟩
def St.snap (n:Nat)(ids:List Nat)(S:St):Snap:=⟨(List.range n).map fun t=>fg S (S.r t),ids.map fun j=>gV S (S.o j)⟩
def Snap.beq (a b:Snap):Bool:=wR a.rs b.rs&&zf a.os b.os
theorem Snap.beq_eq (a b:Snap)(h:a.beq b=true):a=b:=by
 cases a;cases b;simp only[Snap.beq,aj] at h;rw[PQ _ _ h.1,WR _ _ h.2]
def Snap.meet (a b:Snap):Snap:=⟨List.zipWith jh a.rs b.rs,List.zipWith mW a.os b.os⟩
theorem an7 (s:Sh):∀gs s',cH s≠.opt gs s':=by
 intro gs s' e;cases s<;>simp[cH] at e
theorem Snap.noOpt (ids:List Nat)(s:Snap):∀t gs s',(s.st ids).r t≠.opt gs s':=fun t=>an7 _
section
variable {C:Ctx} {S:St} {ρ:Env} {σ:Im} {own:Nat→Option Nat} {hv:Nat→Value} {w0:World} {σ0:Base} {A:Nat→Prop} {a:Act} {w:World} {n:Nat} {ids:List Nat}
theorem CW (f:Nat→Ob)(P:Ob→Prop)(hd:P .dead)(j:Nat)(hf:P (f j)):∀ids:List Nat,P (dM ids (ids.map f) j)
 |[]=>hd
 |i::is=>by
  simp only[gz,dM];cases hb:Nat.beq i j
  ·exact CW f P hd j hf is
  ·rw[au hb];exact hf
theorem Js {s:Sh}{v:Value}{d:D}(h:aC C S ρ σ hv s v d):aC C S ρ σ hv (cH s) v d:=by
 cases s<;>first|exact h|trivial
theorem Inv.snap (h:Inv C S ρ σ own hv w0 σ0 A a w)(n:Nat)(ids:List Nat):Inv C ((S.snap n ids).st ids) ρ σ own hv w0 σ0 (fun _=>False) a w:=by
 have h1:=h.norm;have hc:Compat S.norm hv ((S.snap n ids).st ids) hv:=⟨fun _=>aU _,fun _ _=>rfl⟩
 refine h1.weaken (fun t=>?_) (fun j=>?_) (Snap.noOpt _ _) (fun j hj=>⟨CW (fun j=>gV S (S.o j)) (fun ob=>ob=.tr→gV S (S.o j)=.tr) (fun e=>by cases e) j id ids hj,rfl⟩)
 ·refine aC.mono' (ρ:=ρ) (.refl σ) hc (Snap.noOpt _ _ t) ?_;show aC C S.norm ρ σ hv (cH (((List.range n).map fun t=>fg S (S.r t)).getD t .none)) _ _;refine Js ?_;rw[aF,cA];by_cases ht:t<n
  ·rw[pM ht];exact h1.regs t
  ·rw[qP (by simpa using ht)];trivial
 ·have ho:=(h1.objs j).mono (.refl σ) hc (w:=w) (w':=w) rfl rfl (fun k hk=>⟨hk,rfl⟩);exact CW (fun j=>gV S (S.o j)) (fun ob=>cn C _ ρ σ own hv w w0.heap.size j ob) trivial j ho ids
theorem Jx {f:Sh→Sh→Sh}:∀(x y:List Sh) (t:Nat),(List.zipWith f x y).getD t .none=.none∨∃s u,x.getD t .none=s∧y.getD t .none=u∧(List.zipWith f x y).getD t .none=f s u
 |[],_,t=>.inl (by simp)
 |_::_,[],t=>.inl (by simp)
 |a::aa,b::bs,0=>.inr ⟨a,b,rfl,rfl,rfl⟩
 |a::aa,b::bs,t+1=>by simpa using Jx (f:=f) aa bs t
theorem HE {f:Ob→Ob→Ob}:∀(ids:List Nat) (x y:List Ob) (j:Nat),dM ids (List.zipWith f x y) j=.dead∨dM ids (List.zipWith f x y) j=f (dM ids x j) (dM ids y j)
 |[],_,_,_=>.inl rfl
 |_::_,[],_,_=>.inl rfl
 |_::_,_::_,[],_=>.inl rfl
 |i::is,a::aa,b::bs,j=>by
  simp only[List.zipWith_cons_cons,dM];cases Nat.beq i j
  ·exact HE is aa bs j
  ·exact .inr rfl
theorem an5 {s u:Sh}{v:Value}{d:D}(h:aC C S ρ σ hv (cH s) v d):aC C S ρ σ hv (cH (jh s u)) v d:=by
 cases hs:s with
 |opt gs s'=>cases u<;>simp[jh,cH,aC]
 |_=>rw[hs] at h;exact Js (WC h).1
theorem an6 {s u:Sh}{v:Value}{d:D}(h:aC C S ρ σ hv (cH u) v d):aC C S ρ σ hv (cH (jh s u)) v d:=by
 cases hs:u with
 |opt gs s'=>cases s<;>simp[jh,cH,aC]
 |_=>rw[hs] at h;exact Js (WD h).1
theorem WE {x y:Snap}{j:Nat}(h:((x.meet y).st ids).o j=.tr):(x.st ids).o j=.tr∧(y.st ids).o j=.tr:=by
 change dM ids (List.zipWith mW x.os y.os) j=.tr at h;rcases HE (f:=mW) ids x.os y.os j with h0|h0
 ·rw[h0] at h;cases h
 ·rw[h0] at h;exact ai7 h
theorem Snap.meet_ok1 {x y:Snap}(h:Inv C (x.st ids) ρ σ own hv w0 σ0 A a w):Inv C ((x.meet y).st ids) ρ σ own hv w0 σ0 (fun _=>False) a w:=by
 have hc:Compat (x.st ids) hv ((x.meet y).st ids) hv:=⟨fun _=>aU _,fun _ _=>rfl⟩
 refine h.weaken (fun t=>?_) (fun j=>?_) (Snap.noOpt _ _) (fun j hj=>⟨(WE hj).1,rfl⟩)
 ·refine aC.mono' (ρ:=ρ) (.refl σ) hc (Snap.noOpt _ _ t) ?_;show aC C (x.st ids) ρ σ hv (cH ((List.zipWith jh x.rs y.rs).getD t .none)) _ _;rcases Jx (f:=jh) x.rs y.rs t with h0|⟨s,u,h1,h2,h3⟩
  ·rw[h0];trivial
  ·rw[h3];exact an5 (by rw[←h1];exact h.regs t)
 ·refine cn.mono (S:=x.st ids) (ρ:=ρ) (own:=own) (hv:=hv) (.refl σ) hc (w:=w) rfl rfl (fun k hk=>⟨hk,rfl⟩) ?_;show cn C _ ρ σ own hv w w0.heap.size j (dM ids (List.zipWith mW x.os y.os) j);rcases HE (f:=mW) ids x.os y.os j with h0|h0
  ·rw[h0];trivial
  ·rw[h0];exact ai5 (h.objs j)
theorem Snap.meet_ok2 {x y:Snap}(h:Inv C (y.st ids) ρ σ own hv w0 σ0 A a w):Inv C ((x.meet y).st ids) ρ σ own hv w0 σ0 (fun _=>False) a w:=by
 have hc:Compat (y.st ids) hv ((x.meet y).st ids) hv:=⟨fun _=>aU _,fun _ _=>rfl⟩
 refine h.weaken (fun t=>?_) (fun j=>?_) (Snap.noOpt _ _) (fun j hj=>⟨(WE hj).2,rfl⟩)
 ·refine aC.mono' (ρ:=ρ) (.refl σ) hc (Snap.noOpt _ _ t) ?_;show aC C (y.st ids) ρ σ hv (cH ((List.zipWith jh x.rs y.rs).getD t .none)) _ _;rcases Jx (f:=jh) x.rs y.rs t with h0|⟨s,u,h1,h2,h3⟩
  ·rw[h0];trivial
  ·rw[h3];exact an6 (by rw[←h2];exact h.regs t)
 ·refine cn.mono (S:=y.st ids) (ρ:=ρ) (own:=own) (hv:=hv) (.refl σ) hc (w:=w) rfl rfl (fun k hk=>⟨hk,rfl⟩) ?_;show cn C _ ρ σ own hv w w0.heap.size j (dM ids (List.zipWith mW x.os y.os) j);rcases HE (f:=mW) ids x.os y.os j with h0|h0
  ·rw[h0];trivial
  ·rw[h0];exact ai6 (h.objs j)
end
end Cx
namespace Cx
open Go Go.RowKit
def tN (C:Ctx)(S:St)(T:TypeId)(x:Operand):List Nat:=
 match eU S [] x,oU C.P T,C.P.info? T with
 |.ptr j _ off,some true,some inf=>(match S.o j with|.box _ shs=>AU ((shs.drop off).take inf.size)|_=>[])
 |_,_,_=>[]
def zX (C:Ctx)(S:St):ResultVar→Option (St×Ty×PE)
 |.tmp t=>(use C (S.fzs (bJ S [] [.tmp t])) [] (.tmp t)).map fun x=>(S.fzs (bJ S [] [.tmp t]),x.1,x.2)
 |.cell b T=>
  match rS C (S.fzs (tN C S T (.tmp b))) [] 0 T (.tmp b) with
  |some (.dat ty,[.setR 0 e])=>some (S.fzs (tN C S T (.tmp b)),ty,e)
  |some (.obj j ver,[.setR _ _])=>
   bif Nat.beq ver (((S.fzs (tN C S T (.tmp b))).fz j).ver j) then
    match((S.fzs (tN C S T (.tmp b))).fz j).o j with
    |.fz ty=>some ((S.fzs (tN C S T (.tmp b))).fz j,ty,.o j)
    |_=>none
   else none
  |_=>none
def sk (C:Ctx):List ResultVar→St→Option (St×List Ty×List PE)
 |[],S=>some (S,[],[])
 |x::xs,S=>(zX C S x).bind fun r=>(sk C xs r.1).map fun q=>(q.1,r.2.1::q.2.1,r.2.2::q.2.2)
def Zp (C:Ctx)(fn:Func)(S:St)(res:Ty):Option PE:=
 (sk C fn.results.toList S).bind fun r=>
    match r.2.1,r.2.2 with
    |[ty],[e]=>bif Ty.sub ty res then some e else none
    |fG,es=>bif Ty.sub (.tup fG) res then some (.tup es) else none
def Zr (C:Ctx)(fn:Func)(S:St)(T:TypeId)(e:Ty):Option PE:=
 match fn.results.toList with
 |[.tmp t]=>
  match j6 S [] t with
  |.obj j ver=>bif Nat.beq ver (S.ver j) then(match S.o j with|.row U f=>bif Nat.beq U T&&Ty.beq f e then some (.o j) else none|_=>none) else none
  |_=>none
 |[.cell b U]=>
  match rS C S [] 0 U (.tmp b) with
  |some (.obj j ver,[.setR _ _])=>bif Nat.beq ver (S.ver j) then(match S.o j with|.row U f=>bif Nat.beq U T&&Ty.beq f e then some (.o j) else none|_=>none) else none
  |_=>none
 |_=>none
def Hv (S:St):Nat→List Sh→Bool
 |_,[]=>true
 |t,s::l=>rV s&&((mS s||isNone s||Sh.beq (S.r t) s)&&Hv S (t+1) l)
def Nf (S:St)(shs:List Sh)(obs:List (Nat×Ob)):Bool:=Hv S 0 shs&&obs.all fun x=>Ob.beq (S.o x.1) x.2
def PB (fG:List Ty)(es:List PE)(res:Ty):Option PE:=
 match fG,es with
 |[ty],[e]=>bif Ty.sub ty res then some e else none
 |fG,es=>bif Ty.sub (.tup fG) res then some (.tup es) else none
def Zq (C:Ctx)(fn:Func)(S:St)(res:Ty)(shs:List Sh)(obs:List (Nat×Ob)):Option PE:=
 (sk C fn.results.toList S).bind fun r=>bif Nf r.1 shs obs then(PB r.2.1 r.2.2 res).map fun e=>.tup (e::obs.map fun x=>.o x.1) else none
def lz (S:St):List AgC→List RC→Bool
 |[],[]=>true
 |.dat t::a,.dat u::l=>Ty.sub t u&&t.one&&lz S a l
 |.obj j ver::a,.row T e::l=>Nat.beq ver (S.ver j)&&(match S.o j with|.row U f=>Nat.beq U T&&Ty.beq f e|_=>false)&&lz S a l
 |_,_=>false
def ni:List AgC→List Nat
 |[]=>[]
 |.dat _::l=>ni l
 |.obj j _::l=>j::ni l
def lK (x:PE):List AgC→Nat→List PE
 |[],_=>[]
 |.dat _::l,i=>.cell x i::lK x l (i+1)
 |.obj j _::l,i=>.o j::lK x l (i+1)
def Zt (C:Ctx)(fn:Func)(S:St)(l:List RC):Option PE:=
 match fn.results.toList with
 |[.tmp t]=>
  match j6 S [] t with
  |.agg a=>bif lz S a l&&gp (ni a) then some (.mk (lK (.r t) a 0)) else none
  |_=>none
 |[.cell b U]=>
  match rS C S [] 0 U (.tmp b) with
  |some (.agg a,[.setR t0 e])=>bif (lz S a l&&gp (ni a))&&Nat.beq t0 0 then some (.mk (lK e a 0)) else none
  |_=>none
 |_=>none
def qv:List AgC→Nat→Option Nat
 |[],_=>none
 |.dat _::l,j=>(qv l j).map (·+1)
 |.obj i _::l,j=>bif Nat.beq i j then some 0 else(qv l j).map (·+1)
def wO (C:Ctx)(fn:Func)(s:Sig)(S:St):Option PE:=
 match s.mode with
 |.ob shs obs=>Zq C fn S s.res shs obs
 |.dat=>Zp C fn S s.res
 |.rows l=>Zt C fn S l
 |.it J=>match fn.results.toList,S.o J with|[],.tr=>some (.o J)|_,_=>none
 |.row T e=>Zr C fn S T e
def IZ (P:Program)(tmps:Array Value)(w:World):ResultVar→Value→Prop
 |.tmp t,v=>v=tmps.getD t undef
 |.cell a T,v=>∃k,tmps.getD a undef=.pointer (some k)∧(loadVar T k).run P w=.ok v w
def I0 (P:Program)(tmps:Array Value)(w:World):List ResultVar→List Value→Prop
 |[],[]=>True
 |x::xs,v::vs=>IZ P tmps w x v∧I0 P tmps w xs vs
 |_,_=>False
def tT:List Value→Value
 |[v]=>v
 |vs=>.tuple vs.toArray
section
variable {C:Ctx} {S:St} {ρ:Env} {σ:Im} {own:Nat→Option Nat} {hv:Nat→Value} {w0:World} {σ0:Base} {A:Nat→Prop} {a:Act} {w:World} {gs:List (Nat×Bool)} {Φ:aR} {dst:Nat}
theorem Wn {P:Program}{tmps:Array Value}{w:World}(f:ResultVar→Sem Value)(UI:∀t,f (.tmp t)=pure (tmps.getD t undef))(UJ:∀b T,f (.cell b T)=(do loadVar T (←asAddr (tmps.getD b undef)))):
 ∀(l:List ResultVar) (vs:List Value),I0 P tmps w l vs→(l.mapM f).run P w=.ok vs w
 |[],[],_=>by simp[Sem.run_pure]
 |x::l,v::vs,h=>by
  obtain⟨hx,M9⟩:=h;have ih:=Wn f UI UJ l vs M9;rw[Sd];have h1:(f x).run P w=.ok v w:=by
   cases x with
   |tmp t=>rw[UI];simp only[IZ] at hx;subst hx;simp[Sem.run_pure]
   |cell b T=>
    obtain⟨k,h1,h2⟩:=hx;rw[UJ,h1];simp[asAddr,h2]
  simp[Sem.run_bind,h1,ih,Sem.run_pure,Result.andThen_ok]
theorem wN {P:Program}{fn:Func}{tmps:Array Value}{w:World}{vs:List Value}(h:I0 P tmps w fn.results.toList vs):
 (results fn tmps).run P w=.ok (tT vs) w:=by
 unfold results;rw[Array.mapM_eq_mapM_toList];simp only[Sem.run_bind];simp only[bind_map_left,map_eq_pure_bind,Sem.run_bind,bind_assoc,pure_bind];rw[Wn (tmps:=tmps) _ (fun t=>rfl) (fun b T=>rfl) _ _ h];simp only[Result.andThen_ok,Sem.run_pure];rcases vs with _|⟨v,_|⟨u,vs⟩⟩<;>simp[Sem.run_pure,tT]
theorem HA {o:Oper}{T:TypeId}{b:Nat}{v:Value}(ho:o.op=.load T (.tmp b))(hx:(execOp a.eval o).run C.P w=.ok (.value v) w):IZ C.P a.tmps w (.cell b T) v:=by
 have he:a.eval (.tmp b)=a.tmps.getD b undef:=by simp[Act.eval]
 simp only[execOp,ho,Instr.loadAt,he] at hx;cases hp:a.tmps.getD b undef with
 |pointer p=>
  cases p with
  |none=>rw[hp] at hx;simp[Instr.sureAddr] at hx
  |some k=>
   rw[hp] at hx;refine⟨k,hp,?_⟩;simp[Instr.sureAddr] at hx;cases hr:(loadVar T k).run C.P w with
   |ok u w'=>rw[hr] at hx;simp at hx;rw[hx.1,hx.2]
   |halt u w'=>rw[hr] at hx;simp at hx
 |_=>rw[hp] at hx;simp[Instr.sureAddr] at hx
theorem alu (h:Inv C S ρ σ own hv w0 σ0 A a w)(hC:CtxOK C σ0){x:ResultVar}{r:St×Ty×PE}(hr:zX C S x=some r):
 ∃σ' own' v,σ.le σ'∧Inv C r.1 ρ σ' own' hv w0 σ0 A a w∧IZ C.P a.tmps w x v∧Rep C.cap σ' r.2.1 v (r.2.2.ev ρ):=by
 cases x with
 |tmp t=>
  simp only[zX,av] at hr;obtain⟨y,hy,rfl⟩:=hr;obtain⟨σ1,dv,hle,h1⟩:=Inv.fzs (bJ S [] [.tmp t]) h;refine⟨σ1,dv,a.tmps.getD t undef,hle,h1,rfl,?_⟩;have:=cl (gs:=[]) h1 hC rfl hy;simpa [Act.eval] using this
 |cell b T=>
  simp only[zX] at hr;obtain⟨σ1,dv,hle,h1⟩:=Inv.fzs (tN C S T (.tmp b)) h;generalize Up:S.fzs (tN C S T (.tmp b))=S1 at hr h1
  let o:Oper:={(default:Oper) with op:=.load T (.tmp b)}
  split at hr
  ·rename_i ty e hl;cases hr;have hq:=C5 (Φ:=fun _ _=>none) (dst:=0) (gs:=[]) h1 hC rfl hl (o:=o) rfl;obtain⟨v,d,e1,e2,e3,e4⟩:=hq _ rfl;have hd:d=e.ev ρ:=by
        have:=congrArg (fun x:Env=>x.r 0) e1;simpa [Env.setR,aG] using this.symm
   subst hd;exact⟨σ1,dv,v,hle,h1,HA rfl e2,e3⟩
  ·rename_i j ver t0 e0 hl;have hq:=C5 (Φ:=fun _ _=>none) (dst:=0) (gs:=[]) h1 hC rfl hl (o:=o) rfl;obtain⟨v,d,e1,e2,e3,e4⟩:=hq _ rfl;cases hb:Nat.beq ver ((S1.fz j).ver j)<;>simp only[hb,cond_true,cond_false] at hr
   ·cases hr
   split at hr
   case h_2=>cases hr
   rename_i ty aY;cases hr;obtain⟨σ2,iz,jE,h2⟩:=h1.fz j;refine⟨σ2,iz,v,hle.trans jE,h2,HA rfl e2,?_⟩;have ho:=h2.objs j;rw[aY] at ho;have dC:ver=S1.ver j:=by rw[au hb,(Gi S1 j).1]
   rw[e3.2 dC];exact ho.2
  ·cases hr
theorem PA (hC:CtxOK C σ0):∀(l:List ResultVar) {S:St} {σ:Im} {own:Nat→Option Nat} {r:St×List Ty×List PE},Inv C S ρ σ own hv w0 σ0 A a w→sk C l S=some r→
 ∃σ' own' vs,σ.le σ'∧Inv C r.1 ρ σ' own' hv w0 σ0 A a w∧I0 C.P a.tmps w l vs∧vs.length=r.2.1.length∧r.2.2.length=r.2.1.length∧
  ∀(i:Nat) (t:Ty),r.2.1[i]?=some t→Rep C.cap σ' t (vs.getD i undef) ((PE.evs ρ r.2.2).getD i .none)
 |[],S,σ,own,r,h,hr=>by
  simp only[sk,aO] at hr;subst hr;exact⟨σ,own,[],.refl σ,h,trivial,rfl,rfl,fun i t e=>by simp at e⟩
 |x::l,S,σ,own,r,h,hr=>by
  simp only[sk,ao,av] at hr;obtain⟨r1,h1,q,h2,rfl⟩:=hr;obtain⟨σ1,dv,v,hle,i1,hx,bE⟩:=alu h hC h1;obtain⟨σ2,iz,vs,jE,i2,M9,jD,rD,mO⟩:=PA hC l i1 h2;refine⟨σ2,iz,v::vs,hle.trans jE,i2,⟨hx,M9⟩,by simp[jD],by simp[rD],fun i t e=>?_⟩;cases i with
  |zero=>simp at e;subst e;simpa [PE.evs] using bE.mono jE
  |succ i=>simp at e;simpa [PE.evs] using mO i t e
def EK (C:Ctx)(s:Sig)(σ:Im)(own:Nat→Option Nat)(w0 w:World)(tmps:Array Value)(d:D)(v:Value):Prop:=
 ∀shs obs,s.mode=.ob shs obs→∃hv dr os,d=.tup (dr::os)∧os.length=obs.length∧(∀k j,own k=some j→w0.heap.size≤k∧k<w.heap.size∧(∀o,σ.c k o=none)∧σ.m k=none)∧
  (∀(t:Nat) (sh:Sh),shs[t]?=some sh→mS sh=false→∀d,aC C (fN shs obs) (l9 obs [] os) σ hv sh (tmps.getD t undef) d)∧(∀j,cn C (fN shs obs) (l9 obs [] os) σ own hv w w0.heap.size j (eA obs j))∧Rep C.cap σ s.res v dr
theorem EK.no {C:Ctx}{s:Sig}{σ:Im}{own:Nat→Option Nat}{w0 w:World}{tmps:Array Value}{d:D}{v:Value}(h:oV s.mode=false):EK C s σ own w0 w tmps d v:=fun shs obs e=>by rw[e] at h;cases h
def JU (C:Ctx)(w0:World)(σ0:Base)(fn:Func)(s:Sig)(d:D)(a:Act)(w:World):Prop:=
 ∃v σ,(∃own t fx cx,FrOK σ own w0.heap.size σ0 w t fx cx∧(∀J,s.mode=.it J→d=t)∧EK C s σ own w0 w a.tmps d v)∧(results fn a.tmps).run C.P w=.ok v w∧σ0.le σ∧σ.ok w∧Below σ0.B w0 w∧
  (∀k o x,σ.c k o=some x→σ0.c k o=some x∨w0.heap.size≤k)∧(∀k x,σ.m k=some x→σ0.m k=some x∨w0.heap.size≤k)∧lJ C s σ w0 w v d
theorem Inv.fr (h:Inv C S ρ σ own hv w0 σ0 A a w){s:Sig}{d:D}{v:Value}(hm:∀J,s.mode≠.it J)(ho:oV s.mode=false):∃own t fx cx,FrOK σ own w0.heap.size σ0 w t fx cx∧(∀J,s.mode=.it J→d=t)∧EK C s σ own w0 w a.tmps d v:=by
 obtain⟨t,fx,cx,h1,_⟩:=h.frame;exact⟨own,t,fx,cx,h1,fun J e=>absurd e (hm J),.no ho⟩
theorem als {cap:Nat→Option CSig}{fG:List Ty}{es:List PE}{res:Ty}{pe:PE}{vs:List Value}(hr:PB fG es res=some pe)(jD:vs.length=fG.length)(rD:es.length=fG.length)
 (mO:∀(i:Nat) (t:Ty),fG[i]?=some t→Rep cap σ t (vs.getD i undef) ((PE.evs ρ es).getD i .none)):Rep cap σ res (tT vs) (pe.ev ρ):=by
 have many:fG.length≠1→(bif Ty.sub (.tup fG) res then some (PE.tup es) else none)=some pe→Rep cap σ res (tT vs) (pe.ev ρ):=by
  intro az hr;cases hb:Ty.sub (.tup fG) res<;>simp only[hb,cond_true,cond_false] at hr
  ·cases hr
  cases hr;have cj:tT vs=Value.tuple vs.toArray:=by
   match vs,jD with
   |[],_=>rfl
   |[v],hl=>exact absurd hl.symm az
   |_::_::_,_=>rfl
  rw[cj];exact Rep.sub (Rep.tup _ _ _ (by rw[jD]) (by rw[PE.evs_eq,fl,rD]) mO) hb
 match fG,es,vs,jD,rD,mO,many,hr with
 |[ty],[e],[v],_,_,mO,_,hr=>
  simp only[PB] at hr;cases hb:Ty.sub ty res<;>simp only[hb,cond_true,cond_false] at hr
  ·cases hr
  cases hr;have:=mO 0 ty rfl;exact Rep.sub (by simpa [PE.evs,tT] using this) hb
 |[],[],_,_,_,_,many,hr=>exact many (by simp) hr
 |_::_::_,_::_::_,_,_,_,_,many,hr=>exact many (by simp) hr
theorem VU:∀{l:List Sh} {k:Nat},Hv S k l=true→∀(t:Nat) (s:Sh),l[t]?=some s→mS s=false→rV s=true∧(s=.none∨S.r (k+t)=s)
 |[],k,_,t,s,h,_=>by simp at h
 |x::l,k,hk,t,s,h,hd=>by
  simp only[Hv,aj,gw] at hk;cases t with
  |zero=>
   simp at h;subst h;refine⟨hk.1,?_⟩;rcases hk.2.1 with(h1|h1)|h1
   ·rw[hd] at h1;cases h1
   ·left;cases x<;>first|rfl|cases h1
   ·exact .inr (Sh.beq_eq _ _ h1)
  |succ t=>
   simp at h;have:=VU hk.2.2 t s h hd
   rwa [sI,Ax 1 t] at this
theorem Wa:∀{obs:List (Nat×Ob)},(obs.all fun x=>Ob.beq (S.o x.1) x.2)=true→∀j,eA obs j=.dead∨(S.o j=eA obs j∧mV obs (obs.map fun x=>ρ.o x.1) j=ρ.o j)
 |[],_,j=>.inl rfl
 |x::obs,h,j=>by
  simp only[pK,aj] at h;simp only[eA,gz,mV];cases hb:Nat.beq x.1 j<;>simp only[cond_true,cond_false]
  ·exact Wa h.2 j
  ·rw[←au hb];exact .inr ⟨Ob.beq_eq _ _ h.1,rfl⟩
theorem an3 {ty:Ty}{fG:List Ty}{es:List PE}(h:∀ty e,fG=[ty]→es=[e]→False)(hl:es.length=fG.length):fG.length≠1:=by
 intro h1
 match fG,es with
 |[ty],[e]=>exact h ty e rfl rfl
 |[],_=>simp at h1
 |_::_::_,_=>simp at h1
 |[_],[]=>simp at hl
 |[_],_::_::_=>simp at hl
theorem Zs (h:Inv C S ρ σ own hv w0 σ0 A a w){T:TypeId}{e:Ty}{j ver:Nat}{v:Value}{d:D}(hc:aC C S ρ σ hv (.obj j ver) v d){pe:PE}
 (hr:(bif Nat.beq ver (S.ver j) then(match S.o j with|.row U f=>bif Nat.beq U T&&Ty.beq f e then some (PE.o j) else none|_=>none) else none)=some pe):
 ∃cells xs,pe.ev ρ=.list xs∧w.ownsRow w0.heap.size T e.size v xs.length cells∧eD C.cap σ e cells xs∧∀k,v.ownBlock=some k→(∀o,σ.c k o=none)∧σ.m k=none:=by
 cases hb:Nat.beq ver (S.ver j)<;>simp only[hb,cond_true,cond_false] at hr
 ·cases hr
 split at hr
 case h_2=>cases hr
 rename_i U f ho;cases bk:Nat.beq U T&&Ty.beq f e<;>simp only[bk,cond_true,cond_false] at hr
 ·cases hr
 cases hr;simp only[aj] at bk;have hU:=au bk.1;have hf:=Ty.beq_eq _ _ bk.2;subst hU hf;have hj:=h.objs j;rw[ho] at hj;obtain⟨cells,xs,h1,h2,h3,h4⟩:=hj;have hv':=hc.2 (au hb);subst hv';exact⟨cells,xs,h1,h2,h3,fun k hk=>(h.owns k j (h4 k hk)).2.2⟩
theorem Zo:∀(l:List ResultVar) {S:St} {r:St×List Ty×List PE},sk C l S=some r→r.1.ver=S.ver
 |[],S,r,h=>by simp only[sk,aO] at h;subst h;rfl
 |x::l,S,r,h=>by
  simp only[sk,ao,av] at h;obtain⟨r1,h1,q,h2,rfl⟩:=h;rw[Zo l h2];cases x with
  |tmp t=>
   simp only[zX,av] at h1;obtain⟨y,_,rfl⟩:=h1;exact(nu _ _).1
  |cell b T=>
   simp only[zX] at h1;split at h1
   ·cases h1;exact(nu _ _).1
   ·rename_i j ver t0 e0 _;cases hb:Nat.beq ver (((S.fzs (tN C S T (.tmp b))).fz j).ver j)<;>simp only[hb,cond_true,cond_false] at h1
    ·cases h1
    ·split at h1
     ·cases h1;rw[(Gi _ _).1];exact(nu _ _).1
     ·cases h1
   ·cases h1
theorem Ol:∀{a:List AgC} {i j ver:Nat},(ni a).Nodup→a[i]?=some (.obj j ver)→qv a j=some i
 |[],i,j,ver,_,h=>by simp at h
 |.dat t::a,i,j,ver,hn,h=>by
  cases i with
  |zero=>simp at h
  |succ i=>simp at h;simp only[qv];rw[Ol (a:=a) hn h];rfl
 |.obj k u::a,i,j,ver,hn,h=>by
  simp only[ni,mB] at hn;cases i with
  |zero=>simp at h;obtain⟨rfl,_⟩:=h;simp only[qv,gL];rfl
  |succ i=>
   simp at h;have hm:∀{a:List AgC} {i:Nat},a[i]?=some (.obj j ver)→j∈ni a:=by
        intro a
        induction a with
        |nil=>intro i h;simp at h
        |cons x a ih=>
         intro i h;cases i with
         |zero=>simp at h;subst h;simp[ni]
         |succ i=>simp at h;have:=ih h;cases x<;>simp[ni,this]
   have az:k≠j:=fun e=>hn.1 (e▸hm h);simp only[qv];rw[eX az,cond_false,Ol hn.2 h];rfl
theorem OQ (h:Inv C S ρ σ own hv w0 σ0 A a w){x0:PE}{vs:List Value}{ds:List D}(hd:x0.ev ρ=.agg ds)(ow:Nat→Option Nat):∀(a:List AgC) (l:List RC) (i:Nat),lz S a l=true→(∀(n:Nat) (c:AgC),a[n]?=some c→mz C S σ hv c (vs.getD (i+n) undef) (ds.getD (i+n) .none))→
 (∀(n j ver k:Nat),a[n]?=some (.obj j ver)→own k=some j→ow k=some (i+n))→
 a.length=l.length∧(PE.evc ρ (lK x0 a i)).length=l.length∧∀(n:Nat) (c:RC),l[n]?=some c→Sp C σ w0.heap.size w ow (i+n) c (vs.getD (i+n) undef) ((PE.evc ρ (lK x0 a i)).getD n .none)
 |[],[],i,_,_,_=>⟨rfl,rfl,fun n c hc=>by simp at hc⟩
 |[],_::_,i,hf,_,_=>by simp[lz] at hf
 |x::a,l,i,hf,GA,rE=>by
  have e:∀n,i+1+n=i+(n+1):=fun n=>by omega
  have BM:∀(n:Nat) (c:AgC),a[n]?=some c→mz C S σ hv c (vs.getD (i+1+n) undef) (ds.getD (i+1+n) .none):=fun n c hc=>by rw[e];exact GA (n+1) c (by simpa using hc)
  have Vd:∀(n j ver k:Nat),a[n]?=some (.obj j ver)→own k=some j→ow k=some (i+1+n):=fun n j ver k hc hk=>by rw[e];exact rE (n+1) j ver k (by simpa using hc) hk
  have h0:=GA 0 x rfl;rw[gK] at h0;cases x with
  |dat ty=>
   cases l with
   |nil=>simp[lz] at hf
   |cons y l=>
    cases y with
    |row T e=>simp[lz] at hf
    |dat u=>
     simp only[lz,aj] at hf;obtain⟨g1,g2,g3⟩:=OQ h hd ow a l (i+1) hf.2 BM Vd;have e1:PE.evc ρ (lK x0 (.dat ty::a) i)=ds.getD i .none::PE.evc ρ (lK x0 a (i+1)):=by
       simp only[lK,PE.evc,PE.ev,hd,D.c];have:=h0.2.dcells h0.1;simp only[D.cells] at this ⊢;rw[this];rfl
     rw[e1];refine⟨by simp[g1],by simp[g2],fun n c hc=>?_⟩;cases n with
     |zero=>simp at hc;subst hc;exact⟨by rw[←(Ty.sub_one _ _ hf.1.1).1];exact h0.1,h0.2.sub hf.1.1⟩
     |succ n=>simp at hc;have:=g3 n c hc;rw[e] at this;simpa using this
  |obj j ver=>
   cases l with
   |nil=>simp[lz] at hf
   |cons y l=>
    cases y with
    |dat u=>simp[lz] at hf
    |row T ty=>
     simp only[lz,aj] at hf;obtain⟨⟨f1,f2⟩,f3⟩:=hf;obtain⟨g1,g2,g3⟩:=OQ h hd ow a l (i+1) f3 BM Vd;have aV:=h.objs j;split at f2
     case h_2=>cases f2
     rename_i U f eo;rw[eo] at aV;simp only[aj] at f2;have q1:=au f2.1;have q2:=Ty.beq_eq _ _ f2.2;subst q1 q2;obtain⟨cells,xs,k1,k2,k3,k4⟩:=aV;have rG:=h0.2 (au f1);have e1:PE.evc ρ (lK x0 (.obj j ver::a) i)=.list xs::PE.evc ρ (lK x0 a (i+1)):=by
         simp only[lK,PE.evc,PE.ev,k1,D.cells];rfl
     rw[e1];refine⟨by simp[g1],by simp[g2],fun n c hc=>?_⟩;cases n with
     |zero=>
      simp at hc;subst hc;rw[gK,rG];exact⟨cells,xs,rfl,k2,k3,fun k hk=>by have:=rE 0 j ver k rfl (k4 k hk);rwa [gK] at this⟩
     |succ n=>simp at hc;have:=g3 n c hc;rw[e] at this;simpa using this
theorem alv (h:Inv C S ρ σ own hv w0 σ0 A a w)(hC:CtxOK C σ0)(dC:∀j,S.ver j=0){fn:Func}{s:Sig}{pe:PE}(hr:wO C fn s S=some pe):JU C w0 σ0 fn s (pe.ev ρ) a w:=by
 unfold wO at hr;split at hr
 ·rename_i shs obs hm;simp only[Zq,ao] at hr;obtain⟨r,aD,hr⟩:=hr;obtain⟨σ1,dv,vs,hle,h1,vR,jD,rD,mO⟩:=PA hC _ h aD;cases hb:Nf r.1 shs obs<;>simp only[hb,cond_true,cond_false] at hr
  ·cases hr
  simp only[av] at hr;obtain⟨e,he,rfl⟩:=hr;simp only[Nf,aj] at hb;have bE:=als he jD rD mO;obtain⟨t,fx,cx,hf,_⟩:=h1.frame;have qe:Compat r.1 hv (fN shs obs) hv:=⟨fun j=>by rw[Zo _ aD,dC];exact nf _,fun _ _=>rfl⟩
  have My:(PE.evs ρ (e::obs.map fun x=>.o x.1))=e.ev ρ::obs.map (fun x=>ρ.o x.1):=by simp[PE.evs_eq,Ez,PE.ev]
  refine⟨_,σ1,⟨dv,t,fx,cx,hf,(fun J e=>by rw[hm] at e;cases e),fun PO atO e'=>?_⟩,wN vR,h1.le,h1.ok,h1.below,h1.newc,h1.newm,by unfold lJ;rw[hm];trivial⟩;rw[hm] at e';cases e';refine⟨hv,e.ev ρ,obs.map fun x=>ρ.o x.1,by simp only[PE.ev];rw[My],by simp,h1.owns,fun t sh hs hd d=>?_,fun j=>?_,bE⟩
  ·obtain⟨fy,e1⟩:=VU hb.1 t sh hs hd;rcases e1 with e1|e1
   ·subst e1;trivial
   ·rw[eW] at e1;have:=h1.regs t;rw[e1] at this;have eI:∀gs s',sh≠.opt gs s':=fun gs s' e=>by subst e;cases fy
    have:=aC.mono' (S':=fN shs obs) (ρ':=l9 obs [] (obs.map fun x=>ρ.o x.1)) (.refl σ1) qe eI this;cases sh with
    |dat t=>cases hd
    |opt gs s=>cases fy
    |eptr j v o q=>cases fy
    |agg l=>cases fy
    |_=>exact this
  ·rcases Wa (ρ:=ρ) hb.2 j with e1|⟨e1,e2⟩
   ·rw[e1];trivial
   ·rw[←e1];exact(h1.objs j).mono (.refl σ1) qe rfl e2 (fun k hk=>⟨hk,rfl⟩)
 ·rename_i hm;simp only[Zp,ao] at hr;obtain⟨r,aD,hr⟩:=hr;obtain⟨σ1,dv,vs,hle,h1,vR,jD,rD,mO⟩:=PA hC _ h aD;refine⟨_,σ1,h1.fr (fun J e=>by rw[hm] at e;cases e) (by rw[hm];rfl),wN vR,h.le.trans hle,h1.ok,h1.below,h1.newc,h1.newm,?_⟩;unfold lJ;rw[hm];simp only;split at hr
  ·rename_i ty e e1 e2;rw[e1] at jD mO;rw[e2] at mO;cases hb:Ty.sub ty s.res<;>simp only[hb,cond_true,cond_false] at hr
   ·cases hr
   cases hr;obtain⟨v,rfl⟩:∃v,vs=[v]:=by
        match vs,jD with
        |[v],_=>exact⟨v,rfl⟩
   have:=mO 0 ty rfl;exact Rep.sub (by simpa [PE.evs,tT] using this) hb
  ·rename_i az;cases hb:Ty.sub (.tup r.2.1) s.res<;>simp only[hb,cond_true,cond_false] at hr
   ·cases hr
   cases hr;have U8:=an3 (ty:=.bool) az rD;have cj:tT vs=Value.tuple vs.toArray:=by
        match vs,jD with
        |[],_=>rfl
        |[v],hl=>rw[←hl] at U8;exact absurd rfl U8
        |_::_::_,_=>rfl
   rw[cj];refine Rep.sub (Rep.tup _ _ _ (by rw[jD]) (by rw[PE.evs_eq,fl,rD]) mO) hb
 ·rename_i l hm;have key:∃(v:Value) (x0:PE) (vs:List Value) (ds:List D) (ag:List AgC),(results fn a.tmps).run C.P w=.ok v w∧pe=.mk (lK x0 ag 0)∧x0.ev ρ=.agg ds∧v=.agg vs.toArray∧lz S ag l=true∧gp (ni ag)=true∧
        vs.length=ag.length∧ds.length=ag.length∧∀(i:Nat) (c:AgC),ag[i]?=some c→mz C S σ hv c (vs.getD i undef) (ds.getD i .none):=by
   unfold Zt at hr;split at hr
   ·rename_i t eJ;split at hr
    case h_2=>cases hr
    rename_i ag eu;cases hb:(lz S ag l&&gp (ni ag))<;>simp only[hb,cond_true,cond_false] at hr
    ·cases hr
    cases hr;simp only[aj] at hb;have fU:=(ml (gs:=[]) h rfl t).1;rw[eu] at fU;obtain⟨vs,ds,e1,e2,e3,e4,e5⟩:=fU;exact⟨_,.r t,vs,ds,ag,wN (vs:=[a.tmps.getD t undef]) (by rw[eJ];exact⟨rfl,trivial⟩),rfl,e2,e1,hb.1,hb.2,e3,e4,e5⟩
   ·rename_i b U eJ;split at hr
    case h_2=>cases hr
    rename_i ag t0 x0 hl;cases hb:((lz S ag l&&gp (ni ag))&&Nat.beq t0 0)<;>simp only[hb,cond_true,cond_false] at hr
    ·cases hr
    cases hr;simp only[aj] at hb;obtain⟨hb,MV⟩:=hb;obtain rfl:=au MV;have hq:=C5 (Φ:=fun _ _=>none) (dst:=0) (gs:=[]) h hC rfl hl (o:={(default:Oper) with op:=.load U (.tmp b)}) rfl;obtain⟨v,d,q1,q2,q3,_⟩:=hq _ rfl;obtain⟨vs,ds,e1,e2,e3,e4,e5⟩:=q3;have hd:x0.ev ρ=d:=by
     have:=congrArg (fun e:Env=>e.r 0) q1;simpa [Env.setR,bO] using this
    exact⟨_,x0,vs,ds,ag,wN (vs:=[v]) (by rw[eJ];exact⟨HA rfl q2,trivial⟩),rfl,by rw[hd,e2],e1,hb.1,hb.2,e3,e4,e5⟩
   ·cases hr
  obtain⟨v,x0,vs,ds,ag,af,rfl,e2,e1,b1,b2,e3,e4,e5⟩:=key
  obtain⟨g1,g2,g3⟩:=OQ h (x0:=x0) (vs:=vs) (ds:=ds) e2 (fun k=>(own k).bind (qv ag)) ag l 0 b1 (fun n c hc=>by rw[eW];exact e5 n c hc) (fun n j ver k hc hk=>by
   show(own k).bind (qv ag)=some (0+n);rw[hk,jQ,Ol (l8 b2) hc,eW])
  simp only[eW] at g3;refine⟨_,σ,h.fr (fun J e=>by rw[hm] at e;cases e) (by rw[hm];rfl),af,h.le,h.ok,h.below,h.newc,h.newm,?_⟩;unfold lJ;rw[hm];refine⟨vs,PE.evc ρ (lK x0 ag 0),fun k=>(own k).bind (qv ag),e1,by simp only[PE.ev],by omega,g2,g3,fun k i hk=>?_⟩;cases ho:own k with
  |none=>
   have hk:(own k).bind (qv ag)=some i:=hk;rw[ho] at hk;cases hk
  |some j=>exact h.owns k j ho
 ·rename_i J hm;split at hr
  case h_2=>cases hr
  rename_i eJ hJ;cases hr;obtain⟨t,fx,cx,h1,h2⟩:=h.frame;refine⟨_,σ,⟨own,t,fx,cx,h1,fun J' e=>?_,.no (by rw[hm];rfl)⟩,wN (vs:=[]) (by rw[eJ];trivial),h.le,h.ok,h.below,h.newc,h.newm,by unfold lJ;rw[hm];trivial⟩;exact(h2 J hJ).2
 ·rename_i T e hm;have key:∃v,(results fn a.tmps).run C.P w=.ok v w∧∃cells xs,pe.ev ρ=.list xs∧w.ownsRow w0.heap.size T e.size v xs.length cells∧eD C.cap σ e cells xs∧∀k,v.ownBlock=some k→(∀o,σ.c k o=none)∧σ.m k=none:=by
   unfold Zr at hr;split at hr
   ·rename_i t ht;split at hr
    case h_2=>cases hr
    rename_i j ver hs;have hc:=(ml (gs:=[]) h rfl t).1;rw[hs] at hc;exact⟨_,wN (vs:=[a.tmps.getD t undef]) (by rw[ht];exact⟨rfl,trivial⟩),Zs h hc hr⟩
   ·rename_i b U hb;split at hr
    case h_2=>cases hr
    rename_i j ver t0 e0 hl;have hq:=C5 (Φ:=fun _ _=>none) (dst:=0) (gs:=[]) h hC rfl hl (o:={(default:Oper) with op:=.load U (.tmp b)}) rfl;obtain⟨v,d,e1,e2,e3,e4⟩:=hq _ rfl;exact⟨_,wN (vs:=[v]) (by rw[hb];exact⟨HA rfl e2,trivial⟩),Zs h e3 hr⟩
   ·cases hr
  obtain⟨v,h1,h2⟩:=key;refine⟨v,σ,h.fr (fun J e=>by rw[hm] at e;cases e) (by rw[hm];rfl),h1,h.le,h.ok,h.below,h.newc,h.newm,?_⟩;unfold lJ;rw[hm];exact h2
theorem kc.drop {σ:Im}{B D:Nat}:∀{ds:List Deferred},({target:=.collected D,args:=#[]}:Deferred)∉ds→kc σ B ds→kc (σ.drop D) B ds
 |[],_,_=>trivial
 |x::ds,hn,⟨⟨D',h1,h2,h3⟩,h⟩=>by
  simp only[df,not_or] at hn;refine⟨⟨D',h1,?_,h3⟩,kc.drop hn.2 h⟩;have:D'≠D:=fun e=>hn.1 (by rw[h1,e]);simp[Im.drop,this,h2]
theorem Inv.shut (h:Inv C S ρ σ own hv w0 σ0 A a w)(jV:σ0.fin){x:Deferred}{ds:List Deferred}(hd:a.defers=x::ds):
 ∃D,x.target=.collected D∧w.heap[D]?=some (.deferred (some []))∧Inv C S ρ (σ.drop D) own hv w0 σ0 A {a with defers:=ds} (w.putObj D (.deferred none)):=by
 have ny:=h.defers;rw[hd] at ny;obtain⟨⟨D,rfl,hm,hB,Mo⟩,vB⟩:=ny;have hD:w.heap[D]?=some (.deferred (some [])):=by
  rcases h.ok.m D _ hm with⟨h1,_⟩|⟨_,h2⟩
  ·exact absurd rfl h1
  ·exact h2
 have jb:∀k,k≠D→(w.putObj D (.deferred none)).heap[k]?=w.heap[k]?:=fun k hk=>World.putObj_heap_other hk;have aW:∀k j,own k=some j→k≠D:=fun k j hk e=>by subst e;rw[(h.owns k j hk).2.2.2] at hm;cases hm
 have hR:Im.leR C.cap σ (σ.drop D):=⟨fun r=>r.drop hm,fun _ _ _ e=>e⟩
 have BV:∀k x,(σ.drop D).m k=some x→k≠D∧σ.m k=some x:=by
  intro k x hx;simp only[Im.drop] at hx;split at hx
  ·cases hx
  ·rename_i az;exact⟨az,hx⟩
 refine⟨D,rfl,hD,vB.drop Mo,⟨fun k o v hc=>?_,fun k es hc=>?_⟩,⟨h.le.c,fun k es hc=>?_⟩,h.old,h.newc,fun k es hc=>h.newm k es (BV k es hc).2,h.below.trans ⟨rfl,rfl,rfl,by simp,fun k hk=>jb k (by have:=h.bw;omega)⟩,h.bw,fun k j hk=>?_,fun t=>?_,fun j=>?_,h.opts,?_⟩
 ·have h1:=h.ok.c k o v hc;have az:k≠D:=fun e=>by subst e;simp[World.cell?,hD] at h1
  rw[World.cell?_of_block (jb k az)];exact h1
 ·exact(h.ok.m k es (BV k es hc).2).keep (jb k (BV k es hc).1)
 ·have az:k≠D:=fun e=>by
   subst e;have:=h.le.m _ _ hc;rw[hm] at this;cases this;have:=h.old jV _ hc;omega
  simp[Im.drop,az,h.le.m k es hc]
 ·obtain⟨g1,g2,g3,g4⟩:=h.owns k j hk;exact⟨g1,by simpa using g2,g3,by simp only[Im.drop];split<;>first|rfl|exact g4⟩
 ·exact aC.monoR hR (.refl S hv) (fun _ _ _=>rfl) (fun gs s e=>(h.opts t gs s e).2) (h.regs t)
 ·exact(h.objs j).monoR hR (.refl S hv) rfl rfl (fun k hk=>⟨hk,jb k (aW k j hk)⟩)
 ·obtain⟨t,fx,cx,hf,ht⟩:=h.frame;exact⟨t,fx,cx,⟨σ0.keep _ _ _ _ _ hf.F ⟨rfl,rfl,rfl,by simp,fun k hk=>by omega⟩ (fun k hk=>jb k fun e=>by subst e;exact hf.d k hm hB hk),hf.own,hf.c,fun k x hx=>hf.m k x (BV k x hx).2,fun k hx=>hf.d k (BV k _ hx).2⟩,ht⟩
def qV (C:Ctx)(w0:World)(σ0:Base)(fn:Func)(s:Sig)(d:D)(tmps:Array Value):List Deferred→World→Prop
 |[],w=>JU C w0 σ0 fn s d {tmps:=tmps,defers:=[]} w
 |x::ds,w=>∃D,x.target=.collected D∧w.heap[D]?=some (.deferred (some []))∧qV C w0 σ0 fn s d tmps ds (w.putObj D (.deferred none))
theorem Inv.retD (hC:CtxOK C σ0)(dC:∀j,S.ver j=0)(jV:σ0.fin){fn:Func}{s:Sig}{pe:PE}(hr:wO C fn s S=some pe):∀(ds:List Deferred) {σ:Im} {a:Act} {w:World},Inv C S ρ σ own hv w0 σ0 A a w→a.defers=ds→qV C w0 σ0 fn s (pe.ev ρ) a.tmps ds w
 |[],σ,a,w,h,hd=>by
  have e:a={tmps:=a.tmps,defers:=[]}:=by cases a;simp only at hd;subst hd;rfl
  rw[e] at h;exact alv h hC dC hr
 |x::ds,σ,a,w,h,hd=>by
  obtain⟨D,h1,h2,h3⟩:=h.shut jV hd;exact⟨D,h1,h2,Inv.retD hC dC jV hr ds (a:={a with defers:=ds}) h3 rfl⟩
end
end Cx
namespace Cx
open Go Go.RowKit
def w8 (C:Ctx)(f:Nat)(F4 ys:List Ty)(ds xs:List D):Prop:=
 ∀(σ:Im) (w:World) (yv:Value) (vs:List Value) (F:D→(Nat→Prop)→(Nat→Prop)→World→Prop) (fx cx:Nat→Prop) (m:Nat),σ.ok w→CtxOK C σ→pI C σ F4 vs ds→m≤xs.length→
  (∀t fx cx w,F t fx cx w→∀k,fx k→k<w.heap.size)→(∀t fx cx w,F t fx cx w→∀k,cx k→fx k)→
  (∀t fx cx w w',F t fx cx w→Below 0 w w'→(∀k,fx k→w'.heap[k]?=w.heap[k]?)→F t fx cx w')→
  F (.list []) fx cx w→(∀k o x,σ.c k o=some x→¬cx k)→(∀k x,σ.m k=some x→¬cx k)→
  (∀(i:Nat) (fx cx:Nat→Prop) (w1:World) (σ1:Im) (args:List Value) (ds':List D),i≤m→xs[i]?=some (.tup ds')→F (.list (xs.take i)) fx cx w1→σ1.ok w1→pI C σ1 ys args ds'→
    (∀k o x,σ1.c k o=some x→¬cx k)→(∀k x,σ1.m k=some x→¬cx k)→
    (∀k o x,σ1.c k o=some x→σ.c k o=some x∨w.heap.size≤k)→(∀k x,σ1.m k=some x→σ.m k=some x∨w.heap.size≤k)→
    Sy C.P yv args w1 fun u w2=>u=.bool (decide (i<m))∧Below 0 w1 w2∧(∀k,k<w1.heap.size→¬cx k→w2.heap[k]?=w1.heap[k]?)∧
     ∃oB kQ,F (.list (xs.take (i+1))) oB kQ w2∧(∀k,oB k→k<w1.heap.size→fx k∨(∃o x,σ1.c k o=some x)∨(∃x,σ1.m k=some x∧x≠cP))∧(∀k,kQ k→k<w1.heap.size→cx k))→
  Calls C.P f (#[yv]++vs.toArray) w fun e w'=>(∃v,e=.returned v)∧∃fx cx,F (.list (xs.take (m+1))) fx cx w'
def jM (C:Ctx)(Φ:aR):Prop:=∀f cs ys,C.cap f=some cs→l0 cs.args cs.res=some ys→(∃fn,C.P.funcs[f]?=some fn∧fn.body.isSome=true∧(fn.name== "runtime.NumGoroutine")=false)∧
 ∀ds d,Φ f ds=some d→∃xs,d=.list xs∧(∀x,x∈xs→∃ds',x=.tup ds'∧ds'.length=ys.length)∧w8 C f cs.caps ys ds xs
section
variable {C:Ctx} {S:St} {ρ:Env} {σ:Im} {own:Nat→Option Nat} {hv:Nat→Value} {w0:World} {σ0:Base} {A:Nat→Prop} {a:Act} {w:World}
theorem Inv.mono_regs (h:Inv C S ρ σ own hv w0 σ0 A a w){τ:Im}(hle:σ.le τ)(t:Nat):aC C S ρ τ hv (S.r t) (a.tmps.getD t undef) (ρ.r t):=
 aC.mono hle (.refl S hv) (fun _ _ _=>rfl) (fun gs s e=>(h.opts t gs s e).2) (h.regs t)
theorem Inv.joinIm (h:Inv C S ρ σ own hv w0 σ0 A a w){τ:Im}(hτ:τ.ok w)(hd:∀k,τ.m k≠some cP)(hoc:∀k o v,τ.c k o=some v→own k=none)(hom:∀k v,τ.m k=some v→own k=none)
 (cX:∀k o v,τ.c k o=some v→σ.c k o=some v∨w0.heap.size≤k) (cY:∀k v,τ.m k=some v→σ.m k=some v∨w0.heap.size≤k)
 (cW:∀t fx cx,FrOK σ own w0.heap.size σ0 w t fx cx→(∀k o v,τ.c k o=some v→¬cx k)∧∀k v,τ.m k=some v→¬cx k):Inv C S ρ (σ.plus τ) own hv w0 σ0 A a w where
 defers:=h.defers.mono (Im.plus_le1 σ τ)
 ok:=Im.plus_ok h.ok hτ
 le:=h.le.trans (Im.plus_le1 σ τ)
 old:=h.old
 newc:=fun k o x e=>(Im.plus_c e).elim (h.newc k o x) fun e=>(cX k o x e).elim (h.newc k o x) .inr
 newm:=fun k x e=>(Im.plus_m e).elim (h.newm k x) fun e=>(cY k x e).elim (h.newm k x) .inr
 below:=h.below
 bw:=h.bw
 owns:=fun k j hk=>by
  obtain⟨g1,g2,g3,g4⟩:=h.owns k j hk;refine⟨g1,g2,fun o=>?_,?_⟩
  ·cases e:(σ.plus τ).c k o with
   |none=>rfl
   |some x=>
    rcases Im.plus_c e with e|e
    ·rw[g3 o] at e;cases e
    ·rw[hoc k o x e] at hk;cases hk
  ·cases e:(σ.plus τ).m k with
   |none=>rfl
   |some x=>
    rcases Im.plus_m e with e|e
    ·rw[g4] at e;cases e
    ·rw[hom k x e] at hk;cases hk
 regs:=h.mono_regs (Im.plus_le1 σ τ)
 objs:=fun j=>(h.objs j).mono (Im.plus_le1 σ τ) (.refl S hv) rfl rfl fun k hk=>⟨hk,rfl⟩
 opts:=h.opts
 frame:=by
  obtain⟨t,fx,cx,hf,ht⟩:=h.frame;obtain⟨h1,h2⟩:=cW t fx cx hf;exact⟨t,fx,cx,⟨hf.F,hf.own,fun k o x e=>(Im.plus_c e).elim (hf.c k o x) (h1 k o x),fun k x e=>(Im.plus_m e).elim (hf.m k x) (h2 k x),fun k e=>(Im.plus_m e).elim (hf.d k) fun e=>absurd e (hd k)⟩,ht⟩
theorem Inv.keep (h:Inv C S ρ σ own hv w0 σ0 A a w){w':World}{X:Nat→Prop}(hb:Below 0 w w')(hX:∀k,X k→w'.heap[k]?=w.heap[k]?)(h0:∀k,k<w0.heap.size→X k)(ho:∀k j,own k=some j→X k)(hc:∀k o v,σ.c k o=some v→X k)(hm:∀k v,σ.m k=some v→X k)
 (cW:∀t fx cx,FrOK σ own w0.heap.size σ0 w t fx cx→∀k,fx k→X k):Inv C S ρ σ own hv w0 σ0 A a w' where
 defers:=h.defers
 ok:=⟨fun k o v e=>by rw[World.cell?_of_block (hX k (hc k o v e))];exact h.ok.c k o v e,fun k v e=>(h.ok.m k v e).keep (hX k (hm k v e))⟩
 le:=h.le
 old:=h.old
 newc:=h.newc
 newm:=h.newm
 below:=h.below.trans ⟨hb.os,hb.tape,hb.output,hb.size,fun k hk=>hX k (h0 k (uW hk h.bw))⟩
 bw:=h.bw
 owns:=fun k j hk=>let⟨g1,g2,g3⟩:=h.owns k j hk;⟨g1,uW g2 hb.size,g3⟩
 regs:=h.regs
 objs:=fun j=>(h.objs j).mono (.refl σ) (.refl S hv) rfl rfl fun k hk=>⟨hk,hX k (ho k j hk)⟩
 opts:=h.opts
 frame:=by
  obtain⟨t,fx,cx,hf,ht⟩:=h.frame;exact⟨t,fx,cx,⟨σ0.keep _ _ _ _ _ hf.F hb fun k hk=>hX k (cW t fx cx hf k hk),hf.own,hf.c,hf.m,hf.d⟩,ht⟩
end
def Base.rnd (σ0:Base)(σ:Im)(own:Nat→Option Nat)(w:World)(t:D)(X:Nat→Prop):Base:=
 {σ with
  B:=σ0.B
  fin:=False
  F:=fun t' fx cx w'=>t'=t∧(∀k,fx k↔(k<w.heap.size∧own k=none∧σ.m k≠some cP∧¬X k))∧(∀k,cx k↔(fx k∧(∀o,σ.c k o=none)∧σ.m k=none))∧w.heap.size≤w'.heap.size∧∀k,fx k→w'.heap[k]?=w.heap[k]?
  lt:=fun t' fx cx w' h k hk=>uW ((h.2.1 k).1 hk).1 h.2.2.2.1
  sub:=fun t' fx cx w' h k hk=>((h.2.2.1 k).1 hk).1
  keep:=fun t' fx cx w' j9 h hb hs=>⟨h.1,h.2.1,h.2.2.1,cC h.2.2.2.1 hb.size,fun k hk=>(hs k hk).trans (h.2.2.2.2 k hk)⟩}
section
variable {C:Ctx} {S S':St} {ρ ρ':Env} {σ σ':Im} {own own':Nat→Option Nat} {hv hv':Nat→Value} {w0:World} {σ0:Base} {A A':Nat→Prop} {a a':Act} {w w':World} {X:Nat→Prop}
theorem Inv.toRnd (h:Inv C S ρ σ own hv w0 σ0 A a w){t:D}(ht:∀j,S.o j=.tr→(∃ys,C.yl=some (j,ys))∧ρ.o j=t):Inv C S ρ σ own hv w0 (σ0.rnd σ own w t X) A a w:=by
 refine⟨h.defers,h.ok,.refl σ,(fun hf=>hf.elim),(fun _ _ _ e=>.inl e),(fun _ _ e=>.inl e),h.below,h.bw,h.owns,h.regs,h.objs,h.opts,t,fun k=>k<w.heap.size∧own k=none∧σ.m k≠some cP∧¬X k,fun k=>(k<w.heap.size∧own k=none∧σ.m k≠some cP∧¬X k)∧(∀o,σ.c k o=none)∧σ.m k=none,
  ⟨⟨rfl,fun _=>.rfl,fun _=>.rfl,aU _,fun _ _=>rfl⟩,fun k j hk hf=>?_,fun k o x e hc=>?_,fun k x e hc=>?_,fun k e _ hf=>hf.2.2.1 e⟩,ht⟩
 ·have:=hf.2.1;rw[hk] at this;cases this
 ·have:=hc.2.1 o;rw[e] at this;cases this
 ·have:=hc.2.2;rw[e] at this;cases this
theorem Inv.markSame {w1:World}(h:σ.ok w1)(h':σ'.ok w')(hle:σ.le σ'){k:Nat}(hk:σ.m k=some cP):w'.heap[k]?=w1.heap[k]?:=by
 have e1:w1.heap[k]?=some (.deferred (some [])):=by
  rcases h.m k _ hk with⟨h1,_⟩|⟨_,h2⟩
  ·exact absurd rfl h1
  ·exact h2
 have e2:w'.heap[k]?=some (.deferred (some [])):=by
  rcases h'.m k _ (hle.m k _ hk) with⟨h1,_⟩|⟨_,h2⟩
  ·exact absurd rfl h1
  ·exact h2
 rw[e1,e2]
theorem Inv.rndSame {w1:World}{t:D}(ax:σ.ok w1)(h':Inv C S' ρ' σ' own' hv' w0 (σ0.rnd σ own w1 t X) A' a' w'){k:Nat}(hk:k<w1.heap.size)(ho:own k=none)(hX:¬X k):w'.heap[k]?=w1.heap[k]?:=by
 by_cases hd:σ.m k=some cP
 ·exact Inv.markSame ax h'.ok h'.le hd
 ·obtain⟨t',fx,cx,hf,_⟩:=h'.frame;obtain⟨_,f2,_,_,f5⟩:=hf.F;exact f5 k ((f2 k).2 ⟨hk,ho,hd,hX⟩)
theorem Inv.rndBelow {w1:World}{t:D}(h:Inv C S ρ σ own hv w0 σ0 A a w1)(h':Inv C S' ρ' σ' own' hv' w0 (σ0.rnd σ own w1 t X) A' a' w'):Below 0 w1 w':=by
 obtain⟨t',fx,cx,hf,_⟩:=h'.frame;obtain⟨_,_,_,f4,_⟩:=hf.F;exact⟨h'.below.os.trans h.below.os.symm,h'.below.tape.trans h.below.tape.symm,h'.below.output.trans h.below.output.symm,f4,fun k hk=>by omega⟩
theorem Inv.rndOwn {w1:World}{t:D}(h':Inv C S' ρ' σ' own' hv' w0 (σ0.rnd σ own w1 t X) A' a' w'){k j:Nat}(hk:own' k=some j)(hX:¬X k):(∃i,own k=some i)∨w1.heap.size≤k:=by
 obtain⟨t',fx,cx,hf,_⟩:=h'.frame;obtain⟨_,f2,_,_,_⟩:=hf.F;cases e:own k with
 |some i=>exact .inl ⟨i,rfl⟩
 |none=>
  refine .inr (Nat.le_of_not_lt fun ae=>?_);by_cases hd:σ.m k=some cP
  ·have:=(h'.owns k j hk).2.2.2;rw[h'.le.m k _ hd] at this;cases this
  ·exact hf.own k j hk ((f2 k).2 ⟨ae,e,hd,hX⟩)
theorem Inv.rndC {w1:World}{t:D}(h':Inv C S' ρ' σ' own' hv' w0 (σ0.rnd σ own w1 t X) A' a' w'){k:Nat}(hk:(∃o x,σ'.c k o=some x)∨∃x,σ'.m k=some x)(hX:¬X k):(∃o x,σ.c k o=some x)∨(∃x,σ.m k=some x)∨(∃i,own k=some i)∨w1.heap.size≤k:=by
 obtain⟨t',fx,cx,hf,_⟩:=h'.frame;obtain⟨_,f2,f3,_,_⟩:=hf.F;cases e:own k with
 |some i=>exact .inr (.inr (.inl ⟨i,rfl⟩))
 |none=>
  by_cases hm:∃x,σ.m k=some x
  ·exact .inr (.inl hm)
  by_cases hc:∃o x,σ.c k o=some x
  ·exact .inl hc
  refine .inr (.inr (.inr (Nat.le_of_not_lt fun ae=>?_)));have U3:σ.m k=none:=by
   cases e2:σ.m k with
   |none=>rfl
   |some x=>exact absurd ⟨x,e2⟩ hm
  have ky:cx k:=(f3 k).2 ⟨(f2 k).2 ⟨ae,e,by rw[U3];simp,hX⟩,fun o=>by
   cases e2:σ.c k o with
   |none=>rfl
   |some x=>exact absurd ⟨o,x,e2⟩ hc,U3⟩
  rcases hk with⟨o,x,hk⟩|⟨x,hk⟩
  ·exact hf.c k o x hk ky
  ·exact hf.m k x hk ky
theorem Inv.ofRnd {w1:World}(h:Inv C S ρ σ own hv w0 σ0 A a w1){t:D}{fx cx:Nat→Prop}(cW:FrOK σ own w0.heap.size σ0 w1 t fx cx)(hX:∀k,fx k→¬X k)(h':Inv C S' ρ' σ' own' hv' w0 (σ0.rnd σ own w1 t X) A' a' w'):
 Inv C S' ρ' σ' own' hv' w0 σ0 A' a' w':=by
 have hb:=h.rndBelow h';have ko:=h';obtain⟨t',oB,kQ,hf,ht⟩:=ko.frame;obtain⟨f1,f2,f3,f4,f5⟩:=hf.F;have ae:=σ0.lt _ _ _ _ cW.F;have bI:=σ0.sub _ _ _ _ cW.F
 have oP:∀k,fx k→own k=none:=fun k hk=>by
  cases e:own k with
  |none=>rfl
  |some j=>exact absurd hk (cW.own k j e)
 have lj:∀k,cx k→¬((∃o x,σ'.c k o=some x)∨∃x,σ'.m k=some x):=fun k hk hc=>by
  have h1:=bI k hk;rcases Inv.rndC h' hc (hX k h1) with⟨o,x,e⟩|⟨x,e⟩|⟨j,e⟩|e
  ·exact cW.c k o x e hk
  ·exact cW.m k x e hk
  ·exact cW.own k j e h1
  ·have:=ae k h1;omega
 refine⟨h'.defers,h'.ok,h.le.trans h'.le,h.old,fun k o x e=>(h'.newc k o x e).elim (h.newc k o x) .inr,fun k x e=>(h'.newm k x e).elim (h.newm k x) .inr,h'.below,h'.bw,h'.owns,h'.regs,h'.objs,h'.opts,t,fx,cx,
  ⟨σ0.keep _ _ _ _ _ cW.F hb fun k hk=>Inv.rndSame h.ok h' (ae k hk) (oP k hk) (hX k hk),fun k j hk kA=>?_,fun k o x e hc=>lj k hc (.inl ⟨o,x,e⟩),fun k x e hc=>lj k hc (.inr ⟨x,e⟩),fun k e hB kA=>?_⟩,fun j hj=>⟨(ht j hj).1,by rw[(ht j hj).2,f1]⟩⟩
 ·rcases Inv.rndOwn h' hk (hX k kA) with⟨i,e⟩|e
  ·exact cW.own k i e kA
  ·have:=ae k kA;omega
 ·by_cases hd:σ.m k=some cP
  ·exact cW.d k hd hB kA
  ·exact hf.d k e hB ((f2 k).2 ⟨ae k kA,oP k kA,hd,hX k kA⟩)
theorem Inv.restore (h:Inv C S ρ σ own hv w0 σ0 A a w)(hn:∀t gs s,S.r t≠.opt gs s)(hd:kc σ w0.heap.size a'.defers)(hr:∀t,isNone (S.r t)=false→a'.tmps.getD t undef=a.tmps.getD t undef∧ρ'.r t=ρ.r t)(ho:∀j,nJ (S.o j)=false→ρ'.o j=ρ.o j):
 Inv C S ρ' σ own hv w0 σ0 (fun _=>False) a' w:=by
 refine⟨hd,h.ok,h.le,h.old,h.newc,h.newm,h.below,h.bw,h.owns,fun t=>?_,fun j=>?_,fun t gs s e=>absurd e (hn t gs s),?_⟩
 ·cases hs:isNone (S.r t) with
  |true=>cases hc:S.r t<;>rw[hc] at hs<;>simp[isNone] at hs;trivial
  |false=>
   rw[(hr t hs).1,(hr t hs).2];exact aC.mono' (.refl σ) (.refl S hv) (hn t) (h.regs t)
 ·cases hs:nJ (S.o j) with
  |true=>cases hc:S.o j<;>rw[hc] at hs<;>simp[nJ] at hs;trivial
  |false=>exact(h.objs j).mono (.refl σ) (.refl S hv) rfl (ho j hs) (fun k hk=>⟨hk,rfl⟩)
 ·obtain⟨t,fx,cx,h1,h2⟩:=h.frame;exact⟨t,fx,cx,h1,fun j hj=>⟨(h2 j hj).1,by rw[ho j (by rw[hj];rfl)];exact(h2 j hj).2⟩⟩
theorem kc.mem {σ:Im}{B:Nat}:∀{ds:List Deferred} {d:Deferred},d∈ds→kc σ B ds→∃D,d={target:=.collected D,args:=#[]}∧σ.m D=some cP
 |x::ds,d,hm,⟨⟨D,h1,h2,_⟩,h⟩=>by
  rcases df.1 hm with e|e
  ·subst e;exact⟨D,h1,h2⟩
  ·exact kc.mem e h
def Im.mark (σ:Im)(D:Nat):Im:=⟨σ.c,fun k=>if k=D then some cP else σ.m k⟩
theorem Tx (w:World)(o1 o2:Obj):Below w.heap.size w ((w.alloc o1).alloc o2):=(((Below.refl _ w).alloc (aU _) o1).alloc (by simp) o2)
theorem Inv.enter (h:Inv C S ρ σ own hv w0 σ0 A a w)(r:Loop):
 Inv C S ρ (σ.mark w.heap.size) own hv w0 σ0 A {a with defers:={target:=.collected w.heap.size,args:=#[]}::a.defers} ((w.alloc (.deferred (some []))).alloc (.loop r)):=by
 have hD:((w.alloc (.deferred (some []))).alloc (.loop r)).heap[w.heap.size]?=some (.deferred (some [])):=(Below.heap_alloc _ _ _ (by simp)).trans (World.alloc_heap_new w _);have hle:σ.le (σ.mark w.heap.size):=by
  refine⟨fun _ _ _ e=>e,fun k x e=>?_⟩;have:k≠w.heap.size:=by have:=h.ltm e;omega
  simp[Im.mark,this,e]
 have Cf:∀k x,(σ.mark w.heap.size).m k=some x→σ.m k=some x∨(k=w.heap.size∧x=cP):=by
  intro k x e;simp only[Im.mark] at e;split at e
  ·rename_i e2;cases e;exact .inr ⟨e2,rfl⟩
  ·exact .inl e
 have hb:=Tx w (.deferred (some [])) (.loop r);have ax:(σ.mark w.heap.size).ok ((w.alloc (.deferred (some []))).alloc (.loop r)):=by
  have h1:=h.ok.below hb;refine⟨h1.c,fun k x e=>?_⟩;rcases Cf k x e with e|⟨rfl,rfl⟩
  ·exact h1.m k x e
  ·exact .inr ⟨rfl,hD⟩
 have hw:=h.world hle ax hb (fun _ _ _ e=>.inl e) (fun k x e=>(Cf k x e).imp id fun e=>by omega);have ny:=hw.defers;refine⟨⟨⟨_,rfl,by simp[Im.mark],h.below.size,fun hm=>?_⟩,ny⟩,hw.ok,hw.le,hw.old,hw.newc,hw.newm,hw.below,hw.bw,hw.owns,hw.regs,hw.objs,hw.opts,hw.frame⟩;obtain⟨D,e1,e2⟩:=kc.mem hm h.defers;have:D=w.heap.size:=by cases e1;rfl
 subst this;have:=h.ltm e2;omega
end
end Cx
