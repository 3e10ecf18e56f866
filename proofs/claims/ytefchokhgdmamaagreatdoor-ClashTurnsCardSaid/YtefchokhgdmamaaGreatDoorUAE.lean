/-
  Shared texts of this claim.
-/
import Derived.Test.YtefchokhgdmamaaGreatDoorUAD
import Derived.Tactics
import Derived.RangeFuncIn
import Derived.OrdersIn
import Derived.RangeFuncRecord
set_option linter.unusedSimpArgs false
set_option linter.unusedVariables false
namespace Cx
open Go Go.RowKit
inductive Gh where
 |fz (j:Nat)|fbox (b:Nat)|rereg (t j:Nat)|recell (b i j:Nat)|home (b i j:Nat) (T:TypeId)
def Gh.run (C:Ctx)(S:St):Gh→Option (St×List PI)
 |.fz j=>some (S.fz j,[])
 |.fbox b=>Cp S b
 |.rereg t j=>xF S t j
 |.recell b i j=>E4 S b i j
 |.home b i j T=>Db C S b i j T
def j1 (C:Ctx):List Gh→St→Option (St×List PI)
 |[],S=>some (S,[])
 |g::gs,S=>(g.run C S).bind fun r=>(j1 C gs r.1).map fun q=>(q.1,r.2++q.2)
theorem pf {Φ:aV}:∀{a b:List PI} {ρ:Env},PI.runs Φ (a++b) ρ=(PI.runs Φ a ρ).bind (PI.runs Φ b)
 |[],b,ρ=>by simp[PI.runs]
 |x::a,b,ρ=>by
  simp only[FG,PI.runs];cases x.run Φ ρ with
  |none=>rfl
  |some ρ1=>simp[pf (a:=a) (b:=b)]
def pK (S:St)(ops:Array Oper)(o:Oper):Option (List (Nat×Bool)):=
 match o.guard with
 |none=>some []
 |some (j,want)=>
  match(ops[j]?).bind (·.dst) with
  |some t=>
   match S.r t with
   |.dat .bool=>some [(t,want)]
   |.opt gs (.dat .bool)=>some ((t,want)::gs)
   |_=>none
  |none=>none
def tn (S:St)(gs:List (Nat×Bool)):Op→List Nat
 |.build _ ps=>bR S gs (ps.toList.map (·.2))
 |.buildSlice _ _ ps=>bR S gs (ps.toList.map (·.2))
 |.box _ x=>match fp S gs x with|.agg _=>[]|_=>bR S gs [x]
 |.pick _ x y=>bR S gs [x,y]
 |.slice _ x _ _ _=>bR S gs [x]
 |.mapUpdate _ _ k v=>bR S gs [k,v]
 |.insert _ _ k v=>bR S gs [k,v]
 |.store _ x v=>match fp S gs x with|.eptr ..=>bR S gs [v]|_=>[]
 |_=>[]
def BH:List Sh→List Nat
 |[]=>[]
 |.obj j _::r=>j::BH r
 |_::r=>BH r
def F8 (S:St)(gs:List (Nat×Bool)):List Operand→List Nat
 |[]=>[]
 |x::xs=>
  match fp S gs x with
  |.ptr j ver off=>bif Nat.beq ver (S.ver j)&&(match S.o j with|.box ..=>true|_=>false) then j::F8 S gs xs else F8 S gs xs
  |_=>F8 S gs xs
def YZ (C:Ctx):Fn→Bool
 |.func f=>(match C.sig f with|some s=>qj s.mode|none=>false)
 |_=>false
theorem al8 {α:Type}{b:Bool}{x:α}{l:List α}(h:x∈bif b then[] else l):x∈l:=by
 cases b with
 |true=>cases h
 |false=>exact h
def pre (C:Ctx)(S:St)(gs:List (Nat×Bool))(op:Op):List Gh:=
 match op with
 |.makeFunc fn _ caps=>
  bif YZ C fn then[] else(F8 S gs caps.toList).flatMap fun b=>(match S.o b with|.box _ shs=>(BH shs).map .fz|_=>[])++[.fbox b]
 |.load T x=>
  match fp S gs x,qh C.P T,C.P.info? T with
  |.ptr j _ off,some true,some inf=>bif Lg C j then[] else(match S.o j with|.box _ shs=>((BH ((shs.drop off).take inf.size)).filter fun j=>lz (S.o j)).map .fz|_=>[])
  |_,_,_=>[]
 |.build T ps=>((tn S gs (.build T ps)).filter fun j=> !(C.fr.any (Nat.beq (3000000+j)))).map .fz
 |op=>(tn S gs op).map .fz
def qq (C:Ctx)(S:St)(gs:List (Nat×Bool))(o:Oper):List Gh:=
 match o.op,o.dst with
 |.assign x,some t=>bif C.fr.any (Nat.beq t) then(bR S gs [x]).map .fz else[]
 |_,_=>[]
def L8 (P:Program):Nat→TypeId→List (Option TypeId)
 |0,_=>[]
 |n+1,t=>
  match P.underlying t with
  |some (.struct fs)=>fs.toList.flatMap fun f=>L8 P n f.type
  |some (.array len e)=>(List.replicate len (L8 P n e)).flatten
  |some (.slice e)=>[some e]
  |_=>[none]
def homes (P:Program)(b off:Nat)(T:TypeId):List Gh:=
 ((L8 P 12 T).zipIdx).filterMap fun x=>x.1.map fun e=>.home b (off+x.2) (gO b (off+x.2)) e
def IL (nh:List Nat)(l:List Gh):List Gh:=l.filter fun g=>match g with|.home _ _ j _=> !(nh.any (Nat.beq j))|_=>true
def aby (b off n:Nat):List Gh:=(List.range n).map fun i=>.recell b (off+i) (gO b (off+i))
def post (C:Ctx)(S:St)(o:Oper):List Gh:=
 match o.op,o.dst with
 |.assign _,some t=>[.rereg t t]
 |.alloc T,some t=>IL C.nh (homes C.P t 0 T)
 |.store T x _,_=>
  match fp S [] x with
  |.ptr j _ off=>IL C.nh (homes C.P j off T)++aby j off (match C.P.info? T with|some i=>i.size|none=>0)
  |_=>[]
 |_,_=>[]
def ry:Sh→Bool
 |.opt ..=>false
 |_=>true
def ud (C:Ctx)(S:St)(dst:Nat)(T:TypeId)(x:Operand):kS:=
 match x with
 |.const v=>(pj C.P T).bind fun t=>(pk t).bind fun z=>bif jW t v then some (S.setR dst (.dat z.1),[.setR dst (.con z.2)]) else none
 |_=>none
def core (C:Ctx)(S:St)(gs:List (Nat×Bool))(o:Oper):Option (St×List PI):=
 match o.dst with
 |some dst=>
  match oQ C S gs dst o.op with
  |some r=>bif ry r.1 then some (S.setR dst (jE gs r.1),r.2) else none
  |none=>
   match o.op,gs with
   |.assign x,[]=>
    bif C.fr.any (Nat.beq dst) then
          match qo C S [] dst x with
          |some r=>some (S.setR dst r.1,r.2)
          |none=>ud C S dst o.type x
    else
    match B6 C S dst o.type x with
    |some r=>some r
    |none=>
     match qo C S [] dst x with
     |some r=>some (S.setR dst r.1,r.2)
     |none=>ud C S dst o.type x
   |.alloc T,[]=>BV C S dst T
   |.box T x,[]=>BX C S dst T x
   |.buildSlice T n ps,gs=>
    match gs with
    |[]=>we C S [] dst T n ps.toList
    |_=>zg C S gs dst T n ps.toList
   |.makeSlice T l c,[]=>B4 C S dst T l c
   |.makeMap T r,[]=>B3 C S dst T r
   |.range T x,[]=>B7 C S dst T x
   |.convert T U x,[]=>BY C S dst T U x
   |.call c,gs=>
    match c.callee,gs with
    |.builtin .append,[]=>
     match c.args.toList,c.argTypes.toList with
     |[s,x],[T,T']=>bif Nat.beq T T' then BW C S dst T s x else none
     |_,_=>none
    |.value (.func f),gs=>
     match pD C S gs dst f c.args.toList with
     |some r=>some (r.1.setR dst (jE gs r.2.1),r.2.2)
     |none=>
      match gs with
      |[]=>
       match B1 C S dst f c.args.toList with
       |some r=>some r
       |none=>
        match B2 C S dst f c.args.toList with
        |some r=>some r
        |none=>
        match BZ C S dst f c.args.toList with
        |some r=>some r
        |none=>(qW C S f c.args.toList []).map (qn S (some dst))
      |_=>none
    |.value x,gs=>
     match oo C S gs dst x c.args.toList with
     |some r=>some (r.1.setR dst (jE gs r.2.1),r.2.2)
     |none=>
      match x,gs with
      |.tmp t,[]=>(zf C S t c.args.toList).map (qn S (some dst))
      |_,_=>none
    |_,_=>none
   |.makeFunc fn first caps,[]=>B5 C S dst fn first caps
   |_,_=>none
 |none=>
  match o.op,gs with
  |.store T x v,[]=>uc C S T x v
  |.mapUpdate T m k v,[]=>sw C S T m k v
  |.insert T m k v,[]=>sw C S T m k v
  |.panic _,[]=>some (S,[.chk (.nt (.con (.bool true)))])
  |.call c,[]=>
   match c.callee with
   |.value (.func f)=>(qW C S f c.args.toList []).map (qn S none)
   |.value (.tmp t)=>(zf C S t c.args.toList).map (qn S none)
   |_=>none
  |_,_=>none
def aae (dst:Nat)(l:List PI):Bool:=l.all fun p=>p.modR.all (Nat.beq dst)&&p.modO.isEmpty
def jF (gs:List (Nat×Bool))(dst:Option Nat)(l:List PI):Bool:=
 match gs,dst with
 |[],_=>true
 |_,some d=>aae d l
 |_,none=>false
def BQ (C:Ctx)(S:St)(ops:Array Oper)(o:Oper):Option (St×List PI):=
 (pK S ops o).bind fun gs=>
 (j1 C (pre C S gs o.op++qq C S gs o) S).bind fun r1=>
 (core C r1.1 gs o).bind fun r2=>
 (j1 C (post C r2.1 o) r2.1).bind fun r3=>
 bif jF gs o.dst r2.2 then some (r3.1,r1.2++r2.2++r3.2) else none
def Fo:PI:=.chk (.con (.v (.bool false)))
def zc (C:Ctx)(S:St)(ops:Array Oper)(o:Oper):Option (St×List PI):=
 match BQ C S ops o with
 |some r=>some r
 |none=>some (match o.dst with|some d=>S.setR d .none|none=>S,[Fo])
section
variable {C:Ctx} {S:St} {ρ:Env} {σ:Im} {own:Nat→Option Nat} {hv:Nat→Value} {w0:World} {σ0:Base} {A:Nat→Prop} {a:Act} {w:World} {gs:List (Nat×Bool)} {Φ:aV} {dst:Nat}
theorem Gh.sound {g:Gh}{r:St×List PI}(h:Good C w0 σ0 S ρ A a w)(hr:g.run C S=some r):Bf C w0 σ0 Φ S ρ A a w r:=by
 obtain⟨σ,own,hv,h⟩:=h;cases g with
 |fz j=>
  simp only[Gh.run,aR] at hr;subst hr;intro ρ' af;rw[nR af];obtain⟨σ',own',_,h'⟩:=h.fz j;exact⟨σ',own',hv,h'⟩
 |fbox b=>exact ag8 h hr
 |rereg t j=>exact aor h hr
 |recell b i j=>exact aoq h hr
 |home b i j T=>exact ajA h hr
theorem MN:∀(l:List Gh) {S:St} {ρ ρ':Env} {r:St×List PI},Good C w0 σ0 S ρ A a w→j1 C l S=some r→PI.runs Φ r.2 ρ=some ρ'→Good C w0 σ0 r.1 ρ' A a w
 |[],S,ρ,ρ',r,h,hr,af=>by
  simp only[j1,aR] at hr;subst hr;rw[nR af];exact h
 |g::l,S,ρ,ρ',r,h,hr,af=>by
  simp only[j1,ao,ax] at hr;obtain⟨q,hq,q2,jK,rfl⟩:=hr;simp only[pf,ao] at af;obtain⟨ρ1,h1,h2⟩:=af;exact MN (r:=q2) l (Gh.sound (Φ:=Φ) h hq ρ1 h1) jK h2
theorem V4 (h:Good C w0 σ0 S ρ A a w){ops:Array Oper}{o:Oper}(hg:pK S ops o=some gs):Region.wanted o (yielded ops a.tmps)=holds gs ρ:=by
 obtain⟨σ,own,hv,h⟩:=h;unfold pK at hg;unfold Region.wanted;split at hg
 ·rename_i e;cases hg;simp[e,holds]
 ·rename_i j want e;simp only[e];split at hg
  case h_2=>cases hg
  rename_i t ht;have gu:=h.regs t;have hy:∀v,a.tmps.getD t undef=v→(∀b,v=.bool b→yielded ops a.tmps j=some b)∧(v=undef→yielded ops a.tmps j=none):=by
   intro v hv';unfold yielded;rw[ht];simp only[ko];rw[eK] at hv';cases pW:a.tmps[t]? with
   |none=>rw[pW] at hv';simp at hv';subst hv';exact⟨fun b e=>absurd e (by simp[undef]),fun _=>rfl⟩
   |some u=>rw[pW] at hv';simp at hv';subst hv';exact⟨fun b e=>by subst e;rfl,fun e=>by subst e;rfl⟩
  split at hg
  ·rename_i es;cases hg;rw[es] at gu;obtain⟨b,cu,bn⟩:=Rep.bool_inv gu;rw[(hy _ cu).1 b rfl];simp[holds,bn,D.b_bool]
  ·rename_i bP es;cases hg;rw[es] at gu;simp only[holds,qJ];cases hh:holds bP ρ with
   |true=>
    obtain⟨b,cu,bn⟩:=Rep.bool_inv (gu.1 hh);rw[(hy _ cu).1 b rfl];unfold holds at hh;rw[hh,bn];simp[D.b_bool]
   |false=>
    rw[(hy _ (gu.2 hh)).2 rfl];unfold holds at hh;rw[hh];simp
  ·cases hg
theorem V3 (h:Good C w0 σ0 S ρ A a w){ops:Array Oper}{o:Oper}(hg:pK S ops o=some gs)(hj:∀j want t,o.guard=some (j,want)→(ops[j]?).bind (·.dst)=some t→A t):∀g,g∈gs→A g.1:=by
 obtain⟨σ,own,hv,h⟩:=h;unfold pK at hg;split at hg
 ·cases hg;simp
 ·rename_i j want e;split at hg
  case h_2=>cases hg
  rename_i t ht;have hA:=hj j want t e ht;split at hg
  ·cases hg;intro g hm;simp at hm;subst hm;exact hA
  ·rename_i bP es;cases hg;intro g hm;rcases cW.1 hm with e'|fQ
   ·subst e';exact hA
   ·exact(h.opts t bP _ es).1 g fQ
  ·cases hg
theorem am4 (h:Inv C S ρ σ own hv w0 σ0 A a w)(hC:CtxOK C σ0)(hg:holds gs ρ=true){o:Oper}{r:Sh×List PI}(hr:oQ C S gs dst o.op=some r):eT C S ρ σ hv Φ dst a w o r:=by
 unfold oQ at hr;split at hr
 ·rename_i x e;exact aai h hC hg hr (.inl e)
 ·rename_i c x y e;exact am3 h hC hg hr e
 ·rename_i op T x y T' e;exact amE h hC hg hr e
 ·rename_i op T x e;exact am8 h hC hg hr e
 ·rename_i s d x e;exact amI h hC hg hr e
 ·rename_i T x e;exact D0 h hC hg hr e
 ·rename_i T x i e;exact amM h hC hg hr e
 ·rename_i T x i e;exact amO h hC hg hr e
 ·rename_i T x i e;exact amR h hC hg hr e
 ·rename_i T x i e;exact amT h hC hg hr e
 ·rename_i x i e;exact amK h hC hg hr e
 ·rename_i T m k ok e;exact amZ h hC hg hr e
 ·rename_i T x lo hi mx e;exact am6 h hC hg hr e
 ·rename_i f a b e;exact amP h hC hg hr e
 ·rename_i T ps e;exact amG h hC hg hr e
 ·rename_i x e;exact am1 h hC hg hr e
 ·cases hr;intro ρ' af;have:=(Rk hg af).1;cases this
 ·rename_i c e;split at hr
  ·rename_i x T hc ha ht;refine amV h hC hg hr ?_;rw[e];cases c with|mk callee args argTypes=>
   simp only at hc ha ht;have h1:args=#[x]:=by rw[←tJ];exact ha
   have h2:argTypes=#[T]:=by rw[←tJ];exact ht
   rw[hc,h1,h2]
  ·rename_i x y hc ha;refine aag (ts:=c.argTypes) h hC hg hr ?_;rw[e];cases c with|mk callee args argTypes=>
   simp only at hc ha;have h1:args=#[x,y]:=by rw[←tJ];exact ha
   rw[hc,h1];rfl
  ·rename_i x y hc ha;refine aag (ts:=c.argTypes) h hC hg hr ?_;rw[e];cases c with|mk callee args argTypes=>
   simp only at hc ha;have h1:args=#[x,y]:=by rw[←tJ];exact ha
   rw[hc,h1];rfl
  ·cases hr
 ·cases hr
theorem afG (h:Inv C S ρ σ own hv w0 σ0 A a w)(ht:¬A dst)(ae:dst<a.tmps.size){T:TypeId}{x:Operand}{r:St×List PI}(hr:ud C S dst T x=some r){o:Oper}(hd:o.dst=some dst)(ho:o.op=.assign x):bW C w0 σ0 Φ S ρ A a w o r:=by
 unfold ud at hr;split at hr
 case h_2=>cases hr
 rename_i v;simp only[ao] at hr;obtain⟨t,_,z,hz,hr⟩:=hr;cases hc:jW t v<;>simp only[hc,cond_true,cond_false] at hr
 ·cases hr
 cases hr;have bN:=(xT (cap:=C.cap) (σ:=σ) hz hc).1;refine bW.value hd fun ρ' af=>⟨v,w,by simp[execOp,ho,Act.eval],?_⟩
 have hρ:ρ'=ρ.setR dst z.2:=by simp[PI.runs,PI.run,PE.ev] at af;exact af.symm
 subst hρ;exact⟨_,_,_,h.setReg ht (s:=.dat z.1) bN ae (fun _ _ e=>by cases e)⟩
theorem aeU (h:Inv C S ρ σ own hv w0 σ0 A a w)(hC:CtxOK C σ0)(aS:eD C)(hΦ:dQ C Φ){o:Oper}(ht:∀d,o.dst=some d→¬A d∧d<a.tmps.size)(ei:∀g,g∈gs→A g.1)(hg:holds gs ρ=true){r:St×List PI}
 (hr:core C S gs o=some r):bW C w0 σ0 Φ S ρ A a w o r:=by
 unfold core at hr;split at hr
 ·rename_i dst hd;obtain⟨gw,gx⟩:=ht dst hd;split at hr
  ·rename_i q hq;cases eY:ry q.1<;>simp only[eY,cond_true,cond_false] at hr
   ·cases hr
   cases hr;have Xp:=am4 (Φ:=Φ) h hC hg hq;cases gs with
   |nil=>exact Xp.eff h gw gx hd
   |cons g bP=>exact Xp.effG h gw gx ei hg hd
  ·rename_i C8;clear C8;split at hr
   ·rename_i x e
    have mv:∀r,(match qo C S [] dst x with|some r=>some (S.setR dst r.1,r.2)|none=>ud C S dst o.type x)=some r→bW C w0 σ0 Φ S ρ A a w o r:=by
     intro r hr;split at hr
     ·rename_i q hq;cases hr;exact(aai (Φ:=Φ) h hC hg hq (.inr e)).eff h gw gx hd
     ·exact afG h gw gx hr hd e
    cases dm:C.fr.any (Nat.beq dst)<;>simp only[dm,cond_true,cond_false] at hr
    ·split at hr
     ·rename_i q hq;cases hr;exact afA h hC gw gx hq hd e
     ·exact mv r hr
    ·exact mv r hr
   ·rename_i T e;exact ae5 h gw gx hr hd e
   ·rename_i T x e;exact ae9 h hC gw gx hr hd e
   ·rename_i T n ps e;split at hr
    ·exact afb h hC gw gx hr hd e
    ·exact afr h hC gw gx ei hg hr hd e
   ·rename_i T l c e;exact afw h hC gw gx hr hd e
   ·rename_i T m e;exact afu h gw gx hr hd e
   ·rename_i T x e;exact afC h gw gx hr hd e
   ·rename_i T U x e;exact afd h hC gw gx hr hd e
   ·rename_i c e;cases c with|mk callee args argTypes=>
    split at hr
    ·rename_i hc;simp only at hc;split at hr
     ·rename_i s x T T' ha Ok;simp only at ha Ok;cases hT:Nat.beq T T'<;>simp only[hT,cond_true,cond_false] at hr
      ·cases hr
      have pO:=aw hT;subst pO;refine ae7 h hC gw gx hr hd ?_;have h1:args=#[s,x]:=by rw[←tJ];exact ha
      have h2:argTypes=#[T,T]:=by rw[←tJ];exact Ok
      rw[e,hc,h1,h2]
     ·cases hr
    ·rename_i f hc;simp only at hc;split at hr
     ·rename_i q hq;cases hr;exact afp h hC aS hΦ gw gx ei hg hq hd (by rw[e,hc])
     ·split at hr
      ·split at hr
       ·rename_i q hq;cases hr;exact afk h hC aS hΦ gw gx hq hd (by rw[e,hc])
       ·split at hr
        ·rename_i q hq;cases hr;exact afm h hC aS hΦ gw gx hq hd (by rw[e,hc])
        split at hr
        ·rename_i q hq;cases hr;exact afi h hC aS hΦ gw gx hq hd (by rw[e,hc])
        ·simp only[ax] at hr;obtain⟨q,hq,rfl⟩:=hr;rw[←hd];exact Vn h hC aS hΦ ht hq (by rw[e,hc])
      ·cases hr
    ·rename_i x Iq hc;simp only at hc;split at hr
     ·rename_i q hq;cases hr;exact afg h hC aS hΦ gw gx ei hg hq hd (by rw[e,hc])
     ·split at hr
      ·simp only[ax] at hr;obtain⟨q,hq,rfl⟩:=hr;rw[←hd];exact Vl h hC aS hΦ ht hq (by rw[e,hc])
      ·cases hr
    ·cases hr
   ·rename_i fn first caps e;exact afy h gw gx hr hd e
   ·cases hr
 ·rename_i hd;split at hr
  ·rename_i T x v e;exact afE h hC hr hd e
  ·rename_i T m k v e;exact Vp h hC hr hd (.inl e)
  ·rename_i T m k v e;exact Vp h hC hr hd (.inr e)
  ·cases hr;intro ρ' af;simp[PI.runs,PI.run,PE.ev,D.bool,D.b] at af
  ·rename_i c e;cases c with|mk callee args argTypes=>
   split at hr
   ·rename_i f hc;simp only at hc;simp only[ax] at hr;obtain⟨q,hq,rfl⟩:=hr;rw[←hd];exact Vn h hC aS hΦ ht hq (by rw[e,hc])
   ·rename_i t hc;simp only at hc;simp only[ax] at hr;obtain⟨q,hq,rfl⟩:=hr;rw[←hd];exact Vl h hC aS hΦ ht hq (by rw[e,hc])
   ·cases hr
  ·cases hr
theorem aeS {g:Nat×Bool}{bP:List (Nat×Bool)}{o:Oper}{r:St×List PI}(hr:core C S (g::bP) o=some r):
 ∃dst S2 s,o.dst=some dst∧r.1=S2.setR dst (.opt (g::bP) s)∧((∃js,S2=S.fzs js)∨∃j,S2=S.newO j .dead)∧(∀gs s',s≠.opt gs s')∧(∀x,o.op≠.assign x)∧(∀T,o.op≠.alloc T)∧∀T x v,o.op≠.store T x v:=by
 unfold core at hr;split at hr
 ·rename_i dst hd;split at hr
  ·rename_i q hq;cases eY:ry q.1<;>simp only[eY,cond_true,cond_false] at hr
   ·cases hr
   cases hr;refine⟨dst,S,q.1,hd,rfl,.inl ⟨[],rfl⟩,(fun gs s' e=>by rw[e] at eY;cases eY),fun x e=>?_,fun T e=>?_,fun T x v e=>?_⟩<;>(rw[e] at hq;simp[oQ] at hq)
  ·rename_i C8;clear C8;split at hr
   case h_4=>
        rename_i T n ps e;split at hr
        ·rename_i hx;cases hx
        ·unfold zg at hr;split at hr
         case h_2=>cases hr
         simp only[ao] at hr;obtain⟨e0,he0,hr⟩:=hr;split at hr
         ·cases hr;exact⟨dst,_,.dat (.slice e0.rol),hd,rfl,.inr ⟨dst,rfl⟩,(fun _ _ e=>by cases e),(fun x e'=>by rw[e] at e';cases e'),(fun x e'=>by rw[e] at e';cases e'),(fun _ _ _ e'=>by rw[e] at e';cases e')⟩
         ·cases hr
   case h_9=>
        rename_i c e;split at hr
        ·rename_i hx;cases hx
        ·rename_i f hc;split at hr
         ·rename_i q hq;cases hr;simp only[pD,ao] at hq;obtain⟨s,hs,hq⟩:=hq;split at hq
          case h_2=>cases hq
          simp only[ao] at hq;obtain⟨u,hu,hq⟩:=hq;cases bG:Ty.subs u.1 s.args<;>simp only[bG,cond_true,cond_false] at hq
          ·cases hq
          cases hq;refine⟨dst,_,.dat s.res,hd,rfl,?_,(fun _ _ e=>by cases e),(fun x e'=>by rw[e] at e';cases e'),(fun x e'=>by rw[e] at e';cases e'),(fun _ _ _ e'=>by rw[e] at e';cases e')⟩;left;cases s.res.pure
          ·exact⟨_,rfl⟩
          ·exact⟨[],rfl⟩
         ·cases hr
        ·rename_i x Iq hc;have hr:∃q,oo C S (g::bP) dst x c.args.toList=some q∧(q.1.setR dst (jE (g::bP) q.2.1),q.2.2)=r:=by
          split at hr
          ·rename_i q hq;cases hr;exact⟨q,hq,rfl⟩
          ·split at hr
           all_goals (first|(cases hr;done)|(rename_i hx;cases hx;done)|(rename_i hx _;cases hx;done)|(rename_i hx _ _;cases hx;done)|(rename_i hx;exact absurd hx (by simp)))
         obtain⟨q,hq,rfl⟩:=hr;unfold oo at hq;split at hq
         case h_2=>cases hq
         rename_i aa r0 ee wW;split at hq
         case h_1=>cases hq
         simp only[ao] at hq;obtain⟨u,hu,hq⟩:=hq;cases bG:Ty.subs u.1 aa<;>simp only[bG,cond_true,cond_false] at hq
         ·cases hq
         cases hq;refine⟨dst,_,.dat r0,hd,rfl,?_,(fun _ _ e=>by cases e),(fun x e'=>by rw[e] at e';cases e'),(fun x e'=>by rw[e] at e';cases e'),(fun _ _ _ e'=>by rw[e] at e';cases e')⟩;left;cases r0.pure
         ·exact⟨_,rfl⟩
         ·exact⟨[],rfl⟩
        ·cases hr
   all_goals (first|(cases hr;done)|(rename_i hx;cases hx;done)|(rename_i hx _;cases hx;done))
 ·split at hr
  all_goals (first|(cases hr;done)|(rename_i hx;cases hx;done)|(rename_i hx _;cases hx;done))
theorem Xj {ρ ρ1:Env}:∀{l:List (Nat×Bool)},(∀g,g∈l→ρ1.r g.1=ρ.r g.1)→holds l ρ1=holds l ρ
 |[],_=>rfl
 |x::l,h=>by
  have ih:=Xj (l:=l) fun y hy=>h y (dK _ hy);unfold holds at ih ⊢;simp only[qJ];rw[ih,h x (dR ..)]
theorem V0:∀(l:List Gh) {S:St} {r:St×List PI},j1 C l S=some r→∀t,t∉r.2.flatMap PI.modR
 |[],S,r,hr=>by simp only[j1,aR] at hr;subst hr;simp
 |g::l,S,r,hr=>by
  simp only[j1,ao,ax] at hr;obtain⟨q,hq,q2,jK,rfl⟩:=hr;have ih:=V0 l jK;have hg:∀t,t∉q.2.flatMap PI.modR:=by
   cases g with
   |fz j=>simp only[Gh.run,aR] at hq;subst hq;simp
   |fbox b=>
    simp only[Gh.run,Cp] at hq;split at hq
    case h_2=>cases hq
    simp only[ao] at hq;obtain⟨x,hx,hq⟩:=hq;rename_i ag shs eo;cases ag<;>simp only[cond_true,cond_false] at hq
    ·split at hq
     ·cases hq;simp[PI.modR]
     ·cases hq
    ·cases hq;simp[PI.modR]
   |rereg t j=>
    simp only[Gh.run,xF] at hq;split at hq
    ·rename_i j' ver es;cases hb:(Nat.beq ver (S.ver j')&&lz (S.o j')&& !Nat.beq j' j)<;>simp only[hb,cond_true,cond_false] at hq<;>cases hq<;>simp[PI.modR]
    ·cases hq;simp
   |recell b i j=>
    simp only[Gh.run,E4] at hq;split at hq
    ·split at hq
     ·rename_i ag shs eo j' ver es;cases hb:(Nat.beq ver (S.ver j')&&lz (S.o j')&& !Nat.beq j' j&& !Nat.beq b j&& !Nat.beq b j')<;>simp only[hb,cond_true,cond_false] at hq<;>cases hq<;>simp[PI.modR]
     ·cases hq;simp
    ·cases hq;simp
   |home b i j T=>
    simp only[Gh.run,Db] at hq;split at hq
    ·split at hq
     ·cases hb:(!Nat.beq b j)<;>simp only[hb,cond_true,cond_false] at hq<;>cases hq<;>simp[PI.modR]
     ·cases hq;simp
    ·cases hq;simp
  intro t hm;rw[T5,cR] at hm;exact hm.elim (hg t) (ih t)
theorem aeL (h:Good C w0 σ0 S ρ A a w)(hC:CtxOK C σ0)(aS:eD C)(hΦ:dQ C Φ){ops:Array Oper}{o:Oper}(ht:∀d,o.dst=some d→¬A d∧d<a.tmps.size)
 (hj:∀j want t,o.guard=some (j,want)→(ops[j]?).bind (·.dst)=some t→A t) {r:St×List PI} (hr:BQ C S ops o=some r) {ρ':Env} (af:PI.runs Φ r.2 ρ=some ρ')
 {K:Act→World→Prop} {Q:Exit→Act→World→Prop} (hK:∀a' w',Good C w0 σ0 r.1 ρ' (fun u=>A u∨o.dst=some u) a' w'→a'.tmps.size=a.tmps.size→K a' w'):
 if Region.wanted o (yielded ops a.tmps) then o.wp C.P a w K Q else K (a.put o.dst undef) w:=by
 simp only[BQ,ao] at hr;obtain⟨gs,ei,r1,jm,r2,mL,r3,wQ,hr⟩:=hr;have ux:=V3 h ei hj;rw[V4 h ei];cases hc:jF gs o.dst r2.2<;>simp only[hc,cond_true,cond_false] at hr
 ·cases hr
 cases hr;simp only[pf,ao] at af;obtain⟨ρ2,⟨ρ1,hρ1,hρ2⟩,hρ3⟩:=af;have h1:=MN _ h jm hρ1;have dC:=h1;obtain⟨σ1,dF,aQ,i1⟩:=dC;have H3:holds gs ρ1=holds gs ρ:=by
  cases gs with
  |nil=>rfl
  |cons g bP=>
   have hb:=(PI.runs_but hρ1).r
   have:∀x,x∈(g::bP)→ρ1.r x.1=ρ.r x.1:=fun x hm=>hb x.1 (by
        intro cA;exact V0 _ jm x.1 cA)
   exact Xj this
 cases hh:holds gs ρ with
 |true=>
  simp only[if_true];rw[hh] at H3;refine aeU i1 hC aS hΦ ht ux H3 mL ρ2 hρ2 K Q (fun a' w' fC aC=>?_);exact hK a' w' (MN (r:=r3) _ fC wQ hρ3) aC
 |false=>
  simp only[tK,if_false];rw[hh] at H3;cases gs with
  |nil=>simp[holds] at hh
  |cons g bP=>
   obtain⟨dst,S2,s,hd,hS,zt,hns,n1,n2,n3⟩:=aeS mL;obtain⟨t1,t2⟩:=ht dst hd;have kA:post C r2.1 o=[]:=by
        unfold post;split
        ·rename_i x t e _;exact absurd e (n1 x)
        ·rename_i T t e _;exact absurd e (n2 T)
        ·rename_i T x v e;exact absurd e (n3 T x v)
        ·rfl
   rw[kA] at wQ;simp only[j1,aR] at wQ;subst wQ;have:=nR hρ3;subst this;obtain⟨σ2,jo,i2⟩:∃σ2 jo,Inv C S2 ρ1 σ2 jo aQ w0 σ0 A a w:=by
        rcases zt with⟨js,rfl⟩|⟨j,rfl⟩
        ·obtain⟨σ2,jo,_,i2⟩:=Inv.fzs js i1;exact⟨σ2,jo,i2⟩
        ·exact⟨σ1,dF,i1.kill j⟩
   have Df:=i2.passed t1 t2 ux H3 (s:=s) hns (ρ'.r dst);have hρe:ρ1.setR dst (ρ'.r dst)=ρ':=by
        have hb:=PI.runs_but hρ2;simp only[jF,hd] at hc;unfold aae at hc;rw[bz] at hc
        have e1:∀t,t≠dst→ρ'.r t=ρ1.r t:=fun t ay=>hb.r t (fun hm=>by
         obtain⟨p,hp,uE⟩:=jb.1 hm;have:=hc p hp;simp only[aj] at this;have:=bz.1 this.1 t uE;exact ay (aw this).symm)
        have e2:∀t,ρ'.o t=ρ1.o t:=fun t=>hb.o t (fun hm=>by
         obtain⟨p,hp,uE⟩:=jb.1 hm;have:=hc p hp;simp only[aj] at this;have h9:=rY.1 this.2;rw[h9] at uE;cases uE)
        have r1:bV ρ1.r dst (ρ'.r dst)=ρ'.r:=by
         funext t;rw[fK];split
         ·rename_i e;subst e;rfl
         ·rename_i ay;exact(e1 t ay).symm
        have r2:ρ1.o=ρ'.o:=funext fun t=>(e2 t).symm;cases ρ' with|mk a b=>simp only[Env.setR] at r1 r2 ⊢;rw[r1,r2]
   rw[hρe] at Df;have ib:(fun u=>A u∨o.dst=some u)=(fun u=>A u∨u=dst):=by funext u;rw[hd];simp[eq_comm]
   rw[ib] at hK;rw[hd];refine hK _ _ ?_ (size_put _ _ _);simp only;rw[hS];exact⟨_,_,_,Df⟩
theorem aeN (h:Good C w0 σ0 S ρ A a w)(hC:CtxOK C σ0)(aS:eD C)(hΦ:dQ C Φ){ops:Array Oper}{o:Oper}(ht:∀d,o.dst=some d→¬A d∧d<a.tmps.size)
 (hj:∀j want t,o.guard=some (j,want)→(ops[j]?).bind (·.dst)=some t→A t) {r:St×List PI} (hr:zc C S ops o=some r) {ρ':Env} (af:PI.runs Φ r.2 ρ=some ρ')
 {K:Act→World→Prop} {Q:Exit→Act→World→Prop} (hK:∀a' w',Good C w0 σ0 r.1 ρ' (fun u=>A u∨o.dst=some u) a' w'→a'.tmps.size=a.tmps.size→K a' w'):
 if Region.wanted o (yielded ops a.tmps) then o.wp C.P a w K Q else K (a.put o.dst undef) w:=by
 unfold zc at hr;split at hr
 ·rename_i q hq;cases hr;exact aeL h hC aS hΦ ht hj hq af hK
 ·cases hr;simp[PI.runs,PI.run,Fo,PE.ev,D.b_bool] at af
end
end Cx
namespace Cx
open Go Go.RowKit
def oO:Op→Bool
 |.defer _=>false
 |_=>true
def FR (rd:Option Nat):Fence:={Fence.wide with round:=rd}
theorem UW {rd:Option Nat}{n:Nat}{P:Program}{f:FuncId}{args:Array Value}{w:World}{R:Ending→World→Prop}(h:Calls P f args w R):CallsIn (FR rd) n P f args w R:=
 (callsIn_wide (n:=n)).2 h
theorem aal {rd:Option Nat}{n:Nat}{P:Program}{o:Oper}{a:Act}{w:World}{K:Act→World→Prop}{Q:Exit→Act→World→Prop}(bj:oO o.op=true)(h:o.wp P a w K Q):o.wpIn (FR rd) n P a w K Q:=by
 refine⟨fun _ _=>trivial,?_⟩;rw[Oper.semAt_eq _ _ _ (fun c e=>by rw[e] at bj;cases bj)];unfold Oper.wp at h;generalize (execOp a.eval o).run P w=x at h;have eY:∀{p:Prop},((FR rd).depth.isSome=true→p):=fun e=>by cases e
 cases x with
 |ok v w'=>
  cases v with
  |value v=>exact h
  |skip=>exact h
  |defer d=>exact h
  |enter f args=>
   refine⟨eY,(UW h).mono fun e kO hh=>?_⟩;cases e<;>exact hh
  |row row args=>
   refine⟨eY,fun c cs _=>?_⟩;obtain⟨v,w2,h1,h2⟩:=h c cs;exact⟨v,w2,h1,stepsIn_wide.2 h2⟩
  |_=>exact h.elim
 |halt v w'=>
  cases v with
  |panic v=>exact h
  |_=>exact h.elim
structure SameBut (D:Nat→Prop) (a a':Act):Prop where
 size:a'.tmps.size=a.tmps.size
 get:∀t,¬D t→a'.tmps.getD t undef=a.tmps.getD t undef
theorem SameBut.refl (D:Nat→Prop)(a:Act):SameBut D a a:=⟨rfl,fun _ _=>rfl⟩
theorem SameBut.trans {D:Nat→Prop}{a b c:Act}(h:SameBut D a b)(k:SameBut D b c):SameBut D a c:=⟨k.size.trans h.size,fun t ht=>(k.get t ht).trans (h.get t ht)⟩
theorem SameBut.mono {D D':Nat→Prop}{a b:Act}(h:SameBut D a b)(hd:∀t,D t→D' t):SameBut D' a b:=⟨h.size,fun t ht=>h.get t fun e=>ht (hd t e)⟩
theorem SameBut.put (a:Act)(d:Option Tmp)(v:Value)(ds:List Deferred):SameBut (fun t=>d=some t) a ({a with defers:=ds}.put d v):=by
 refine⟨size_put _ _ _,fun t ht=>?_⟩;cases d with
 |none=>rfl
 |some u=>
  have:t≠u:=fun e=>ht (by rw[e]);rw[xM];simp[this]
theorem Oper.wp_same {P:Program}{o:Oper}{a:Act}{w:World}{K:Act→World→Prop}{Q:Exit→Act→World→Prop}(h:o.wp P a w (fun a' w'=>SameBut (fun t=>o.dst=some t) a a'→K a' w') Q):o.wp P a w K Q:=by
 unfold Oper.wp at h ⊢;generalize (execOp a.eval o).run P w=x at h ⊢;cases x with
 |ok v w'=>
  cases v with
  |value v=>exact h (SameBut.put a _ _ a.defers)
  |skip=>exact h (SameBut.put a _ _ a.defers)
  |defer d=>exact h (SameBut.put a _ _ _)
  |enter f args=>
   refine Calls.mono h fun e kO hh=>?_;cases e with
   |returned v=>exact hh (SameBut.put a _ _ a.defers)
   |panicked c=>exact hh
   |outgrown=>exact hh
  |row row args=>exact Rows.mono h fun v kO hh=>hh (SameBut.put a _ _ a.defers)
  |_=>exact h
 |halt v w'=>
  cases v with
  |panic v=>exact h
  |_=>exact h
def Ut (P:Program)(v:Value)(args:List Value)(w:World)(R:Value→World→Prop):Prop:=
 ∀(rd:Option Nat) (o:Oper) (a:Act) (x:Operand) (aa:Array Operand) (ts:Array TypeId) (K:Act→World→Prop) (Q:Exit→Act→World→Prop),
  o.op=.call {callee:=.value x,args:=aa,argTypes:=ts}→a.eval x=v→aa.toList.map a.eval=args→(∀u w',R u w'→K (a.put o.dst u) w')→o.wpIn (FR rd) 0 P a w K Q
def acA:Nat:=1000000009
def qN (C:Ctx)(Φ:aV)(w0:World)(σ0:Base):Prop:=∀J ys,C.yl=some (J,ys)→σ0.B=0∧(∀t fx cx w,σ0.F t fx cx w→∃xs,t=.list xs)∧
 ∀(xs ds':List D) (d:D),Φ acA [.list (xs++[.tup ds'])]=some d→∀(fx cx:Nat→Prop) (w1:World) (σ1:Im) (args:List Value),σ0.F (.list xs) fx cx w1→σ1.ok w1→qF C σ1 ys args ds'→
  (∀k o x,σ1.c k o=some x→¬cx k)→(∀k x,σ1.m k=some x→¬cx k)→
  (∀k o x,σ1.c k o=some x→σ0.c k o=some x∨w0.heap.size≤k)→(∀k x,σ1.m k=some x→σ0.m k=some x∨w0.heap.size≤k)→
  Ut C.P C.yv args w1 fun u w2=>∃b,d=.v (.bool b)∧u=.bool b∧Below 0 w1 w2∧(∀k,k<w1.heap.size→¬cx k→w2.heap[k]?=w1.heap[k]?)∧
   ∃pJ lN,σ0.F (.list (xs++[.tup ds'])) pJ lN w2∧(∀k,pJ k→k<w1.heap.size→fx k∨(∃o x,σ1.c k o=some x)∨(∃x,σ1.m k=some x∧x≠da))∧(∀k,lN k→k<w1.heap.size→cx k)
def Ky (gs:List (Nat×Bool))(J:Nat)(x:PE):PE:=
 match gs with
 |[]=>.app (.o J) (.lst [x])
 |_=>.pick (.nt (.imp gs (.con (.v (.bool false))))) (.app (.o J) (.lst [x])) (.o J)
def zd (C:Ctx)(S:St)(ops:Array Oper)(o:Oper):Option (St×List PI):=
 match o.dst,o.op,C.yl with
 |some dst,.call {callee:=.value (.tmp t),args:=args,..},some (J,ys)=>
  (pK S ops o).bind fun gs=>
    match kM S gs t with
    |.yv=>
     match(S.fzs (bR S gs args.toList)).o J with
     |.tr=>
      (kN C (S.fzs (bR S gs args.toList)) gs args.toList).bind fun u=>
        bif Ty.subs u.1 ys then some ((S.fzs (bR S gs args.toList)).setR dst (jE gs (.dat .bool)),[.setO J (Ky gs J (.tup u.2)),.call gs dst acA [.o J]]) else none
     |_=>none
    |_=>none
 |_,_,_=>none
def pA (C:Ctx)(S:St)(ops:Array Oper)(o:Oper):Option (St×List PI):=
 match zd C S ops o with
 |some r=>some r
 |none=>zc C S ops o
section
variable {C:Ctx} {S:St} {ρ:Env} {σ:Im} {own:Nat→Option Nat} {hv:Nat→Value} {w0:World} {σ0:Base} {A:Nat→Prop} {a:Act} {w:World} {gs:List (Nat×Bool)} {Φ:aV} {dst:Nat}
theorem apo (gs:List (Nat×Bool))(J:Nat)(x:PE)(ρ:Env):(Ky gs J x).ev ρ=if holds gs ρ=true then .list ((ρ.o J).l++[x.ev ρ]) else ρ.o J:=by
 cases gs with
 |nil=>simp[Ky,PE.ev,PE.evs,holds,D.l_list]
 |cons g gs=>
  simp only[Ky,PE.ev,PE.evs,D.b_bool,D.l_list,tL,Bool.not_not];cases holds (g::gs) ρ<;>rfl
theorem Inv.yielded (h:Inv C S ρ σ own hv w0 σ0 A a w)(hB:σ0.B=0){J:Nat}{ys:List Ty}(hJ:C.yl=some (J,ys))(HI:S.o J=.tr){w2:World}(hb:Below 0 w w2){t:D}{fx cx:Nat→Prop}(hf:FrOK σ own w0.heap.size σ0 w t fx cx)
 (hs:∀k,k<w.heap.size→¬cx k→w2.heap[k]?=w.heap[k]?) {t':D} {pJ lN:Nat→Prop} (hF:σ0.F t' pJ lN w2)
 (h1:∀k,pJ k→k<w.heap.size→fx k∨(∃o x,σ.c k o=some x)∨(∃x,σ.m k=some x∧x≠da)) (h2:∀k,lN k→k<w.heap.size→cx k):Inv C S (ρ.setO J t') σ own hv w0 σ0 A a w2:=by
 have bG:=σ0.sub _ _ _ _ hf.F;have dL:∀k o x,σ.c k o=some x→w2.heap[k]?=w.heap[k]?:=fun k o x e=>hs k (h.lt e) (hf.c k o x e);have zK:∀k x,σ.m k=some x→w2.heap[k]?=w.heap[k]?:=fun k x e=>hs k (h.ltm e) (hf.m k x e);have NV:∀k j,own k=some j→w2.heap[k]?=w.heap[k]?:=fun k j e=>hs k (h.owns k j e).2.1 fun hc=>hf.own k j e (bG k hc)
 refine⟨h.defers,⟨fun k o v e=>by rw[World.cell?_of_block (dL k o v e)];exact h.ok.c k o v e,fun k x e=>(h.ok.m k x e).keep (zK k x e)⟩,h.le,h.old,h.newc,h.newm,h.below.trans (hb.mono (by omega)),h.bw,
  fun k j e=>let⟨g1,g2,g3⟩:=h.owns k j e;⟨g1,vP g2 hb.size,g3⟩,fun u=>aE.mono (S:=S) (ρ:=ρ) (ρ':=ρ.setO J t') (.refl σ) (.refl S hv) (d:=ρ.r u) (fun _ _ _=>rfl) (fun gs s e=>(h.opts u gs s e).2) (h.regs u),fun j=>?_,h.opts,
  t',pJ,lN,⟨hF,fun k j e hk=>?_,fun k o x e hc=>hf.c k o x e (h2 k hc (h.lt e)),fun k x e hc=>hf.m k x e (h2 k hc (h.ltm e)),fun k e lT hk=>?_⟩,fun j hj=>?_⟩
 ·by_cases zH:j=J
  ·subst zH;rw[HI];trivial
  ·exact(h.objs j).mono (.refl σ) (.refl S hv) rfl (by simp[Env.setO,bk _ _ zH]) (fun k e=>⟨e,NV k j e⟩)
 ·obtain⟨_,g2,g3,g4⟩:=h.owns k j e;rcases h1 k hk g2 with e1|⟨o,x,e1⟩|⟨x,e1,_⟩
  ·exact hf.own k j e e1
  ·rw[g3 o] at e1;cases e1
  ·rw[g4] at e1;cases e1
 ·rcases h1 k hk (h.ltm e) with e1|⟨o,x,e1⟩|⟨x,e1,e2⟩
  ·exact hf.d k e lT e1
  ·have c1:=h.ok.c k o x e1;rcases h.ok.m k _ e with⟨m1,_⟩|⟨_,m2⟩
   ·exact m1 rfl
   ·simp[World.cell?,m2] at c1
  ·rw[e] at e1;cases e1;exact e2 rfl
 ·obtain⟨_,_,_,_,ht⟩:=h.frame;obtain⟨⟨ys',e1⟩,_⟩:=ht j hj;rw[hJ] at e1;cases e1;exact⟨⟨_,hJ⟩,aK _ _ _⟩
theorem aeO {rd:Option Nat}(h:Good C w0 σ0 S ρ A a w)(hC:CtxOK C σ0)(hY:qN C Φ w0 σ0){ops:Array Oper}{o:Oper}(ht:∀d,o.dst=some d→¬A d∧d<a.tmps.size)
 (hj:∀j want t,o.guard=some (j,want)→(ops[j]?).bind (·.dst)=some t→A t) {r:St×List PI} (hr:zd C S ops o=some r) {ρ':Env} (af:PI.runs Φ r.2 ρ=some ρ')
 {K:Act→World→Prop} {Q:Exit→Act→World→Prop} (hK:∀a' w',Good C w0 σ0 r.1 ρ' (fun u=>A u∨o.dst=some u) a' w'→SameBut (fun t=>o.dst=some t) a a'→K a' w'):
 if Region.wanted o (yielded ops a.tmps) then o.wpIn (FR rd) 0 C.P a w K Q else K (a.put o.dst undef) w:=by
 unfold zd at hr;split at hr
 case h_2=>cases hr
 rename_i _ _ dst t args ts J ys hd bY mP;simp only[ao] at hr;obtain⟨gs,ei,hr⟩:=hr;split at hr
 case h_2=>cases hr
 rename_i OA;split at hr
 case h_2=>cases hr
 rename_i HI;simp only[ao] at hr;obtain⟨u,hu,hr⟩:=hr;cases bG:Ty.subs u.1 ys<;>simp only[bG,cond_true,cond_false] at hr
 ·cases hr
 cases hr;have ux:=V3 h ei hj;rw[V4 h ei];obtain⟨σ,own,hv,i⟩:=h;obtain⟨σ1,dF,hle,i1⟩:=Inv.fzs (bR S gs args.toList) i;obtain⟨t1,t2⟩:=ht dst hd;have ib:(fun u=>A u∨o.dst=some u)=(fun u=>A u∨u=dst):=by funext u;rw[hd];simp[eq_comm]
 rw[ib] at hK;simp only[PI.runs,PI.run,ko,apo,ao] at af;cases hh:holds gs ρ with
 |false=>
  simp only[hh,tK,if_false] at af ⊢;have e1:ρ.setO J (ρ.o J)=ρ:=by
   cases ρ with|mk r o=>simp only[Env.setO];congr 1;funext x;rw[fK];split<;>simp_all
  rw[e1,hh] at af;obtain⟨ρ1,e2,e3⟩:=af;cases e2;cases e3;cases gs with
  |nil=>simp[holds] at hh
  |cons g bP=>
   have Df:=i1.passed t1 t2 ux hh (s:=.dat .bool) (fun _ _ e=>by cases e) (ρ.r dst);have e4:ρ.setR dst (ρ.r dst)=ρ:=by
        cases ρ with|mk r o=>simp only[Env.setR];congr 1;funext x;rw[fK];split<;>simp_all
   rw[e4] at Df;rw[hd];exact hK _ _ ⟨_,_,_,Df⟩ (by rw[hd];exact SameBut.put a (some dst) undef a.defers)
 |true=>
  simp only[hh,if_true] at af ⊢;have jh:=A6 i1 hC hh hu bG;obtain⟨tr,fx,cx,hf,wV⟩:=i1.frame;obtain⟨_,hρJ⟩:=wV J HI;obtain⟨hB,ajc,akw⟩:=hY J ys mP;obtain⟨xs,rfl⟩:=ajc _ _ _ _ hf.F;rw[hρJ] at af;simp only[D.l_list,PE.ev] at af;obtain⟨ρ1,e2,e3⟩:=af;cases e3;have WS:holds gs (ρ.setO J (.list (xs++[.tup (PE.evs ρ u.2)])))=true:=hh;rw[WS] at e2;simp only[cond_true,PE.evs,PE.ev,Env.setO,aK,ax] at e2;obtain⟨d,e4,e5⟩:=e2;have hy:=akw xs (PE.evs ρ u.2) d e4 fx cx w σ1 (args.toList.map a.eval) hf.F i1.ok jh hf.c hf.m i1.newc i1.newm;have cl:a.eval (.tmp t)=C.yv:=by
   have:=(m8 i hh t).1;rw[OA] at this;have h9:a.tmps.getD t undef=C.yv:=this;simpa [Act.eval] using h9
  refine hy rd o a (.tmp t) args ts K Q bY cl rfl fun v w2 kA=>?_;obtain⟨b,rfl,rfl,hb,hs,pJ,lN,hF,h1,h2⟩:=kA;have i2:=i1.yielded hB mP HI hb hf hs hF h1 h2;refine hK _ _ ?_ (SameBut.put a _ _ a.defers);rw[hd,←e5];change Good C w0 σ0 _ ((ρ.setO J (.list (xs++[.tup (PE.evs ρ u.2)]))).setR dst (.v (.bool b))) _ _ _;have hh3:holds gs ((ρ.setO J (.list (xs++[.tup (PE.evs ρ u.2)]))).setR dst (.v (.bool b)))=true:=by
   rw[Da (t:=dst) fun g hm e=>t1 (by rw[←e];exact ux g hm)];exact WS
  cases gs with
  |nil=>exact⟨_,_,_,i2.setReg t1 (s:=.dat .bool) (.bool b) t2 (fun _ _ e=>by cases e)⟩
  |cons g bP=>
   refine⟨_,_,_,i2.setReg t1 (s:=.opt (g::bP) (.dat .bool)) ⟨fun _=>.bool b,fun e=>absurd (hh3.symm.trans e) (by decide)⟩ t2 (fun gs s e=>?_)⟩;cases e;exact⟨ux,fun _ _ e=>by cases e⟩
theorem Hd {rd:Option Nat}(h:Good C w0 σ0 S ρ A a w)(hC:CtxOK C σ0)(aS:eD C)(hΦ:dQ C Φ)(hY:qN C Φ w0 σ0){ops:Array Oper}{o:Oper}(bj:oO o.op=true)(ht:∀d,o.dst=some d→¬A d∧d<a.tmps.size)
 (hj:∀j want t,o.guard=some (j,want)→(ops[j]?).bind (·.dst)=some t→A t) {r:St×List PI} (hr:pA C S ops o=some r) {ρ':Env} (af:PI.runs Φ r.2 ρ=some ρ')
 {K:Act→World→Prop} {Q:Exit→Act→World→Prop} (hK:∀a' w',Good C w0 σ0 r.1 ρ' (fun u=>A u∨o.dst=some u) a' w'→SameBut (fun t=>o.dst=some t) a a'→K a' w'):
 if Region.wanted o (yielded ops a.tmps) then o.wpIn (FR rd) 0 C.P a w K Q else K (a.put o.dst undef) w:=by
 unfold pA at hr;split at hr
 ·rename_i q hq;cases hr;exact aeO h hC hY ht hj hq af hK
 ·have:=aeN (K:=fun a' w'=>SameBut (fun t=>o.dst=some t) a a'→K a' w') (Q:=Q) h hC aS hΦ ht hj hr af (fun a' w' g _ hs=>hK a' w' g hs);split
  ·rename_i hw;rw[if_pos hw] at this;exact aal bj (Oper.wp_same this)
  ·rename_i hw;rw[if_neg hw] at this;exact this (SameBut.put a _ _ a.defers)
end
def om (C:Ctx)(ops:Array Oper):List Nat→St→Option (St×List PI)
 |[],S=>some (S,[])
 |i::l,S=>
  match ops[i]? with
  |some o=>(pA C S ops o).bind fun r=>(om C ops l r.1).map fun q=>(q.1,r.2++q.2)
  |none=>none
def rH (n:Nat)(ops:Array Oper):Bool:=
 gS (ops.toList.filterMap (·.dst))&&ops.toList.all fun o=>oO o.op&&match o.dst with|some d=>Nat.blt d n|none=>true
section
variable {C:Ctx} {S:St} {ρ:Env} {σ:Im} {own:Nat→Option Nat} {hv:Nat→Value} {w0:World} {σ0:Base} {A:Nat→Prop} {a:Act} {w:World} {gs:List (Nat×Bool)} {Φ:aV} {dst:Nat}
def mq (ops:Array Oper)(done:List Nat):Nat→Prop:=fun t=>∃i o,i∈done∧ops[i]?=some o∧o.dst=some t
theorem wc.dst_once {ops:Array Oper}(bj:(ops.toList.filterMap (·.dst)).Nodup){i j:Nat}{o o':Oper}{d:Nat}(hi:ops[i]?=some o)(hj:ops[j]?=some o')(hd:o.dst=some d)(ia:o'.dst=some d)(ay:i≠j):False:=by
 have key:∀(l:List Oper),(l.filterMap (·.dst)).Nodup→∀(i j:Nat) (o o':Oper),l[i]?=some o→l[j]?=some o'→o.dst=some d→o'.dst=some d→i=j:=by
  intro l
  induction l with
  |nil=>intro _ i j o o' hi;simp at hi
  |cons x l ih=>
   intro bj i j o o' hi hj hd ia;have cA:∀(k:Nat) (y:Oper),l[k]?=some y→y.dst=some d→d∈l.filterMap (·.dst):=fun k y hk hy=>tP.2 ⟨y,kl hk,hy⟩;cases hx:x.dst with
   |none=>
    rw[List.filterMap_cons_none hx] at bj;cases i with
    |zero=>simp at hi;subst hi;rw[hx] at hd;cases hd
    |succ i=>
     cases j with
     |zero=>simp at hj;subst hj;rw[hx] at ia;cases ia
     |succ j=>simp at hi hj;rw[ih bj i j o o' hi hj hd ia]
   |some y=>
    rw[List.filterMap_cons_some hx,np] at bj;cases i with
    |zero=>
     simp at hi;subst hi;rw[hx] at hd;cases hd;cases j with
     |zero=>rfl
     |succ j=>simp at hj;exact absurd (cA j o' hj ia) bj.1
    |succ i=>
     cases j with
     |zero=>
      simp at hj;subst hj;rw[hx] at ia;cases ia;simp at hi;exact absurd (cA i o hi hd) bj.1
     |succ j=>simp at hi hj;rw[ih bj.2 i j o o' hi hj hd ia]
 exact ay (key ops.toList bj i j o o' (by simpa using hi) (by simpa using hj) hd ia)
def qV (ops:Array Oper):Nat→Prop:=fun t=>∃o,o∈ops.toList∧o.dst=some t
theorem wc (hC:CtxOK C σ0)(aS:eD C)(hΦ:dQ C Φ)(hY:qN C Φ w0 σ0){ops:Array Oper}{n:Nat}(az:rH n ops=true){rd:Option Nat}{Q:Exit→Act→World→Prop}:
 ∀(l done:List Nat) {S:St} {ρ ρ':Env} {a:Act} {w:World} {r:St×List PI},(done++l).Nodup→(∀p i q o j want,l=p++i::q→ops[i]?=some o→o.guard=some (j,want)→j∈done++p)→
  a.tmps.size=n→Good C w0 σ0 S ρ (mq ops done) a w→om C ops l S=some r→PI.runs Φ r.2 ρ=some ρ'→
  (∀a' w',SameBut (qV ops) a a'→Good C w0 σ0 r.1 ρ' (mq ops (done++l)) a' w'→Q .normal a' w')→wpOpsIn (FR rd) 0 C.P ops Q l a w:=by
 simp only[rH,aj] at az;have bj:=mW az.1;intro l
 induction l with
 |nil=>
  intro done S ρ ρ' a w r _ _ aC h hr af hQ;simp only[om,aR] at hr;subst hr;rw[nR af] at hQ;simp only[wpOpsIn];exact hQ a w (.refl _ _) (by simpa using h)
 |cons i l ih=>
  intro done S ρ ρ' a w r Ng gN aC h hr af hQ;simp only[om] at hr;split at hr
  case h_2=>cases hr
  rename_i o ho;simp only[ao,ax] at hr;obtain⟨r1,jm,q,hq,rfl⟩:=hr;simp only[pf,ao] at af;obtain⟨ρ1,hρ1,hρ2⟩:=af;have rf:∀d,o.dst=some d→¬mq ops done d∧d<a.tmps.size:=by
   intro d hd;refine⟨fun⟨i',o',cw,dV,ia⟩=>?_,?_⟩
   ·
        have ay:i'≠i:=by
         intro e;subst e;rw[Bh] at Ng;exact Ng.2.2 i' cw i' (dR ..) rfl
        exact wc.dst_once bj dV ho ia hd ay
   ·have:=bz.1 az.2 o (by
     have:=gE ho;simpa using this)
    simp only[hd,aj] at this;rw[aC];simpa [jc] using this.2
  have hj:∀j want t,o.guard=some (j,want)→(ops[j]?).bind (·.dst)=some t→mq ops done t:=by
   intro j want t hg ht;have:=gN [] i l o j want rfl ho hg;simp only[lK] at this;rw[ao] at ht;obtain⟨oj,h1,h2⟩:=ht;exact⟨j,oj,this,h1,h2⟩
  have j9:oO o.op=true:=by
   have:=bz.1 az.2 o (by simpa using gE ho);simp only[aj] at this;exact this.1
  have main:=Hd (rd:=rd) (K:=wpOpsIn (FR rd) 0 C.P ops Q l) (Q:=Q) h hC aS hΦ hY j9 rf hj jm hρ1 (fun a' w' fC fh=>by
   have rn:=fh.size;refine ih (done++[i]) (by simpa using Ng) (fun p i' q' o' j want e dV aiL=>?_) (rn.trans aC) ?_ hq hρ2 (fun a2 w2 s2 g2=>hQ a2 w2 ((fh.mono fun t e=>⟨o,by simpa using gE ho,e⟩).trans s2) (by simpa using g2))
   ·have:=gN (i::p) i' q' o' j want (by rw[e];rfl) dV aiL;simpa using this
   ·have:(fun u=>mq ops done u∨o.dst=some u)=mq ops (done++[i]):=by
     funext u;apply propext;constructor
     ·rintro(⟨i',o',h1,h2,h3⟩|h1)
      ·exact⟨i',o',by simp[h1],h2,h3⟩
      ·exact⟨i,o,by simp,ho,h1⟩
     ·rintro⟨i',o',h1,h2,h3⟩;rcases cR.1 h1 with h4|h4
      ·exact .inl ⟨i',o',h4,h2,h3⟩
      ·simp at h4;subst h4;rw[ho] at h2;cases h2;exact .inr h3
    rw[←this];exact fC)
  simp only[wpOpsIn,ho];split
  ·rename_i hw;rw[if_pos hw] at main;exact main
  ·rename_i hw;rw[if_neg hw] at main;exact⟨fun _ _=>trivial,main⟩
end
end Cx
namespace Cx
open Go Go.RowKit
def Uv (S:St):AgC→Bool
 |.dat _=>true
 |.obj j ver=>Nat.beq ver (S.ver j)
def AgC.zero:AgC→AgC
 |.dat t=>.dat t
 |.obj j _=>.obj j 0
def fH (S:St):Sh→Sh
 |.none=>.none
 |.dat t=>.dat t
 |.obj j ver=>bif Nat.beq ver (S.ver j) then .obj j 0 else .none
 |.ptr j ver off=>bif Nat.beq ver (S.ver j) then .ptr j 0 off else .none
 |.eptr j ver size off=>bif Nat.beq ver (S.ver j) then .eptr j 0 size off else .none
 |.opt _ _=>.none
 |.yv=>.yv
 |.fclo f caps=>bif caps.all (fun c=>Nat.beq c.2 (S.ver c.1)) then .fclo f (caps.map fun c=>(c.1,0)) else .none
 |.agg l=>bif l.all (Uv S) then .agg (l.map AgC.zero) else .none
def iV (S:St):Ob→Ob
 |.box ag shs=>.box ag (shs.map (fH S))
 |ob=>ob
def St.norm (S:St):St:=⟨fun t=>fH S (S.r t),fun j=>iV S (S.o j),fun _=>0⟩
def jP:Sh→Sh→Sh
 |.dat a,.dat b=>bif Ty.sub a b then .dat b else bif Ty.sub b a then .dat a else .none
 |.obj j v,.obj k u=>bif Nat.beq j k&&Nat.beq v u then .obj j v else .none
 |.ptr j v o,.ptr k u p=>bif Nat.beq j k&&Nat.beq v u&&Nat.beq o p then .ptr j v o else .none
 |.eptr j v s o,.eptr k u t p=>bif Nat.beq j k&&Nat.beq v u&&Nat.beq s t&&Nat.beq o p then .eptr j v s o else .none
 |.yv,.yv=>.yv
 |.fclo f a,.fclo g b=>bif Nat.beq f g&&v3 a b then .fclo f a else .none
 |_,_=>.none
def xj:List Sh→List Sh→Option (List Sh)
 |[],[]=>some []
 |a::aa,b::bs=>(xj aa bs).map (jP a b::·)
 |_,_=>none
def nN:Ob→Ob→Ob
 |.fz a,.fz b=>bif Ty.beq a b then .fz a else .dead
 |.fbox a,.fbox b=>bif Ty.beq a b then .fbox a else .dead
 |.box ag aa,.box bg bs=>bif ag==bg then(match xj aa bs with|some cs=>.box ag cs|none=>.dead) else .dead
 |.row T e,.row U f=>bif Nat.beq T U&&Ty.beq e f then .row T e else .dead
 |.mp k e,.mp l f=>bif Ty.beq k l&&Ty.beq e f then .mp k e else .dead
 |.it k e,.it l f=>bif Ty.beq k l&&Ty.beq e f then .it k e else .dead
 |.tr,.tr=>.tr
 |_,_=>.dead
section
variable {C:Ctx} {S:St} {ρ:Env} {σ:Im} {own:Nat→Option Nat} {hv:Nat→Value} {w0:World} {σ0:Base} {A:Nat→Prop} {a:Act} {w:World} {gs:List (Nat×Bool)} {Φ:aV} {dst:Nat}
theorem I9 {s:Sh}{v:Value}{d:D}(h:aE C S ρ σ hv s v d):aE C S.norm ρ σ hv (fH S s) v d∧∀gs s',fH S s≠.opt gs s':=by
 cases s with
 |none=>exact⟨trivial,fun _ _ e=>by cases e⟩
 |dat t=>exact⟨h,fun _ _ e=>by cases e⟩
 |obj j ver=>
  simp only[fH];cases hb:Nat.beq ver (S.ver j)
  ·exact⟨trivial,fun _ _ e=>by cases e⟩
  ·exact⟨⟨aX _,fun _=>h.2 (aw hb)⟩,fun _ _ e=>by cases e⟩
 |ptr j ver off=>
  simp only[fH];cases hb:Nat.beq ver (S.ver j)
  ·exact⟨trivial,fun _ _ e=>by cases e⟩
  ·exact⟨⟨aX _,fun _=>h.2 (aw hb)⟩,fun _ _ e=>by cases e⟩
 |eptr j ver size off=>
  simp only[fH];cases hb:Nat.beq ver (S.ver j)
  ·exact⟨trivial,fun _ _ e=>by cases e⟩
  ·exact⟨⟨aX _,fun _=>h.2 (aw hb)⟩,fun _ _ e=>by cases e⟩
 |opt gs s=>exact⟨trivial,fun _ _ e=>by cases e⟩
 |yv=>exact⟨h,fun _ _ e=>by cases e⟩
 |agg l=>
  simp only[fH];cases hb:l.all (Uv S)
  ·exact⟨trivial,fun _ _ e=>by cases e⟩
  ·refine⟨?_,fun _ _ e=>by cases e⟩;obtain⟨vs,ds,h1,h2,h3,h4,h5⟩:=h;refine⟨vs,ds,h1,h2,by simpa using h3,by simpa using h4,fun i c hi=>?_⟩;simp only[cK,ax] at hi;obtain⟨c0,hc,rfl⟩:=hi;have:=bz.1 hb _ (kl hc);have h6:=h5 i c0 hc;cases c0 with
   |dat t=>exact h6
   |obj j ver=>exact⟨aX _,fun _=>h6.2 (aw this)⟩
 |fclo f caps=>
  simp only[fH];cases hb:caps.all (fun c=>Nat.beq c.2 (S.ver c.1))
  ·exact⟨trivial,fun _ _ e=>by cases e⟩
  ·refine⟨?_,fun _ _ e=>by cases e⟩;obtain⟨vs,h1,h2,h3⟩:=h;refine⟨vs,h1,by simpa using h2,fun i j ver hi=>?_⟩;simp only[cK,ax] at hi;obtain⟨⟨j',v'⟩,hc,e⟩:=hi;cases e;have:=bz.1 hb _ (kl hc);exact⟨aX _,fun _=>(h3 i _ _ hc).2 (aw this)⟩
theorem Inv.weaken (h:Inv C S ρ σ own hv w0 σ0 A a w){S':St}{ρ':Env}(hr:∀t,aE C S' ρ' σ hv (S'.r t) (a.tmps.getD t undef) (ρ'.r t))(ho:∀j,cC C S' ρ' σ own hv w w0.heap.size j (S'.o j))
 (hn:∀t gs s,S'.r t≠.opt gs s) (ht:∀j,S'.o j=.tr→S.o j=.tr∧ρ'.o j=ρ.o j):Inv C S' ρ' σ own hv w0 σ0 (fun _=>False) a w:=
 ⟨h.defers,h.ok,h.le,h.old,h.newc,h.newm,h.below,h.bw,h.owns,hr,ho,fun t gs s e=>absurd e (hn t gs s),by
   obtain⟨t,fx,cx,h1,h5⟩:=h.frame;exact⟨t,fx,cx,h1,fun j hj=>by rw[(ht j hj).2];exact h5 j (ht j hj).1⟩⟩
theorem YW {ob:Ob}(h:iV S ob=.tr):ob=.tr:=by
 cases ob<;>simp only[iV] at h<;>first|rfl|cases h
theorem al6 {x y:Ob}(h:nN x y=.tr):x=.tr∧y=.tr:=by
 cases x<;>cases y<;>simp only[nN] at h<;>first
  |exact⟨rfl,rfl⟩
  |(cases h;done)
  |skip
 ·rename_i a b;cases hb:Ty.beq a b<;>rw[hb] at h<;>cases h
 ·rename_i a b;cases hb:Ty.beq a b<;>rw[hb] at h<;>cases h
 ·rename_i ag aa bg bs;cases hb:ag==bg<;>rw[hb] at h
  ·cases h
  ·simp only[cond_true] at h;split at h<;>cases h
 ·rename_i T e U f;cases hb:(Nat.beq T U&&Ty.beq e f)<;>rw[hb] at h<;>cases h
 ·rename_i T e U f;cases hb:(Ty.beq T U&&Ty.beq e f)<;>rw[hb] at h<;>cases h
 ·rename_i T e U f;cases hb:(Ty.beq T U&&Ty.beq e f)<;>rw[hb] at h<;>cases h
theorem Inv.norm (h:Inv C S ρ σ own hv w0 σ0 A a w):Inv C S.norm ρ σ own hv w0 σ0 (fun _=>False) a w:=by
 refine h.weaken (fun t=>(I9 (h.regs t)).1) (fun j=>?_) (fun t=>(I9 (h.regs t)).2) (fun j hj=>⟨YW hj,rfl⟩);have aY:=h.objs j;show cC C S.norm ρ σ own hv w w0.heap.size j (iV S (S.o j));cases cU:S.o j with
 |box ag shs=>
  rw[cU] at aY;obtain⟨k,cs,T,ds,h1,h2,h3,h4,h5,h6,h7⟩:=aY;refine⟨k,cs,T,ds,h1,h2,h3,by simpa using h4,h5,by simpa using h6,fun i s hi=>?_⟩;simp only[cK,ax] at hi;obtain⟨s0,hs0,rfl⟩:=hi;have:=I9 (h7 i s0 hs0).2;exact⟨this.2,this.1⟩
 |_=>rw[cU] at aY;exact aY
theorem F5 {b:Bool}{s:Sh}{v:Value}{d:D}(hs:∀gs s',s≠.opt gs s')(h:b=true→aE C S ρ σ hv s v d):aE C S ρ σ hv (bif b then s else .none) v d∧∀gs s',(bif b then s else Sh.none)≠.opt gs s':=by
 cases b with
 |true=>exact⟨h rfl,hs⟩
 |false=>exact⟨trivial,fun _ _ e=>by cases e⟩
theorem YO {s u:Sh}{v:Value}{d:D}(h:aE C S ρ σ hv s v d):aE C S ρ σ hv (jP s u) v d∧∀gs s',jP s u≠.opt gs s':=by
 cases s<;>cases u<;>simp only[jP]<;>first
  |exact⟨trivial,fun _ _ e=>by cases e⟩
  |exact F5 (fun _ _ e=>by cases e) (fun _=>h)
  |exact⟨h,fun _ _ e=>by cases e⟩
  |skip
 rename_i a b;cases h1:Ty.sub a b
 ·exact F5 (fun _ _ e=>by cases e) (fun _=>h)
 ·exact⟨Rep.sub h h1,fun _ _ e=>by cases e⟩
theorem YP {s u:Sh}{v:Value}{d:D}(h:aE C S ρ σ hv u v d):aE C S ρ σ hv (jP s u) v d∧∀gs s',jP s u≠.opt gs s':=by
 cases s<;>cases u<;>simp only[jP]<;>first
  |exact⟨trivial,fun _ _ e=>by cases e⟩
  |exact⟨h,fun _ _ e=>by cases e⟩
  |skip
 ·rename_i a b;cases h1:Ty.sub a b
  ·exact F5 (fun _ _ e=>by cases e) (fun h2=>Rep.sub h h2)
  ·exact⟨h,fun _ _ e=>by cases e⟩
 all_goals
  refine F5 (fun _ _ e=>by cases e) (fun hb=>?_);simp only[aj] at hb
  first
   |(obtain⟨⟨⟨h1,h2⟩,h3⟩,h4⟩:=hb;rw[aw h1,aw h2,aw h3,aw h4];exact h)
   |(obtain⟨⟨h1,h2⟩,h3⟩:=hb;rw[aw h1,aw h2,aw h3];exact h)
   |(obtain⟨h1,h2⟩:=hb;rw[aw h1,aw h2];exact h)
   |(obtain⟨h1,h2⟩:=hb;rw[aw h1,L1 _ _ h2];exact h)
theorem O3:∀(aa bs cs:List Sh),xj aa bs=some cs→cs.length=aa.length∧cs.length=bs.length∧∀(i:Nat) (c:Sh),cs[i]?=some c→∃x y,aa[i]?=some x∧bs[i]?=some y∧c=jP x y
 |[],[],cs,h=>by simp[xj] at h;subst h;simp
 |[],b::bs,cs,h=>by simp[xj] at h
 |a::aa,[],cs,h=>by simp[xj] at h
 |a::aa,b::bs,cs,h=>by
  simp only[xj,ax] at h;obtain⟨ds,hd,rfl⟩:=h;obtain⟨h1,h2,h3⟩:=O3 aa bs ds hd;refine⟨by simp[h1],by simp[h2],fun i c hi=>?_⟩;cases i with
  |zero=>simp at hi;exact⟨a,b,rfl,rfl,hi.symm⟩
  |succ i=>simp at hi;simpa using h3 i c hi
theorem al4 {j B:Nat}{x y:Ob}(h:cC C S ρ σ own hv w B j x):cC C S ρ σ own hv w B j (nN x y):=by
 cases x<;>cases y<;>simp only[nN]<;>first
  |trivial
  |(rename_i a b;cases Ty.beq a b;·trivial
    ·exact h)
  |skip
 ·rename_i ag aa bg bs;cases ag==bg
  ·trivial
  ·simp only[cond_true];split
   ·rename_i cs dL;obtain⟨l1,l2,pW⟩:=O3 aa bs cs dL;obtain⟨k,cells,T,ds,h1,h2,h3,h4,h5,h6,h7⟩:=h;refine⟨k,cells,T,ds,h1,h2,h3,by omega,h5,by omega,fun i s hi=>?_⟩;obtain⟨x,y,hx,hy,rfl⟩:=pW i s hi;have:=YO (u:=y) (h7 i x hx).2;exact⟨this.2,this.1⟩
   ·trivial
 ·rename_i T e U f;cases Nat.beq T U&&Ty.beq e f
  ·trivial
  ·exact h
 ·rename_i T e U f;cases Ty.beq T U&&Ty.beq e f
  ·trivial
  ·exact h
 ·rename_i T e U f;cases Ty.beq T U&&Ty.beq e f
  ·trivial
  ·exact h
theorem al5 {j B:Nat}{x y:Ob}(h:cC C S ρ σ own hv w B j y):cC C S ρ σ own hv w B j (nN x y):=by
 cases x<;>cases y<;>simp only[nN]<;>first
  |trivial
  |skip
 ·rename_i a b;cases hb:Ty.beq a b
  ·trivial
  ·rw[Ty.beq_eq _ _ hb];exact h
 ·rename_i a b;cases hb:Ty.beq a b
  ·trivial
  ·rw[Ty.beq_eq _ _ hb];exact h
 ·rename_i ag aa bg bs;cases ag==bg
  ·trivial
  ·simp only[cond_true];split
   ·rename_i cs dL;obtain⟨l1,l2,pW⟩:=O3 aa bs cs dL;obtain⟨k,cells,T,ds,h1,h2,h3,h4,h5,h6,h7⟩:=h;refine⟨k,cells,T,ds,h1,h2,h3,by omega,h5,by omega,fun i s hi=>?_⟩;obtain⟨x,y,hx,hy,rfl⟩:=pW i s hi;have:=YP (s:=x) (h7 i y hy).2;exact⟨this.2,this.1⟩
   ·trivial
 ·rename_i T e U f;cases hb:(Nat.beq T U&&Ty.beq e f)
  ·trivial
  ·simp only[aj] at hb;rw[aw hb.1,Ty.beq_eq _ _ hb.2];exact h
 ·rename_i T e U f;cases hb:(Ty.beq T U&&Ty.beq e f)
  ·trivial
  ·simp only[aj] at hb;rw[Ty.beq_eq _ _ hb.1,Ty.beq_eq _ _ hb.2];exact h
 ·rename_i T e U f;cases hb:(Ty.beq T U&&Ty.beq e f)
  ·trivial
  ·simp only[aj] at hb;rw[Ty.beq_eq _ _ hb.1,Ty.beq_eq _ _ hb.2];exact h
end
end Cx
namespace Cx
open Go Go.RowKit
section
variable {C:Ctx} {S T:St} {ρ ρ':Env} {σ:Im} {own:Nat→Option Nat} {hv:Nat→Value} {w0:World} {σ0:Base} {A:Nat→Prop} {a:Act} {w:World} {gs:List (Nat×Bool)} {Φ:aV} {dst:Nat}
theorem Inv.env (h:Inv C S ρ σ own hv w0 σ0 (fun _=>False) a w)(hn:∀t gs s,S.r t≠.opt gs s)(hr:∀t,isNone (S.r t)=false→ρ'.r t=ρ.r t)(ho:∀j,oL (S.o j)=false→ρ'.o j=ρ.o j):
 Inv C S ρ' σ own hv w0 σ0 (fun _=>False) a w:=by
 refine h.weaken (fun t=>?_) (fun j=>?_) hn (fun j hj=>⟨hj,ho j (by rw[hj];rfl)⟩)
 ·cases hs:isNone (S.r t) with
  |true=>cases hc:S.r t<;>rw[hc] at hs<;>simp[isNone] at hs;trivial
  |false=>
   rw[hr t hs];exact aE.mono' (.refl σ) (.refl S hv) (hn t) (h.regs t)
 ·cases hs:oL (S.o j) with
  |true=>cases hc:S.o j<;>rw[hc] at hs<;>simp[oL] at hs;trivial
  |false=>exact(h.objs j).mono (.refl σ) (.refl S hv) rfl (ho j hs) (fun k hk=>⟨hk,rfl⟩)
end
end Cx
namespace Cx
open Go Go.RowKit
structure Snap where
 rs:List Sh
 os:List Ob
 deriving Inhabited
def dY:List Nat→List Ob→Nat→Ob
 |i::is,o::os,j=>bif Nat.beq i j then o else dY is os j
 |_,_,_=>.dead
def cQ:Sh→Sh
 |.opt _ _=>.none
 |s=>s
def Snap.st (ids:List Nat)(s:Snap):St:=⟨fun t=>cQ (s.rs.getD t .none),fun j=>dY ids s.os j,fun _=>0⟩
def St.snap (n:Nat)(ids:List Nat)(S:St):Snap:=⟨(List.range n).map fun t=>fH S (S.r t),ids.map fun j=>iV S (S.o j)⟩
def Snap.beq (a b:Snap):Bool:=xL a.rs b.rs&&Ad a.os b.os
theorem Snap.beq_eq (a b:Snap)(h:a.beq b=true):a=b:=by
 cases a;cases b;simp only[Snap.beq,aj] at h;rw[Rr _ _ h.1,Zc _ _ h.2]
def Snap.meet (a b:Snap):Snap:=⟨List.zipWith jP a.rs b.rs,List.zipWith nN a.os b.os⟩
theorem ard (s:Sh):∀gs s',cQ s≠.opt gs s':=by
 intro gs s' e;cases s<;>simp[cQ] at e
theorem Snap.noOpt (ids:List Nat)(s:Snap):∀t gs s',(s.st ids).r t≠.opt gs s':=fun t=>ard _
section
variable {C:Ctx} {S:St} {ρ:Env} {σ:Im} {own:Nat→Option Nat} {hv:Nat→Value} {w0:World} {σ0:Base} {A:Nat→Prop} {a:Act} {w:World} {n:Nat} {ids:List Nat}
theorem DO (f:Nat→Ob)(P:Ob→Prop)(hd:P .dead)(j:Nat)(hf:P (f j)):∀ids:List Nat,P (dY ids (ids.map f) j)
 |[]=>hd
 |i::is=>by
  simp only[gG,dY];cases hb:Nat.beq i j
  ·exact DO f P hd j hf is
  ·rw[aw hb];exact hf
theorem KH {s:Sh}{v:Value}{d:D}(h:aE C S ρ σ hv s v d):aE C S ρ σ hv (cQ s) v d:=by
 cases s<;>first|exact h|trivial
theorem Inv.snap (h:Inv C S ρ σ own hv w0 σ0 A a w)(n:Nat)(ids:List Nat):Inv C ((S.snap n ids).st ids) ρ σ own hv w0 σ0 (fun _=>False) a w:=by
 have h1:=h.norm;have hc:Compat S.norm hv ((S.snap n ids).st ids) hv:=⟨fun _=>aX _,fun _ _=>rfl⟩
 refine h1.weaken (fun t=>?_) (fun j=>?_) (Snap.noOpt _ _) (fun j hj=>⟨DO (fun j=>iV S (S.o j)) (fun ob=>ob=.tr→iV S (S.o j)=.tr) (fun e=>by cases e) j id ids hj,rfl⟩)
 ·refine aE.mono' (ρ:=ρ) (.refl σ) hc (Snap.noOpt _ _ t) ?_;show aE C S.norm ρ σ hv (cQ (((List.range n).map fun t=>fH S (S.r t)).getD t .none)) _ _;refine KH ?_;rw[aH,cK];by_cases ht:t<n
  ·rw[qK ht];exact h1.regs t
  ·rw[rX (by simpa using ht)];trivial
 ·have ho:=(h1.objs j).mono (.refl σ) hc (w:=w) (w':=w) rfl rfl (fun k hk=>⟨hk,rfl⟩);exact DO (fun j=>iV S (S.o j)) (fun ob=>cC C _ ρ σ own hv w w0.heap.size j ob) trivial j ho ids
theorem KN {f:Sh→Sh→Sh}:∀(x y:List Sh) (t:Nat),(List.zipWith f x y).getD t .none=.none∨∃s u,x.getD t .none=s∧y.getD t .none=u∧(List.zipWith f x y).getD t .none=f s u
 |[],_,t=>.inl (by simp)
 |_::_,[],t=>.inl (by simp)
 |a::aa,b::bs,0=>.inr ⟨a,b,rfl,rfl,rfl⟩
 |a::aa,b::bs,t+1=>by simpa using KN (f:=f) aa bs t
theorem IX {f:Ob→Ob→Ob}:∀(ids:List Nat) (x y:List Ob) (j:Nat),dY ids (List.zipWith f x y) j=.dead∨dY ids (List.zipWith f x y) j=f (dY ids x j) (dY ids y j)
 |[],_,_,_=>.inl rfl
 |_::_,[],_,_=>.inl rfl
 |_::_,_::_,[],_=>.inl rfl
 |i::is,a::aa,b::bs,j=>by
  simp only[List.zipWith_cons_cons,dY];cases Nat.beq i j
  ·exact IX is aa bs j
  ·exact .inr rfl
theorem arb {s u:Sh}{v:Value}{d:D}(h:aE C S ρ σ hv (cQ s) v d):aE C S ρ σ hv (cQ (jP s u)) v d:=by
 cases hs:s with
 |opt gs s'=>cases u<;>simp[jP,cQ,aE]
 |_=>rw[hs] at h;exact KH (YO h).1
theorem arc {s u:Sh}{v:Value}{d:D}(h:aE C S ρ σ hv (cQ u) v d):aE C S ρ σ hv (cQ (jP s u)) v d:=by
 cases hs:u with
 |opt gs s'=>cases s<;>simp[jP,cQ,aE]
 |_=>rw[hs] at h;exact KH (YP h).1
theorem YQ {x y:Snap}{j:Nat}(h:((x.meet y).st ids).o j=.tr):(x.st ids).o j=.tr∧(y.st ids).o j=.tr:=by
 change dY ids (List.zipWith nN x.os y.os) j=.tr at h;rcases IX (f:=nN) ids x.os y.os j with h0|h0
 ·rw[h0] at h;cases h
 ·rw[h0] at h;exact al6 h
theorem Snap.meet_ok1 {x y:Snap}(h:Inv C (x.st ids) ρ σ own hv w0 σ0 A a w):Inv C ((x.meet y).st ids) ρ σ own hv w0 σ0 (fun _=>False) a w:=by
 have hc:Compat (x.st ids) hv ((x.meet y).st ids) hv:=⟨fun _=>aX _,fun _ _=>rfl⟩
 refine h.weaken (fun t=>?_) (fun j=>?_) (Snap.noOpt _ _) (fun j hj=>⟨(YQ hj).1,rfl⟩)
 ·refine aE.mono' (ρ:=ρ) (.refl σ) hc (Snap.noOpt _ _ t) ?_;show aE C (x.st ids) ρ σ hv (cQ ((List.zipWith jP x.rs y.rs).getD t .none)) _ _;rcases KN (f:=jP) x.rs y.rs t with h0|⟨s,u,h1,h2,h3⟩
  ·rw[h0];trivial
  ·rw[h3];exact arb (by rw[←h1];exact h.regs t)
 ·refine cC.mono (S:=x.st ids) (ρ:=ρ) (own:=own) (hv:=hv) (.refl σ) hc (w:=w) rfl rfl (fun k hk=>⟨hk,rfl⟩) ?_;show cC C _ ρ σ own hv w w0.heap.size j (dY ids (List.zipWith nN x.os y.os) j);rcases IX (f:=nN) ids x.os y.os j with h0|h0
  ·rw[h0];trivial
  ·rw[h0];exact al4 (h.objs j)
theorem Snap.meet_ok2 {x y:Snap}(h:Inv C (y.st ids) ρ σ own hv w0 σ0 A a w):Inv C ((x.meet y).st ids) ρ σ own hv w0 σ0 (fun _=>False) a w:=by
 have hc:Compat (y.st ids) hv ((x.meet y).st ids) hv:=⟨fun _=>aX _,fun _ _=>rfl⟩
 refine h.weaken (fun t=>?_) (fun j=>?_) (Snap.noOpt _ _) (fun j hj=>⟨(YQ hj).2,rfl⟩)
 ·refine aE.mono' (ρ:=ρ) (.refl σ) hc (Snap.noOpt _ _ t) ?_;show aE C (y.st ids) ρ σ hv (cQ ((List.zipWith jP x.rs y.rs).getD t .none)) _ _;rcases KN (f:=jP) x.rs y.rs t with h0|⟨s,u,h1,h2,h3⟩
  ·rw[h0];trivial
  ·rw[h3];exact arc (by rw[←h2];exact h.regs t)
 ·refine cC.mono (S:=y.st ids) (ρ:=ρ) (own:=own) (hv:=hv) (.refl σ) hc (w:=w) rfl rfl (fun k hk=>⟨hk,rfl⟩) ?_;show cC C _ ρ σ own hv w w0.heap.size j (dY ids (List.zipWith nN x.os y.os) j);rcases IX (f:=nN) ids x.os y.os j with h0|h0
  ·rw[h0];trivial
  ·rw[h0];exact al5 (h.objs j)
end
end Cx
namespace Cx
open Go Go.RowKit
def uQ (C:Ctx)(S:St)(T:TypeId)(x:Operand):List Nat:=
 match fp S [] x,qh C.P T,C.P.info? T with
 |.ptr j _ off,some true,some inf=>(match S.o j with|.box _ shs=>BH ((shs.drop off).take inf.size)|_=>[])
 |_,_,_=>[]
def AR (C:Ctx)(S:St):ResultVar→Option (St×Ty×PE)
 |.tmp t=>(use C (S.fzs (bR S [] [.tmp t])) [] (.tmp t)).map fun x=>(S.fzs (bR S [] [.tmp t]),x.1,x.2)
 |.cell b T=>
  match tg C (S.fzs (uQ C S T (.tmp b))) [] 0 T (.tmp b) with
  |some (.dat ty,[.setR 0 e])=>some (S.fzs (uQ C S T (.tmp b)),ty,e)
  |some (.obj j ver,[.setR _ _])=>
   bif Nat.beq ver (((S.fzs (uQ C S T (.tmp b))).fz j).ver j) then
    match((S.fzs (uQ C S T (.tmp b))).fz j).o j with
    |.fz ty=>some ((S.fzs (uQ C S T (.tmp b))).fz j,ty,.o j)
    |_=>none
   else none
  |_=>none
def tB (C:Ctx):List ResultVar→St→Option (St×List Ty×List PE)
 |[],S=>some (S,[],[])
 |x::xs,S=>(AR C S x).bind fun r=>(tB C xs r.1).map fun q=>(q.1,r.2.1::q.2.1,r.2.2::q.2.2)
def abD (C:Ctx)(fn:Func)(S:St)(res:Ty):Option PE:=
 (tB C fn.results.toList S).bind fun r=>
    match r.2.1,r.2.2 with
    |[ty],[e]=>bif Ty.sub ty res then some e else none
    |fY,es=>bif Ty.sub (.tup fY) res then some (.tup es) else none
def abF (C:Ctx)(fn:Func)(S:St)(T:TypeId)(e:Ty):Option PE:=
 match fn.results.toList with
 |[.tmp t]=>
  match kM S [] t with
  |.obj j ver=>bif Nat.beq ver (S.ver j) then(match S.o j with|.row U f=>bif Nat.beq U T&&Ty.beq f e then some (.o j) else none|_=>none) else none
  |_=>none
 |[.cell b U]=>
  match tg C S [] 0 U (.tmp b) with
  |some (.obj j ver,[.setR _ _])=>bif Nat.beq ver (S.ver j) then(match S.o j with|.row U f=>bif Nat.beq U T&&Ty.beq f e then some (.o j) else none|_=>none) else none
  |_=>none
 |_=>none
def IM (S:St):Nat→List Sh→Bool
 |_,[]=>true
 |t,s::l=>tl s&&((nJ s||isNone s||Sh.beq (S.r t) s)&&IM S (t+1) l)
def OE (S:St)(shs:List Sh)(obs:List (Nat×Ob)):Bool:=IM S 0 shs&&obs.all fun x=>Ob.beq (S.o x.1) x.2
def Rf (fY:List Ty)(es:List PE)(res:Ty):Option PE:=
 match fY,es with
 |[ty],[e]=>bif Ty.sub ty res then some e else none
 |fY,es=>bif Ty.sub (.tup fY) res then some (.tup es) else none
def abE (C:Ctx)(fn:Func)(S:St)(res:Ty)(shs:List Sh)(obs:List (Nat×Ob)):Option PE:=
 (tB C fn.results.toList S).bind fun r=>bif OE r.1 shs obs then(Rf r.2.1 r.2.2 res).map fun e=>.tup (e::obs.map fun x=>.o x.1) else none
def mi (S:St):List AgC→List RC→Bool
 |[],[]=>true
 |.dat t::a,.dat u::l=>Ty.sub t u&&t.one&&mi S a l
 |.obj j ver::a,.row T e::l=>Nat.beq ver (S.ver j)&&(match S.o j with|.row U f=>Nat.beq U T&&Ty.beq f e|_=>false)&&mi S a l
 |_,_=>false
def oe:List AgC→List Nat
 |[]=>[]
 |.dat _::l=>oe l
 |.obj j _::l=>j::oe l
def mA (x:PE):List AgC→Nat→List PE
 |[],_=>[]
 |.dat _::l,i=>.cell x i::mA x l (i+1)
 |.obj j _::l,i=>.o j::mA x l (i+1)
def abH (C:Ctx)(fn:Func)(S:St)(l:List RC):Option PE:=
 match fn.results.toList with
 |[.tmp t]=>
  match kM S [] t with
  |.agg a=>bif mi S a l&&gS (oe a) then some (.mk (mA (.r t) a 0)) else none
  |_=>none
 |[.cell b U]=>
  match tg C S [] 0 U (.tmp b) with
  |some (.agg a,[.setR t0 e])=>bif (mi S a l&&gS (oe a))&&Nat.beq t0 0 then some (.mk (mA e a 0)) else none
  |_=>none
 |_=>none
def rB:List AgC→Nat→Option Nat
 |[],_=>none
 |.dat _::l,j=>(rB l j).map (·+1)
 |.obj i _::l,j=>bif Nat.beq i j then some 0 else(rB l j).map (·+1)
def xH (C:Ctx)(fn:Func)(s:Sig)(S:St):Option PE:=
 match s.mode with
 |.ob shs obs=>abE C fn S s.res shs obs
 |.dat=>abD C fn S s.res
 |.rows l=>abH C fn S l
 |.it J=>match fn.results.toList,S.o J with|[],.tr=>some (.o J)|_,_=>none
 |.row T e=>abF C fn S T e
def Kc (P:Program)(tmps:Array Value)(w:World):ResultVar→Value→Prop
 |.tmp t,v=>v=tmps.getD t undef
 |.cell a T,v=>∃k,tmps.getD a undef=.pointer (some k)∧(loadVar T k).run P w=.ok v w
def Kd (P:Program)(tmps:Array Value)(w:World):List ResultVar→List Value→Prop
 |[],[]=>True
 |x::xs,v::vs=>Kc P tmps w x v∧Kd P tmps w xs vs
 |_,_=>False
def uW:List Value→Value
 |[v]=>v
 |vs=>.tuple vs.toArray
section
variable {C:Ctx} {S:St} {ρ:Env} {σ:Im} {own:Nat→Option Nat} {hv:Nat→Value} {w0:World} {σ0:Base} {A:Nat→Prop} {a:Act} {w:World} {gs:List (Nat×Bool)} {Φ:aV} {dst:Nat}
theorem Yy {P:Program}{tmps:Array Value}{w:World}(f:ResultVar→Sem Value)(WI:∀t,f (.tmp t)=pure (tmps.getD t undef))(WJ:∀b T,f (.cell b T)=(do loadVar T (←asAddr (tmps.getD b undef)))):
 ∀(l:List ResultVar) (vs:List Value),Kd P tmps w l vs→(l.mapM f).run P w=.ok vs w
 |[],[],_=>by simp[Sem.run_pure]
 |x::l,v::vs,h=>by
  obtain⟨hx,Oy⟩:=h;have ih:=Yy f WI WJ l vs Oy;rw[Ub];have h1:(f x).run P w=.ok v w:=by
   cases x with
   |tmp t=>rw[WI];simp only[Kc] at hx;subst hx;simp[Sem.run_pure]
   |cell b T=>
    obtain⟨k,h1,h2⟩:=hx;rw[WJ,h1];simp[asAddr,h2]
  simp[Sem.run_bind,h1,ih,Sem.run_pure,Result.andThen_ok]
theorem xG {P:Program}{fn:Func}{tmps:Array Value}{w:World}{vs:List Value}(h:Kd P tmps w fn.results.toList vs):
 (results fn tmps).run P w=.ok (uW vs) w:=by
 unfold results;rw[Array.mapM_eq_mapM_toList];simp only[Sem.run_bind];simp only[bind_map_left,map_eq_pure_bind,Sem.run_bind,bind_assoc,pure_bind];rw[Yy (tmps:=tmps) _ (fun t=>rfl) (fun b T=>rfl) _ _ h];simp only[Result.andThen_ok,Sem.run_pure];rcases vs with _|⟨v,_|⟨u,vs⟩⟩<;>simp[Sem.run_pure,uW]
theorem IU {o:Oper}{T:TypeId}{b:Nat}{v:Value}(ho:o.op=.load T (.tmp b))(hx:(execOp a.eval o).run C.P w=.ok (.value v) w):Kc C.P a.tmps w (.cell b T) v:=by
 have he:a.eval (.tmp b)=a.tmps.getD b undef:=by simp[Act.eval]
 simp only[execOp,ho,Instr.loadAt,he] at hx;cases hp:a.tmps.getD b undef with
 |pointer p=>
  cases p with
  |none=>rw[hp] at hx;simp[Instr.sureAddr] at hx
  |some k=>
   rw[hp] at hx;refine⟨k,hp,?_⟩;simp[Instr.sureAddr] at hx;cases hr:(loadVar T k).run C.P w with
   |ok u w'=>rw[hr] at hx;simp at hx;rw[hx.1,hx.2]
   |halt u w'=>rw[hr] at hx;simp at hx
 |_=>rw[hp] at hx;simp[Instr.sureAddr] at hx
theorem aox (h:Inv C S ρ σ own hv w0 σ0 A a w)(hC:CtxOK C σ0){x:ResultVar}{r:St×Ty×PE}(hr:AR C S x=some r):
 ∃σ' own' v,σ.le σ'∧Inv C r.1 ρ σ' own' hv w0 σ0 A a w∧Kc C.P a.tmps w x v∧Rep C.cap σ' r.2.1 v (r.2.2.ev ρ):=by
 cases x with
 |tmp t=>
  simp only[AR,ax] at hr;obtain⟨y,hy,rfl⟩:=hr;obtain⟨σ1,dF,hle,h1⟩:=Inv.fzs (bR S [] [.tmp t]) h;refine⟨σ1,dF,a.tmps.getD t undef,hle,h1,rfl,?_⟩;have:=cB (gs:=[]) h1 hC rfl hy;simpa [Act.eval] using this
 |cell b T=>
  simp only[AR] at hr;obtain⟨σ1,dF,hle,h1⟩:=Inv.fzs (uQ C S T (.tmp b)) h;generalize Wo:S.fzs (uQ C S T (.tmp b))=S1 at hr h1
  let o:Oper:={(default:Oper) with op:=.load T (.tmp b)}
  split at hr
  ·rename_i ty e hl;cases hr;have hq:=D0 (Φ:=fun _ _=>none) (dst:=0) (gs:=[]) h1 hC rfl hl (o:=o) rfl;obtain⟨v,d,e1,e2,e3,e4⟩:=hq _ rfl;have hd:d=e.ev ρ:=by
        have:=congrArg (fun x:Env=>x.r 0) e1;simpa [Env.setR,aK] using this.symm
   subst hd;exact⟨σ1,dF,v,hle,h1,IU rfl e2,e3⟩
  ·rename_i j ver t0 e0 hl;have hq:=D0 (Φ:=fun _ _=>none) (dst:=0) (gs:=[]) h1 hC rfl hl (o:=o) rfl;obtain⟨v,d,e1,e2,e3,e4⟩:=hq _ rfl;cases hb:Nat.beq ver ((S1.fz j).ver j)<;>simp only[hb,cond_true,cond_false] at hr
   ·cases hr
   split at hr
   case h_2=>cases hr
   rename_i ty ba;cases hr;obtain⟨σ2,jo,j8,h2⟩:=h1.fz j;refine⟨σ2,jo,v,hle.trans j8,h2,IU rfl e2,?_⟩;have ho:=h2.objs j;rw[ba] at ho;have dO:ver=S1.ver j:=by rw[aw hb,(Hr S1 j).1]
   rw[e3.2 dO];exact ho.2
  ·cases hr
theorem Re (hC:CtxOK C σ0):∀(l:List ResultVar) {S:St} {σ:Im} {own:Nat→Option Nat} {r:St×List Ty×List PE},Inv C S ρ σ own hv w0 σ0 A a w→tB C l S=some r→
 ∃σ' own' vs,σ.le σ'∧Inv C r.1 ρ σ' own' hv w0 σ0 A a w∧Kd C.P a.tmps w l vs∧vs.length=r.2.1.length∧r.2.2.length=r.2.1.length∧
  ∀(i:Nat) (t:Ty),r.2.1[i]?=some t→Rep C.cap σ' t (vs.getD i undef) ((PE.evs ρ r.2.2).getD i .none)
 |[],S,σ,own,r,h,hr=>by
  simp only[tB,aR] at hr;subst hr;exact⟨σ,own,[],.refl σ,h,trivial,rfl,rfl,fun i t e=>by simp at e⟩
 |x::l,S,σ,own,r,h,hr=>by
  simp only[tB,ao,ax] at hr;obtain⟨r1,h1,q,h2,rfl⟩:=hr;obtain⟨σ1,dF,v,hle,i1,hx,bN⟩:=aox h hC h1;obtain⟨σ2,jo,vs,j8,i2,Oy,j7,rh,nF⟩:=Re hC l i1 h2;refine⟨σ2,jo,v::vs,hle.trans j8,i2,⟨hx,Oy⟩,by simp[j7],by simp[rh],fun i t e=>?_⟩;cases i with
  |zero=>simp at e;subst e;simpa [PE.evs] using bN.mono j8
  |succ i=>simp at e;simpa [PE.evs] using nF i t e
def FV (C:Ctx)(s:Sig)(σ:Im)(own:Nat→Option Nat)(w0 w:World)(tmps:Array Value)(d:D)(v:Value):Prop:=
 ∀shs obs,s.mode=.ob shs obs→∃hv dr os,d=.tup (dr::os)∧os.length=obs.length∧(∀k j,own k=some j→w0.heap.size≤k∧k<w.heap.size∧(∀o,σ.c k o=none)∧σ.m k=none)∧
  (∀(t:Nat) (sh:Sh),shs[t]?=some sh→nJ sh=false→∀d,aE C (gj shs obs) (mX obs [] os) σ hv sh (tmps.getD t undef) d)∧(∀j,cC C (gj shs obs) (mX obs [] os) σ own hv w w0.heap.size j (eN obs j))∧Rep C.cap σ s.res v dr
theorem FV.no {C:Ctx}{s:Sig}{σ:Im}{own:Nat→Option Nat}{w0 w:World}{tmps:Array Value}{d:D}{v:Value}(h:qj s.mode=false):FV C s σ own w0 w tmps d v:=fun shs obs e=>by rw[e] at h;cases h
def Lc (C:Ctx)(w0:World)(σ0:Base)(fn:Func)(s:Sig)(d:D)(a:Act)(w:World):Prop:=
 ∃v σ,(∃own t fx cx,FrOK σ own w0.heap.size σ0 w t fx cx∧(∀J,s.mode=.it J→d=t)∧FV C s σ own w0 w a.tmps d v)∧(results fn a.tmps).run C.P w=.ok v w∧σ0.le σ∧σ.ok w∧Below σ0.B w0 w∧
  (∀k o x,σ.c k o=some x→σ0.c k o=some x∨w0.heap.size≤k)∧(∀k x,σ.m k=some x→σ0.m k=some x∨w0.heap.size≤k)∧mz C s σ w0 w v d
theorem Inv.fr (h:Inv C S ρ σ own hv w0 σ0 A a w){s:Sig}{d:D}{v:Value}(hm:∀J,s.mode≠.it J)(ho:qj s.mode=false):∃own t fx cx,FrOK σ own w0.heap.size σ0 w t fx cx∧(∀J,s.mode=.it J→d=t)∧FV C s σ own w0 w a.tmps d v:=by
 obtain⟨t,fx,cx,h1,_⟩:=h.frame;exact⟨own,t,fx,cx,h1,fun J e=>absurd e (hm J),.no ho⟩
theorem aow {cap:Nat→Option CSig}{fY:List Ty}{es:List PE}{res:Ty}{pe:PE}{vs:List Value}(hr:Rf fY es res=some pe)(j7:vs.length=fY.length)(rh:es.length=fY.length)
 (nF:∀(i:Nat) (t:Ty),fY[i]?=some t→Rep cap σ t (vs.getD i undef) ((PE.evs ρ es).getD i .none)):Rep cap σ res (uW vs) (pe.ev ρ):=by
 have many:fY.length≠1→(bif Ty.sub (.tup fY) res then some (PE.tup es) else none)=some pe→Rep cap σ res (uW vs) (pe.ev ρ):=by
  intro ay hr;cases hb:Ty.sub (.tup fY) res<;>simp only[hb,cond_true,cond_false] at hr
  ·cases hr
  cases hr;have cl:uW vs=Value.tuple vs.toArray:=by
   match vs,j7 with
   |[],_=>rfl
   |[v],hl=>exact absurd hl.symm ay
   |_::_::_,_=>rfl
  rw[cl];exact Rep.sub (Rep.tup _ _ _ (by rw[j7]) (by rw[PE.evs_eq,fL,rh]) nF) hb
 match fY,es,vs,j7,rh,nF,many,hr with
 |[ty],[e],[v],_,_,nF,_,hr=>
  simp only[Rf] at hr;cases hb:Ty.sub ty res<;>simp only[hb,cond_true,cond_false] at hr
  ·cases hr
  cases hr;have:=nF 0 ty rfl;exact Rep.sub (by simpa [PE.evs,uW] using this) hb
 |[],[],_,_,_,_,many,hr=>exact many (by simp) hr
 |_::_::_,_::_::_,_,_,_,_,many,hr=>exact many (by simp) hr
theorem X4:∀{l:List Sh} {k:Nat},IM S k l=true→∀(t:Nat) (s:Sh),l[t]?=some s→nJ s=false→tl s=true∧(s=.none∨S.r (k+t)=s)
 |[],k,_,t,s,h,_=>by simp at h
 |x::l,k,hk,t,s,h,hd=>by
  simp only[IM,aj,gF] at hk;cases t with
  |zero=>
   simp at h;subst h;refine⟨hk.1,?_⟩;rcases hk.2.1 with(h1|h1)|h1
   ·rw[hd] at h1;cases h1
   ·left;cases x<;>first|rfl|cases h1
   ·exact .inr (Sh.beq_eq _ _ h1)
  |succ t=>
   simp at h;have:=X4 hk.2.2 t s h hd
   rwa [tS,Bi 1 t] at this
theorem Yl:∀{obs:List (Nat×Ob)},(obs.all fun x=>Ob.beq (S.o x.1) x.2)=true→∀j,eN obs j=.dead∨(S.o j=eN obs j∧nM obs (obs.map fun x=>ρ.o x.1) j=ρ.o j)
 |[],_,j=>.inl rfl
 |x::obs,h,j=>by
  simp only[qJ,aj] at h;simp only[eN,gG,nM];cases hb:Nat.beq x.1 j<;>simp only[cond_true,cond_false]
  ·exact Yl h.2 j
  ·rw[←aw hb];exact .inr ⟨Ob.beq_eq _ _ h.1,rfl⟩
theorem aq9 {ty:Ty}{fY:List Ty}{es:List PE}(h:∀ty e,fY=[ty]→es=[e]→False)(hl:es.length=fY.length):fY.length≠1:=by
 intro h1
 match fY,es with
 |[ty],[e]=>exact h ty e rfl rfl
 |[],_=>simp at h1
 |_::_::_,_=>simp at h1
 |[_],[]=>simp at hl
 |[_],_::_::_=>simp at hl
theorem abG (h:Inv C S ρ σ own hv w0 σ0 A a w){T:TypeId}{e:Ty}{j ver:Nat}{v:Value}{d:D}(hc:aE C S ρ σ hv (.obj j ver) v d){pe:PE}
 (hr:(bif Nat.beq ver (S.ver j) then(match S.o j with|.row U f=>bif Nat.beq U T&&Ty.beq f e then some (PE.o j) else none|_=>none) else none)=some pe):
 ∃cells xs,pe.ev ρ=.list xs∧w.ownsRow w0.heap.size T e.size v xs.length cells∧eR C.cap σ e cells xs∧∀k,v.ownBlock=some k→(∀o,σ.c k o=none)∧σ.m k=none:=by
 cases hb:Nat.beq ver (S.ver j)<;>simp only[hb,cond_true,cond_false] at hr
 ·cases hr
 split at hr
 case h_2=>cases hr
 rename_i U f ho;cases bn:Nat.beq U T&&Ty.beq f e<;>simp only[bn,cond_true,cond_false] at hr
 ·cases hr
 cases hr;simp only[aj] at bn;have hU:=aw bn.1;have hf:=Ty.beq_eq _ _ bn.2;subst hU hf;have hj:=h.objs j;rw[ho] at hj;obtain⟨cells,xs,h1,h2,h3,h4⟩:=hj;have hv':=hc.2 (aw hb);subst hv';exact⟨cells,xs,h1,h2,h3,fun k hk=>(h.owns k j (h4 k hk)).2.2⟩
theorem abC:∀(l:List ResultVar) {S:St} {r:St×List Ty×List PE},tB C l S=some r→r.1.ver=S.ver
 |[],S,r,h=>by simp only[tB,aR] at h;subst h;rfl
 |x::l,S,r,h=>by
  simp only[tB,ao,ax] at h;obtain⟨r1,h1,q,h2,rfl⟩:=h;rw[abC l h2];cases x with
  |tmp t=>
   simp only[AR,ax] at h1;obtain⟨y,_,rfl⟩:=h1;exact(ox _ _).1
  |cell b T=>
   simp only[AR] at h1;split at h1
   ·cases h1;exact(ox _ _).1
   ·rename_i j ver t0 e0 _;cases hb:Nat.beq ver (((S.fzs (uQ C S T (.tmp b))).fz j).ver j)<;>simp only[hb,cond_true,cond_false] at h1
    ·cases h1
    ·split at h1
     ·cases h1;rw[(Hr _ _).1];exact(ox _ _).1
     ·cases h1
   ·cases h1
theorem PX:∀{a:List AgC} {i j ver:Nat},(oe a).Nodup→a[i]?=some (.obj j ver)→rB a j=some i
 |[],i,j,ver,_,h=>by simp at h
 |.dat t::a,i,j,ver,hn,h=>by
  cases i with
  |zero=>simp at h
  |succ i=>simp at h;simp only[rB];rw[PX (a:=a) hn h];rfl
 |.obj k u::a,i,j,ver,hn,h=>by
  simp only[oe,np] at hn;cases i with
  |zero=>simp at h;obtain⟨rfl,_⟩:=h;simp only[rB,iI];rfl
  |succ i=>
   simp at h;have hm:∀{a:List AgC} {i:Nat},a[i]?=some (.obj j ver)→j∈oe a:=by
        intro a
        induction a with
        |nil=>intro i h;simp at h
        |cons x a ih=>
         intro i h;cases i with
         |zero=>simp at h;subst h;simp[oe]
         |succ i=>simp at h;have:=ih h;cases x<;>simp[oe,this]
   have ay:k≠j:=fun e=>hn.1 (e▸hm h);simp only[rB];rw[fu ay,cond_false,PX hn.2 h];rfl
theorem Qq (h:Inv C S ρ σ own hv w0 σ0 A a w){x0:PE}{vs:List Value}{ds:List D}(hd:x0.ev ρ=.agg ds)(ow:Nat→Option Nat):∀(a:List AgC) (l:List RC) (i:Nat),mi S a l=true→(∀(n:Nat) (c:AgC),a[n]?=some c→nl C S σ hv c (vs.getD (i+n) undef) (ds.getD (i+n) .none))→
 (∀(n j ver k:Nat),a[n]?=some (.obj j ver)→own k=some j→ow k=some (i+n))→
 a.length=l.length∧(PE.evc ρ (mA x0 a i)).length=l.length∧∀(n:Nat) (c:RC),l[n]?=some c→Ul C σ w0.heap.size w ow (i+n) c (vs.getD (i+n) undef) ((PE.evc ρ (mA x0 a i)).getD n .none)
 |[],[],i,_,_,_=>⟨rfl,rfl,fun n c hc=>by simp at hc⟩
 |[],_::_,i,hf,_,_=>by simp[mi] at hf
 |x::a,l,i,hf,HM,sQ=>by
  have e:∀n,i+1+n=i+(n+1):=fun n=>by omega
  have CC:∀(n:Nat) (c:AgC),a[n]?=some c→nl C S σ hv c (vs.getD (i+1+n) undef) (ds.getD (i+1+n) .none):=fun n c hc=>by rw[e];exact HM (n+1) c (by simpa using hc)
  have Xk:∀(n j ver k:Nat),a[n]?=some (.obj j ver)→own k=some j→ow k=some (i+1+n):=fun n j ver k hc hk=>by rw[e];exact sQ (n+1) j ver k (by simpa using hc) hk
  have h0:=HM 0 x rfl;rw[iz] at h0;cases x with
  |dat ty=>
   cases l with
   |nil=>simp[mi] at hf
   |cons y l=>
    cases y with
    |row T e=>simp[mi] at hf
    |dat u=>
     simp only[mi,aj] at hf;obtain⟨g1,g2,g3⟩:=Qq h hd ow a l (i+1) hf.2 CC Xk;have e1:PE.evc ρ (mA x0 (.dat ty::a) i)=ds.getD i .none::PE.evc ρ (mA x0 a (i+1)):=by
       simp only[mA,PE.evc,PE.ev,hd,D.c];have:=h0.2.dcells h0.1;simp only[D.cells] at this ⊢;rw[this];rfl
     rw[e1];refine⟨by simp[g1],by simp[g2],fun n c hc=>?_⟩;cases n with
     |zero=>simp at hc;subst hc;exact⟨by rw[←(Ty.sub_one _ _ hf.1.1).1];exact h0.1,h0.2.sub hf.1.1⟩
     |succ n=>simp at hc;have:=g3 n c hc;rw[e] at this;simpa using this
  |obj j ver=>
   cases l with
   |nil=>simp[mi] at hf
   |cons y l=>
    cases y with
    |dat u=>simp[mi] at hf
    |row T ty=>
     simp only[mi,aj] at hf;obtain⟨⟨f1,f2⟩,f3⟩:=hf;obtain⟨g1,g2,g3⟩:=Qq h hd ow a l (i+1) f3 CC Xk;have aY:=h.objs j;split at f2
     case h_2=>cases f2
     rename_i U f eo;rw[eo] at aY;simp only[aj] at f2;have q1:=aw f2.1;have q2:=Ty.beq_eq _ _ f2.2;subst q1 q2;obtain⟨cells,xs,k1,k2,k3,k4⟩:=aY;have qf:=h0.2 (aw f1);have e1:PE.evc ρ (mA x0 (.obj j ver::a) i)=.list xs::PE.evc ρ (mA x0 a (i+1)):=by
         simp only[mA,PE.evc,PE.ev,k1,D.cells];rfl
     rw[e1];refine⟨by simp[g1],by simp[g2],fun n c hc=>?_⟩;cases n with
     |zero=>
      simp at hc;subst hc;rw[iz,qf];exact⟨cells,xs,rfl,k2,k3,fun k hk=>by have:=sQ 0 j ver k rfl (k4 k hk);rwa [iz] at this⟩
     |succ n=>simp at hc;have:=g3 n c hc;rw[e] at this;simpa using this
theorem aoy (h:Inv C S ρ σ own hv w0 σ0 A a w)(hC:CtxOK C σ0)(dO:∀j,S.ver j=0){fn:Func}{s:Sig}{pe:PE}(hr:xH C fn s S=some pe):Lc C w0 σ0 fn s (pe.ev ρ) a w:=by
 unfold xH at hr;split at hr
 ·rename_i shs obs hm;simp only[abE,ao] at hr;obtain⟨r,aF,hr⟩:=hr;obtain⟨σ1,dF,vs,hle,h1,wR,j7,rh,nF⟩:=Re hC _ h aF;cases hb:OE r.1 shs obs<;>simp only[hb,cond_true,cond_false] at hr
  ·cases hr
  simp only[ax] at hr;obtain⟨e,he,rfl⟩:=hr;simp only[OE,aj] at hb;have bN:=aow he j7 rh nF;obtain⟨t,fx,cx,hf,_⟩:=h1.frame;have re:Compat r.1 hv (gj shs obs) hv:=⟨fun j=>by rw[abC _ aF,dO];exact oc _,fun _ _=>rfl⟩
  have NV:(PE.evs ρ (e::obs.map fun x=>.o x.1))=e.ev ρ::obs.map (fun x=>ρ.o x.1):=by simp[PE.evs_eq,FF,PE.ev]
  refine⟨_,σ1,⟨dF,t,fx,cx,hf,(fun J e=>by rw[hm] at e;cases e),fun Rq aw7 e'=>?_⟩,xG wR,h1.le,h1.ok,h1.below,h1.newc,h1.newm,by unfold mz;rw[hm];trivial⟩;rw[hm] at e';cases e';refine⟨hv,e.ev ρ,obs.map fun x=>ρ.o x.1,by simp only[PE.ev];rw[NV],by simp,h1.owns,fun t sh hs hd d=>?_,fun j=>?_,bN⟩
  ·obtain⟨fF,e1⟩:=X4 hb.1 t sh hs hd;rcases e1 with e1|e1
   ·subst e1;trivial
   ·rw[fq] at e1;have:=h1.regs t;rw[e1] at this;have eY:∀gs s',sh≠.opt gs s':=fun gs s' e=>by subst e;cases fF
    have:=aE.mono' (S':=gj shs obs) (ρ':=mX obs [] (obs.map fun x=>ρ.o x.1)) (.refl σ1) re eY this;cases sh with
    |dat t=>cases hd
    |opt gs s=>cases fF
    |eptr j v o q=>cases fF
    |agg l=>cases fF
    |_=>exact this
  ·rcases Yl (ρ:=ρ) hb.2 j with e1|⟨e1,e2⟩
   ·rw[e1];trivial
   ·rw[←e1];exact(h1.objs j).mono (.refl σ1) re rfl e2 (fun k hk=>⟨hk,rfl⟩)
 ·rename_i hm;simp only[abD,ao] at hr;obtain⟨r,aF,hr⟩:=hr;obtain⟨σ1,dF,vs,hle,h1,wR,j7,rh,nF⟩:=Re hC _ h aF;refine⟨_,σ1,h1.fr (fun J e=>by rw[hm] at e;cases e) (by rw[hm];rfl),xG wR,h.le.trans hle,h1.ok,h1.below,h1.newc,h1.newm,?_⟩;unfold mz;rw[hm];simp only;split at hr
  ·rename_i ty e e1 e2;rw[e1] at j7 nF;rw[e2] at nF;cases hb:Ty.sub ty s.res<;>simp only[hb,cond_true,cond_false] at hr
   ·cases hr
   cases hr;obtain⟨v,rfl⟩:∃v,vs=[v]:=by
        match vs,j7 with
        |[v],_=>exact⟨v,rfl⟩
   have:=nF 0 ty rfl;exact Rep.sub (by simpa [PE.evs,uW] using this) hb
  ·rename_i ay;cases hb:Ty.sub (.tup r.2.1) s.res<;>simp only[hb,cond_true,cond_false] at hr
   ·cases hr
   cases hr;have Xe:=aq9 (ty:=.bool) ay rh;have cl:uW vs=Value.tuple vs.toArray:=by
        match vs,j7 with
        |[],_=>rfl
        |[v],hl=>rw[←hl] at Xe;exact absurd rfl Xe
        |_::_::_,_=>rfl
   rw[cl];refine Rep.sub (Rep.tup _ _ _ (by rw[j7]) (by rw[PE.evs_eq,fL,rh]) nF) hb
 ·rename_i l hm;have key:∃(v:Value) (x0:PE) (vs:List Value) (ds:List D) (ag:List AgC),(results fn a.tmps).run C.P w=.ok v w∧pe=.mk (mA x0 ag 0)∧x0.ev ρ=.agg ds∧v=.agg vs.toArray∧mi S ag l=true∧gS (oe ag)=true∧
        vs.length=ag.length∧ds.length=ag.length∧∀(i:Nat) (c:AgC),ag[i]?=some c→nl C S σ hv c (vs.getD i undef) (ds.getD i .none):=by
   unfold abH at hr;split at hr
   ·rename_i t eZ;split at hr
    case h_2=>cases hr
    rename_i ag eL;cases hb:(mi S ag l&&gS (oe ag))<;>simp only[hb,cond_true,cond_false] at hr
    ·cases hr
    cases hr;simp only[aj] at hb;have gu:=(m8 (gs:=[]) h rfl t).1;rw[eL] at gu;obtain⟨vs,ds,e1,e2,e3,e4,e5⟩:=gu;exact⟨_,.r t,vs,ds,ag,xG (vs:=[a.tmps.getD t undef]) (by rw[eZ];exact⟨rfl,trivial⟩),rfl,e2,e1,hb.1,hb.2,e3,e4,e5⟩
   ·rename_i b U eZ;split at hr
    case h_2=>cases hr
    rename_i ag t0 x0 hl;cases hb:((mi S ag l&&gS (oe ag))&&Nat.beq t0 0)<;>simp only[hb,cond_true,cond_false] at hr
    ·cases hr
    cases hr;simp only[aj] at hb;obtain⟨hb,Oh⟩:=hb;obtain rfl:=aw Oh;have hq:=D0 (Φ:=fun _ _=>none) (dst:=0) (gs:=[]) h hC rfl hl (o:={(default:Oper) with op:=.load U (.tmp b)}) rfl;obtain⟨v,d,q1,q2,q3,_⟩:=hq _ rfl;obtain⟨vs,ds,e1,e2,e3,e4,e5⟩:=q3;have hd:x0.ev ρ=d:=by
     have:=congrArg (fun e:Env=>e.r 0) q1;simpa [Env.setR,bV] using this
    exact⟨_,x0,vs,ds,ag,xG (vs:=[v]) (by rw[eZ];exact⟨IU rfl q2,trivial⟩),rfl,by rw[hd,e2],e1,hb.1,hb.2,e3,e4,e5⟩
   ·cases hr
  obtain⟨v,x0,vs,ds,ag,af,rfl,e2,e1,b1,b2,e3,e4,e5⟩:=key
  obtain⟨g1,g2,g3⟩:=Qq h (x0:=x0) (vs:=vs) (ds:=ds) e2 (fun k=>(own k).bind (rB ag)) ag l 0 b1 (fun n c hc=>by rw[fq];exact e5 n c hc) (fun n j ver k hc hk=>by
   show(own k).bind (rB ag)=some (0+n);rw[hk,ko,PX (mW b2) hc,fq])
  simp only[fq] at g3;refine⟨_,σ,h.fr (fun J e=>by rw[hm] at e;cases e) (by rw[hm];rfl),af,h.le,h.ok,h.below,h.newc,h.newm,?_⟩;unfold mz;rw[hm];refine⟨vs,PE.evc ρ (mA x0 ag 0),fun k=>(own k).bind (rB ag),e1,by simp only[PE.ev],by omega,g2,g3,fun k i hk=>?_⟩;cases ho:own k with
  |none=>
   have hk:(own k).bind (rB ag)=some i:=hk;rw[ho] at hk;cases hk
  |some j=>exact h.owns k j ho
 ·rename_i J hm;split at hr
  case h_2=>cases hr
  rename_i eZ hJ;cases hr;obtain⟨t,fx,cx,h1,h2⟩:=h.frame;refine⟨_,σ,⟨own,t,fx,cx,h1,fun J' e=>?_,.no (by rw[hm];rfl)⟩,xG (vs:=[]) (by rw[eZ];trivial),h.le,h.ok,h.below,h.newc,h.newm,by unfold mz;rw[hm];trivial⟩;exact(h2 J hJ).2
 ·rename_i T e hm;have key:∃v,(results fn a.tmps).run C.P w=.ok v w∧∃cells xs,pe.ev ρ=.list xs∧w.ownsRow w0.heap.size T e.size v xs.length cells∧eR C.cap σ e cells xs∧∀k,v.ownBlock=some k→(∀o,σ.c k o=none)∧σ.m k=none:=by
   unfold abF at hr;split at hr
   ·rename_i t ht;split at hr
    case h_2=>cases hr
    rename_i j ver hs;have hc:=(m8 (gs:=[]) h rfl t).1;rw[hs] at hc;exact⟨_,xG (vs:=[a.tmps.getD t undef]) (by rw[ht];exact⟨rfl,trivial⟩),abG h hc hr⟩
   ·rename_i b U hb;split at hr
    case h_2=>cases hr
    rename_i j ver t0 e0 hl;have hq:=D0 (Φ:=fun _ _=>none) (dst:=0) (gs:=[]) h hC rfl hl (o:={(default:Oper) with op:=.load U (.tmp b)}) rfl;obtain⟨v,d,e1,e2,e3,e4⟩:=hq _ rfl;exact⟨_,xG (vs:=[v]) (by rw[hb];exact⟨IU rfl e2,trivial⟩),abG h e3 hr⟩
   ·cases hr
  obtain⟨v,h1,h2⟩:=key;refine⟨v,σ,h.fr (fun J e=>by rw[hm] at e;cases e) (by rw[hm];rfl),h1,h.le,h.ok,h.below,h.newc,h.newm,?_⟩;unfold mz;rw[hm];exact h2
theorem kR.drop {σ:Im}{B D:Nat}:∀{ds:List Deferred},({target:=.collected D,args:=#[]}:Deferred)∉ds→kR σ B ds→kR (σ.drop D) B ds
 |[],_,_=>trivial
 |x::ds,hn,⟨⟨D',h1,h2,h3⟩,h⟩=>by
  simp only[cW,not_or] at hn;refine⟨⟨D',h1,?_,h3⟩,kR.drop hn.2 h⟩;have:D'≠D:=fun e=>hn.1 (by rw[h1,e]);simp[Im.drop,this,h2]
theorem Inv.shut (h:Inv C S ρ σ own hv w0 σ0 A a w)(iN:σ0.fin){x:Deferred}{ds:List Deferred}(hd:a.defers=x::ds):
 ∃D,x.target=.collected D∧w.heap[D]?=some (.deferred (some []))∧Inv C S ρ (σ.drop D) own hv w0 σ0 A {a with defers:=ds} (w.putObj D (.deferred none)):=by
 have oA:=h.defers;rw[hd] at oA;obtain⟨⟨D,rfl,hm,hB,NL⟩,pS⟩:=oA;have hD:w.heap[D]?=some (.deferred (some [])):=by
  rcases h.ok.m D _ hm with⟨h1,_⟩|⟨_,h2⟩
  ·exact absurd rfl h1
  ·exact h2
 have fh:∀k,k≠D→(w.putObj D (.deferred none)).heap[k]?=w.heap[k]?:=fun k hk=>World.putObj_heap_other hk;have aZ:∀k j,own k=some j→k≠D:=fun k j hk e=>by subst e;rw[(h.owns k j hk).2.2.2] at hm;cases hm
 have hR:Im.leR C.cap σ (σ.drop D):=⟨fun r=>r.drop hm,fun _ _ _ e=>e⟩
 have CL:∀k x,(σ.drop D).m k=some x→k≠D∧σ.m k=some x:=by
  intro k x hx;simp only[Im.drop] at hx;split at hx
  ·cases hx
  ·rename_i ay;exact⟨ay,hx⟩
 refine⟨D,rfl,hD,pS.drop NL,⟨fun k o v hc=>?_,fun k es hc=>?_⟩,⟨h.le.c,fun k es hc=>?_⟩,h.old,h.newc,fun k es hc=>h.newm k es (CL k es hc).2,h.below.trans ⟨rfl,rfl,rfl,by simp,fun k hk=>fh k (by have:=h.bw;omega)⟩,h.bw,fun k j hk=>?_,fun t=>?_,fun j=>?_,h.opts,?_⟩
 ·have h1:=h.ok.c k o v hc;have ay:k≠D:=fun e=>by subst e;simp[World.cell?,hD] at h1
  rw[World.cell?_of_block (fh k ay)];exact h1
 ·exact(h.ok.m k es (CL k es hc).2).keep (fh k (CL k es hc).1)
 ·have ay:k≠D:=fun e=>by
   subst e;have:=h.le.m _ _ hc;rw[hm] at this;cases this;have:=h.old iN _ hc;omega
  simp[Im.drop,ay,h.le.m k es hc]
 ·obtain⟨g1,g2,g3,g4⟩:=h.owns k j hk;exact⟨g1,by simpa using g2,g3,by simp only[Im.drop];split<;>first|rfl|exact g4⟩
 ·exact aE.monoR hR (.refl S hv) (fun _ _ _=>rfl) (fun gs s e=>(h.opts t gs s e).2) (h.regs t)
 ·exact(h.objs j).monoR hR (.refl S hv) rfl rfl (fun k hk=>⟨hk,fh k (aZ k j hk)⟩)
 ·obtain⟨t,fx,cx,hf,ht⟩:=h.frame;exact⟨t,fx,cx,⟨σ0.keep _ _ _ _ _ hf.F ⟨rfl,rfl,rfl,by simp,fun k hk=>by omega⟩ (fun k hk=>fh k fun e=>by subst e;exact hf.d k hm hB hk),hf.own,hf.c,fun k x hx=>hf.m k x (CL k x hx).2,fun k hx=>hf.d k (CL k _ hx).2⟩,ht⟩
def sk (C:Ctx)(w0:World)(σ0:Base)(fn:Func)(s:Sig)(d:D)(tmps:Array Value):List Deferred→World→Prop
 |[],w=>Lc C w0 σ0 fn s d {tmps:=tmps,defers:=[]} w
 |x::ds,w=>∃D,x.target=.collected D∧w.heap[D]?=some (.deferred (some []))∧sk C w0 σ0 fn s d tmps ds (w.putObj D (.deferred none))
theorem Inv.retD (hC:CtxOK C σ0)(dO:∀j,S.ver j=0)(iN:σ0.fin){fn:Func}{s:Sig}{pe:PE}(hr:xH C fn s S=some pe):∀(ds:List Deferred) {σ:Im} {a:Act} {w:World},Inv C S ρ σ own hv w0 σ0 A a w→a.defers=ds→sk C w0 σ0 fn s (pe.ev ρ) a.tmps ds w
 |[],σ,a,w,h,hd=>by
  have e:a={tmps:=a.tmps,defers:=[]}:=by cases a;simp only at hd;subst hd;rfl
  rw[e] at h;exact aoy h hC dO hr
 |x::ds,σ,a,w,h,hd=>by
  obtain⟨D,h1,h2,h3⟩:=h.shut iN hd;exact⟨D,h1,h2,Inv.retD hC dO iN hr ds (a:={a with defers:=ds}) h3 rfl⟩
end
end Cx
namespace Cx
open Go Go.RowKit
def xY (C:Ctx)(f:Nat)(He ys:List Ty)(ds xs:List D):Prop:=
 ∀(σ:Im) (w:World) (yv:Value) (vs:List Value) (F:D→(Nat→Prop)→(Nat→Prop)→World→Prop) (fx cx:Nat→Prop) (m:Nat),σ.ok w→CtxOK C σ→qF C σ He vs ds→m≤xs.length→
  (∀t fx cx w,F t fx cx w→∀k,fx k→k<w.heap.size)→(∀t fx cx w,F t fx cx w→∀k,cx k→fx k)→
  (∀t fx cx w w',F t fx cx w→Below 0 w w'→(∀k,fx k→w'.heap[k]?=w.heap[k]?)→F t fx cx w')→
  F (.list []) fx cx w→(∀k o x,σ.c k o=some x→¬cx k)→(∀k x,σ.m k=some x→¬cx k)→
  (∀(i:Nat) (fx cx:Nat→Prop) (w1:World) (σ1:Im) (args:List Value) (ds':List D),i≤m→xs[i]?=some (.tup ds')→F (.list (xs.take i)) fx cx w1→σ1.ok w1→qF C σ1 ys args ds'→
    (∀k o x,σ1.c k o=some x→¬cx k)→(∀k x,σ1.m k=some x→¬cx k)→
    (∀k o x,σ1.c k o=some x→σ.c k o=some x∨w.heap.size≤k)→(∀k x,σ1.m k=some x→σ.m k=some x∨w.heap.size≤k)→
    Ut C.P yv args w1 fun u w2=>u=.bool (decide (i<m))∧Below 0 w1 w2∧(∀k,k<w1.heap.size→¬cx k→w2.heap[k]?=w1.heap[k]?)∧
     ∃pJ lN,F (.list (xs.take (i+1))) pJ lN w2∧(∀k,pJ k→k<w1.heap.size→fx k∨(∃o x,σ1.c k o=some x)∨(∃x,σ1.m k=some x∧x≠da))∧(∀k,lN k→k<w1.heap.size→cx k))→
  Calls C.P f (#[yv]++vs.toArray) w fun e w'=>(∃v,e=.returned v)∧∃fx cx,F (.list (xs.take (m+1))) fx cx w'
def ki (C:Ctx)(Φ:aV):Prop:=∀f cs ys,C.cap f=some cs→mS cs.args cs.res=some ys→(∃fn,C.P.funcs[f]?=some fn∧fn.body.isSome=true∧(fn.name== "runtime.NumGoroutine")=false)∧
 ∀ds d,Φ f ds=some d→∃xs,d=.list xs∧(∀x,x∈xs→∃ds',x=.tup ds'∧ds'.length=ys.length)∧xY C f cs.caps ys ds xs
section
variable {C:Ctx} {S:St} {ρ:Env} {σ:Im} {own:Nat→Option Nat} {hv:Nat→Value} {w0:World} {σ0:Base} {A:Nat→Prop} {a:Act} {w:World}
theorem Inv.mono_regs (h:Inv C S ρ σ own hv w0 σ0 A a w){τ:Im}(hle:σ.le τ)(t:Nat):aE C S ρ τ hv (S.r t) (a.tmps.getD t undef) (ρ.r t):=
 aE.mono hle (.refl S hv) (fun _ _ _=>rfl) (fun gs s e=>(h.opts t gs s e).2) (h.regs t)
theorem Inv.joinIm (h:Inv C S ρ σ own hv w0 σ0 A a w){τ:Im}(hτ:τ.ok w)(hd:∀k,τ.m k≠some da)(hoc:∀k o v,τ.c k o=some v→own k=none)(hom:∀k v,τ.m k=some v→own k=none)
 (dp:∀k o v,τ.c k o=some v→σ.c k o=some v∨w0.heap.size≤k) (dq:∀k v,τ.m k=some v→σ.m k=some v∨w0.heap.size≤k)
 (dm:∀t fx cx,FrOK σ own w0.heap.size σ0 w t fx cx→(∀k o v,τ.c k o=some v→¬cx k)∧∀k v,τ.m k=some v→¬cx k):Inv C S ρ (σ.plus τ) own hv w0 σ0 A a w where
 defers:=h.defers.mono (Im.plus_le1 σ τ)
 ok:=Im.plus_ok h.ok hτ
 le:=h.le.trans (Im.plus_le1 σ τ)
 old:=h.old
 newc:=fun k o x e=>(Im.plus_c e).elim (h.newc k o x) fun e=>(dp k o x e).elim (h.newc k o x) .inr
 newm:=fun k x e=>(Im.plus_m e).elim (h.newm k x) fun e=>(dq k x e).elim (h.newm k x) .inr
 below:=h.below
 bw:=h.bw
 owns:=fun k j hk=>by
  obtain⟨g1,g2,g3,g4⟩:=h.owns k j hk;refine⟨g1,g2,fun o=>?_,?_⟩
  ·cases e:(σ.plus τ).c k o with
   |none=>rfl
   |some x=>
    rcases Im.plus_c e with e|e
    ·rw[g3 o] at e;cases e
    ·rw[hoc k o x e] at hk;cases hk
  ·cases e:(σ.plus τ).m k with
   |none=>rfl
   |some x=>
    rcases Im.plus_m e with e|e
    ·rw[g4] at e;cases e
    ·rw[hom k x e] at hk;cases hk
 regs:=h.mono_regs (Im.plus_le1 σ τ)
 objs:=fun j=>(h.objs j).mono (Im.plus_le1 σ τ) (.refl S hv) rfl rfl fun k hk=>⟨hk,rfl⟩
 opts:=h.opts
 frame:=by
  obtain⟨t,fx,cx,hf,ht⟩:=h.frame;obtain⟨h1,h2⟩:=dm t fx cx hf;exact⟨t,fx,cx,⟨hf.F,hf.own,fun k o x e=>(Im.plus_c e).elim (hf.c k o x) (h1 k o x),fun k x e=>(Im.plus_m e).elim (hf.m k x) (h2 k x),fun k e=>(Im.plus_m e).elim (hf.d k) fun e=>absurd e (hd k)⟩,ht⟩
theorem Inv.keep (h:Inv C S ρ σ own hv w0 σ0 A a w){w':World}{X:Nat→Prop}(hb:Below 0 w w')(hX:∀k,X k→w'.heap[k]?=w.heap[k]?)(h0:∀k,k<w0.heap.size→X k)(ho:∀k j,own k=some j→X k)(hc:∀k o v,σ.c k o=some v→X k)(hm:∀k v,σ.m k=some v→X k)
 (dm:∀t fx cx,FrOK σ own w0.heap.size σ0 w t fx cx→∀k,fx k→X k):Inv C S ρ σ own hv w0 σ0 A a w' where
 defers:=h.defers
 ok:=⟨fun k o v e=>by rw[World.cell?_of_block (hX k (hc k o v e))];exact h.ok.c k o v e,fun k v e=>(h.ok.m k v e).keep (hX k (hm k v e))⟩
 le:=h.le
 old:=h.old
 newc:=h.newc
 newm:=h.newm
 below:=h.below.trans ⟨hb.os,hb.tape,hb.output,hb.size,fun k hk=>hX k (h0 k (vP hk h.bw))⟩
 bw:=h.bw
 owns:=fun k j hk=>let⟨g1,g2,g3⟩:=h.owns k j hk;⟨g1,vP g2 hb.size,g3⟩
 regs:=h.regs
 objs:=fun j=>(h.objs j).mono (.refl σ) (.refl S hv) rfl rfl fun k hk=>⟨hk,hX k (ho k j hk)⟩
 opts:=h.opts
 frame:=by
  obtain⟨t,fx,cx,hf,ht⟩:=h.frame;exact⟨t,fx,cx,⟨σ0.keep _ _ _ _ _ hf.F hb fun k hk=>hX k (dm t fx cx hf k hk),hf.own,hf.c,hf.m,hf.d⟩,ht⟩
end
def Base.rnd (σ0:Base)(σ:Im)(own:Nat→Option Nat)(w:World)(t:D)(X:Nat→Prop):Base:=
 {σ with
  B:=σ0.B
  fin:=False
  F:=fun t' fx cx w'=>t'=t∧(∀k,fx k↔(k<w.heap.size∧own k=none∧σ.m k≠some da∧¬X k))∧(∀k,cx k↔(fx k∧(∀o,σ.c k o=none)∧σ.m k=none))∧w.heap.size≤w'.heap.size∧∀k,fx k→w'.heap[k]?=w.heap[k]?
  lt:=fun t' fx cx w' h k hk=>vP ((h.2.1 k).1 hk).1 h.2.2.2.1
  sub:=fun t' fx cx w' h k hk=>((h.2.2.1 k).1 hk).1
  keep:=fun t' fx cx w' kO h hb hs=>⟨h.1,h.2.1,h.2.2.1,cL h.2.2.2.1 hb.size,fun k hk=>(hs k hk).trans (h.2.2.2.2 k hk)⟩}
section
variable {C:Ctx} {S S':St} {ρ ρ':Env} {σ σ':Im} {own own':Nat→Option Nat} {hv hv':Nat→Value} {w0:World} {σ0:Base} {A A':Nat→Prop} {a a':Act} {w w':World} {X:Nat→Prop}
theorem Inv.toRnd (h:Inv C S ρ σ own hv w0 σ0 A a w){t:D}(ht:∀j,S.o j=.tr→(∃ys,C.yl=some (j,ys))∧ρ.o j=t):Inv C S ρ σ own hv w0 (σ0.rnd σ own w t X) A a w:=by
 refine⟨h.defers,h.ok,.refl σ,(fun hf=>hf.elim),(fun _ _ _ e=>.inl e),(fun _ _ e=>.inl e),h.below,h.bw,h.owns,h.regs,h.objs,h.opts,t,fun k=>k<w.heap.size∧own k=none∧σ.m k≠some da∧¬X k,fun k=>(k<w.heap.size∧own k=none∧σ.m k≠some da∧¬X k)∧(∀o,σ.c k o=none)∧σ.m k=none,
  ⟨⟨rfl,fun _=>.rfl,fun _=>.rfl,aX _,fun _ _=>rfl⟩,fun k j hk hf=>?_,fun k o x e hc=>?_,fun k x e hc=>?_,fun k e _ hf=>hf.2.2.1 e⟩,ht⟩
 ·have:=hf.2.1;rw[hk] at this;cases this
 ·have:=hc.2.1 o;rw[e] at this;cases this
 ·have:=hc.2.2;rw[e] at this;cases this
theorem Inv.markSame {w1:World}(h:σ.ok w1)(h':σ'.ok w')(hle:σ.le σ'){k:Nat}(hk:σ.m k=some da):w'.heap[k]?=w1.heap[k]?:=by
 have e1:w1.heap[k]?=some (.deferred (some [])):=by
  rcases h.m k _ hk with⟨h1,_⟩|⟨_,h2⟩
  ·exact absurd rfl h1
  ·exact h2
 have e2:w'.heap[k]?=some (.deferred (some [])):=by
  rcases h'.m k _ (hle.m k _ hk) with⟨h1,_⟩|⟨_,h2⟩
  ·exact absurd rfl h1
  ·exact h2
 rw[e1,e2]
theorem Inv.rndSame {w1:World}{t:D}(az:σ.ok w1)(h':Inv C S' ρ' σ' own' hv' w0 (σ0.rnd σ own w1 t X) A' a' w'){k:Nat}(hk:k<w1.heap.size)(ho:own k=none)(hX:¬X k):w'.heap[k]?=w1.heap[k]?:=by
 by_cases hd:σ.m k=some da
 ·exact Inv.markSame az h'.ok h'.le hd
 ·obtain⟨t',fx,cx,hf,_⟩:=h'.frame;obtain⟨_,f2,_,_,f5⟩:=hf.F;exact f5 k ((f2 k).2 ⟨hk,ho,hd,hX⟩)
theorem Inv.rndBelow {w1:World}{t:D}(h:Inv C S ρ σ own hv w0 σ0 A a w1)(h':Inv C S' ρ' σ' own' hv' w0 (σ0.rnd σ own w1 t X) A' a' w'):Below 0 w1 w':=by
 obtain⟨t',fx,cx,hf,_⟩:=h'.frame;obtain⟨_,_,_,f4,_⟩:=hf.F;exact⟨h'.below.os.trans h.below.os.symm,h'.below.tape.trans h.below.tape.symm,h'.below.output.trans h.below.output.symm,f4,fun k hk=>by omega⟩
theorem Inv.rndOwn {w1:World}{t:D}(h':Inv C S' ρ' σ' own' hv' w0 (σ0.rnd σ own w1 t X) A' a' w'){k j:Nat}(hk:own' k=some j)(hX:¬X k):(∃i,own k=some i)∨w1.heap.size≤k:=by
 obtain⟨t',fx,cx,hf,_⟩:=h'.frame;obtain⟨_,f2,_,_,_⟩:=hf.F;cases e:own k with
 |some i=>exact .inl ⟨i,rfl⟩
 |none=>
  refine .inr (Nat.le_of_not_lt fun ae=>?_);by_cases hd:σ.m k=some da
  ·have:=(h'.owns k j hk).2.2.2;rw[h'.le.m k _ hd] at this;cases this
  ·exact hf.own k j hk ((f2 k).2 ⟨ae,e,hd,hX⟩)
theorem Inv.rndC {w1:World}{t:D}(h':Inv C S' ρ' σ' own' hv' w0 (σ0.rnd σ own w1 t X) A' a' w'){k:Nat}(hk:(∃o x,σ'.c k o=some x)∨∃x,σ'.m k=some x)(hX:¬X k):(∃o x,σ.c k o=some x)∨(∃x,σ.m k=some x)∨(∃i,own k=some i)∨w1.heap.size≤k:=by
 obtain⟨t',fx,cx,hf,_⟩:=h'.frame;obtain⟨_,f2,f3,_,_⟩:=hf.F;cases e:own k with
 |some i=>exact .inr (.inr (.inl ⟨i,rfl⟩))
 |none=>
  by_cases hm:∃x,σ.m k=some x
  ·exact .inr (.inl hm)
  by_cases hc:∃o x,σ.c k o=some x
  ·exact .inl hc
  refine .inr (.inr (.inr (Nat.le_of_not_lt fun ae=>?_)));have W9:σ.m k=none:=by
   cases e2:σ.m k with
   |none=>rfl
   |some x=>exact absurd ⟨x,e2⟩ hm
  have lj:cx k:=(f3 k).2 ⟨(f2 k).2 ⟨ae,e,by rw[W9];simp,hX⟩,fun o=>by
   cases e2:σ.c k o with
   |none=>rfl
   |some x=>exact absurd ⟨o,x,e2⟩ hc,W9⟩
  rcases hk with⟨o,x,hk⟩|⟨x,hk⟩
  ·exact hf.c k o x hk lj
  ·exact hf.m k x hk lj
theorem Inv.ofRnd {w1:World}(h:Inv C S ρ σ own hv w0 σ0 A a w1){t:D}{fx cx:Nat→Prop}(dm:FrOK σ own w0.heap.size σ0 w1 t fx cx)(hX:∀k,fx k→¬X k)(h':Inv C S' ρ' σ' own' hv' w0 (σ0.rnd σ own w1 t X) A' a' w'):
 Inv C S' ρ' σ' own' hv' w0 σ0 A' a' w':=by
 have hb:=h.rndBelow h';have j2:=h';obtain⟨t',pJ,lN,hf,ht⟩:=j2.frame;obtain⟨f1,f2,f3,f4,f5⟩:=hf.F;have ae:=σ0.lt _ _ _ _ dm.F;have bG:=σ0.sub _ _ _ _ dm.F
 have p9:∀k,fx k→own k=none:=fun k hk=>by
  cases e:own k with
  |none=>rfl
  |some j=>exact absurd hk (dm.own k j e)
 have l8:∀k,cx k→¬((∃o x,σ'.c k o=some x)∨∃x,σ'.m k=some x):=fun k hk hc=>by
  have h1:=bG k hk;rcases Inv.rndC h' hc (hX k h1) with⟨o,x,e⟩|⟨x,e⟩|⟨j,e⟩|e
  ·exact dm.c k o x e hk
  ·exact dm.m k x e hk
  ·exact dm.own k j e h1
  ·have:=ae k h1;omega
 refine⟨h'.defers,h'.ok,h.le.trans h'.le,h.old,fun k o x e=>(h'.newc k o x e).elim (h.newc k o x) .inr,fun k x e=>(h'.newm k x e).elim (h.newm k x) .inr,h'.below,h'.bw,h'.owns,h'.regs,h'.objs,h'.opts,t,fx,cx,
  ⟨σ0.keep _ _ _ _ _ dm.F hb fun k hk=>Inv.rndSame h.ok h' (ae k hk) (p9 k hk) (hX k hk),fun k j hk ln=>?_,fun k o x e hc=>l8 k hc (.inl ⟨o,x,e⟩),fun k x e hc=>l8 k hc (.inr ⟨x,e⟩),fun k e hB ln=>?_⟩,fun j hj=>⟨(ht j hj).1,by rw[(ht j hj).2,f1]⟩⟩
 ·rcases Inv.rndOwn h' hk (hX k ln) with⟨i,e⟩|e
  ·exact dm.own k i e ln
  ·have:=ae k ln;omega
 ·by_cases hd:σ.m k=some da
  ·exact dm.d k hd hB ln
  ·exact hf.d k e hB ((f2 k).2 ⟨ae k ln,p9 k ln,hd,hX k ln⟩)
theorem Inv.restore (h:Inv C S ρ σ own hv w0 σ0 A a w)(hn:∀t gs s,S.r t≠.opt gs s)(hd:kR σ w0.heap.size a'.defers)(hr:∀t,isNone (S.r t)=false→a'.tmps.getD t undef=a.tmps.getD t undef∧ρ'.r t=ρ.r t)(ho:∀j,oL (S.o j)=false→ρ'.o j=ρ.o j):
 Inv C S ρ' σ own hv w0 σ0 (fun _=>False) a' w:=by
 refine⟨hd,h.ok,h.le,h.old,h.newc,h.newm,h.below,h.bw,h.owns,fun t=>?_,fun j=>?_,fun t gs s e=>absurd e (hn t gs s),?_⟩
 ·cases hs:isNone (S.r t) with
  |true=>cases hc:S.r t<;>rw[hc] at hs<;>simp[isNone] at hs;trivial
  |false=>
   rw[(hr t hs).1,(hr t hs).2];exact aE.mono' (.refl σ) (.refl S hv) (hn t) (h.regs t)
 ·cases hs:oL (S.o j) with
  |true=>cases hc:S.o j<;>rw[hc] at hs<;>simp[oL] at hs;trivial
  |false=>exact(h.objs j).mono (.refl σ) (.refl S hv) rfl (ho j hs) (fun k hk=>⟨hk,rfl⟩)
 ·obtain⟨t,fx,cx,h1,h2⟩:=h.frame;exact⟨t,fx,cx,h1,fun j hj=>⟨(h2 j hj).1,by rw[ho j (by rw[hj];rfl)];exact(h2 j hj).2⟩⟩
theorem kR.mem {σ:Im}{B:Nat}:∀{ds:List Deferred} {d:Deferred},d∈ds→kR σ B ds→∃D,d={target:=.collected D,args:=#[]}∧σ.m D=some da
 |x::ds,d,hm,⟨⟨D,h1,h2,_⟩,h⟩=>by
  rcases cW.1 hm with e|e
  ·subst e;exact⟨D,h1,h2⟩
  ·exact kR.mem e h
def Im.mark (σ:Im)(D:Nat):Im:=⟨σ.c,fun k=>if k=D then some da else σ.m k⟩
theorem Vt (w:World)(o1 o2:Obj):Below w.heap.size w ((w.alloc o1).alloc o2):=(((Below.refl _ w).alloc (aX _) o1).alloc (by simp) o2)
theorem Inv.enter (h:Inv C S ρ σ own hv w0 σ0 A a w)(r:Loop):
 Inv C S ρ (σ.mark w.heap.size) own hv w0 σ0 A {a with defers:={target:=.collected w.heap.size,args:=#[]}::a.defers} ((w.alloc (.deferred (some []))).alloc (.loop r)):=by
 have hD:((w.alloc (.deferred (some []))).alloc (.loop r)).heap[w.heap.size]?=some (.deferred (some [])):=(Below.heap_alloc _ _ _ (by simp)).trans (World.alloc_heap_new w _);have hle:σ.le (σ.mark w.heap.size):=by
  refine⟨fun _ _ _ e=>e,fun k x e=>?_⟩;have:k≠w.heap.size:=by have:=h.ltm e;omega
  simp[Im.mark,this,e]
 have C3:∀k x,(σ.mark w.heap.size).m k=some x→σ.m k=some x∨(k=w.heap.size∧x=da):=by
  intro k x e;simp only[Im.mark] at e;split at e
  ·rename_i e2;cases e;exact .inr ⟨e2,rfl⟩
  ·exact .inl e
 have hb:=Vt w (.deferred (some [])) (.loop r);have az:(σ.mark w.heap.size).ok ((w.alloc (.deferred (some []))).alloc (.loop r)):=by
  have h1:=h.ok.below hb;refine⟨h1.c,fun k x e=>?_⟩;rcases C3 k x e with e|⟨rfl,rfl⟩
  ·exact h1.m k x e
  ·exact .inr ⟨rfl,hD⟩
 have hw:=h.world hle az hb (fun _ _ _ e=>.inl e) (fun k x e=>(C3 k x e).imp id fun e=>by omega);have oA:=hw.defers;refine⟨⟨⟨_,rfl,by simp[Im.mark],h.below.size,fun hm=>?_⟩,oA⟩,hw.ok,hw.le,hw.old,hw.newc,hw.newm,hw.below,hw.bw,hw.owns,hw.regs,hw.objs,hw.opts,hw.frame⟩;obtain⟨D,e1,e2⟩:=kR.mem hm h.defers;have:D=w.heap.size:=by cases e1;rfl
 subst this;have:=h.ltm e2;omega
end
end Cx
