/-
  Shared texts of this claim.
-/
import Derived.Test.YtmnnipoiigfapaaGreatDoorHAD
import Derived.Tactics
import Derived.RangeFuncIn
import Derived.OrdersIn
import Derived.RangeFuncRecord
set_option linter.unusedSimpArgs false
set_option linter.unusedVariables false
namespace Cx
open Go Go.RowKit
inductive Gh where
 |fz (j:Nat)|fbox (b:Nat)|rereg (t j:Nat)|recell (b i j:Nat)|home (b i j:Nat) (T:TypeId)
def Gh.run (C:Ctx)(S:St):Gh→Option (St×List PI)
 |.fz j=>some (S.fz j,[])
 |.fbox b=>CQ S b
 |.rereg t j=>xT S t j
 |.recell b i j=>Fu S b i j
 |.home b i j T=>DA C S b i j T
def jL (C:Ctx):List Gh→St→Option (St×List PI)
 |[],S=>some (S,[])
 |g::gs,S=>(g.run C S).bind fun r=>(jL C gs r.1).map fun q=>(q.1,r.2++q.2)
theorem oM {Φ:aQ}:∀{a b:List PI} {ρ:Env},PI.runs Φ (a++b) ρ=(PI.runs Φ a ρ).bind (PI.runs Φ b)
 |[],b,ρ=>by simp[PI.runs]
 |x::a,b,ρ=>by
  simp only[FX,PI.runs];cases x.run Φ ρ with
  |none=>rfl
  |some ρ1=>simp[oM (a:=a) (b:=b)]
def pH (S:St)(ops:Array Oper)(o:Oper):Option (List (Nat×Bool)):=
 match o.guard with
 |none=>some []
 |some (j,want)=>
  match(ops[j]?).bind (·.dst) with
  |some t=>
   match S.r t with
   |.dat .bool=>some [(t,want)]
   |.opt gs (.dat .bool)=>some ((t,want)::gs)
   |_=>none
  |none=>none
def vc (S:St)(gs:List (Nat×Bool)):Op→List Nat
 |.build _ ps=>bT S gs (ps.toList.map (·.2))
 |.buildSlice _ _ ps=>bT S gs (ps.toList.map (·.2))
 |.box _ x=>match fw S gs x with|.agg _=>[]|_=>bT S gs [x]
 |.pick _ x y=>bT S gs [x,y]
 |.slice _ x _ _ _=>bT S gs [x]
 |.mapUpdate _ _ k v=>bT S gs [k,v]
 |.insert _ _ k v=>bT S gs [k,v]
 |.store _ x v=>match fw S gs x with|.eptr ..=>bT S gs [v]|_=>[]
 |_=>[]
def Ce:List Sh→List Nat
 |[]=>[]
 |.obj j _::r=>j::Ce r
 |_::r=>Ce r
def Gk (S:St)(gs:List (Nat×Bool)):List Operand→List Nat
 |[]=>[]
 |x::xs=>
  match fw S gs x with
  |.ptr j ver off=>bif Nat.beq ver (S.ver j)&&(match S.o j with|.box ..=>true|_=>false) then j::Gk S gs xs else Gk S gs xs
  |_=>Gk S gs xs
def Z3 (C:Ctx):Fn→Bool
 |.func f=>(match C.sig f with|some s=>pW s.mode|none=>false)
 |_=>false
theorem anW {α:Type}{b:Bool}{x:α}{l:List α}(h:x∈bif b then[] else l):x∈l:=by
 cases b with
 |true=>cases h
 |false=>exact h
def pre (C:Ctx)(S:St)(gs:List (Nat×Bool))(op:Op):List Gh:=
 match op with
 |.makeFunc fn _ caps=>
  bif Z3 C fn then[] else(Gk S gs caps.toList).flatMap fun b=>(match S.o b with|.box _ shs=>(Ce shs).map .fz|_=>[])++[.fbox b]
 |.load T x=>
  match fw S gs x,pV C.P T,C.P.info? T with
  |.ptr j _ off,some true,some inf=>bif LI C j then[] else(match S.o j with|.box _ shs=>((Ce ((shs.drop off).take inf.size)).filter fun j=>kT (S.o j)).map .fz|_=>[])
  |_,_,_=>[]
 |op=>(vc S gs op).map .fz
def p9 (C:Ctx)(S:St)(gs:List (Nat×Bool))(o:Oper):List Gh:=
 match o.op,o.dst with
 |.assign x,some t=>bif C.fr.any (Nat.beq t) then(bT S gs [x]).map .fz else[]
 |_,_=>[]
def ME (P:Program):Nat→TypeId→List (Option TypeId)
 |0,_=>[]
 |n+1,t=>
  match P.underlying t with
  |some (.struct fs)=>fs.toList.flatMap fun f=>ME P n f.type
  |some (.array len e)=>(List.replicate len (ME P n e)).flatten
  |some (.slice e)=>[some e]
  |_=>[none]
def homes (P:Program)(b off:Nat)(T:TypeId):List Gh:=
 ((ME P 12 T).zipIdx).filterMap fun x=>x.1.map fun e=>.home b (off+x.2) (gu b (off+x.2)) e
def I5 (nh:List Nat)(l:List Gh):List Gh:=l.filter fun g=>match g with|.home _ _ j _=> !(nh.any (Nat.beq j))|_=>true
def ac1 (b off n:Nat):List Gh:=(List.range n).map fun i=>.recell b (off+i) (gu b (off+i))
def post (C:Ctx)(S:St)(o:Oper):List Gh:=
 match o.op,o.dst with
 |.assign _,some t=>[.rereg t t]
 |.alloc T,some t=>I5 C.nh (homes C.P t 0 T)
 |.store T x _,_=>
  match fw S [] x with
  |.ptr j _ off=>I5 C.nh (homes C.P j off T)++ac1 j off (match C.P.info? T with|some i=>i.size|none=>0)
  |_=>[]
 |_,_=>[]
def rf:Sh→Bool
 |.opt ..=>false
 |_=>true
def ud (C:Ctx)(S:St)(dst:Nat)(T:TypeId)(x:Operand):kH:=
 match x with
 |.const v=>(oS C.P T).bind fun t=>(oT t).bind fun z=>bif jE t v then some (S.setR dst (.dat z.1),[.setR dst (.con z.2)]) else none
 |_=>none
def core (C:Ctx)(S:St)(gs:List (Nat×Bool))(o:Oper):Option (St×List PI):=
 match o.dst with
 |some dst=>
  match oy C S gs dst o.op with
  |some r=>bif rf r.1 then some (S.setR dst (jf gs r.1),r.2) else none
  |none=>
   match o.op,gs with
   |.assign x,[]=>
    bif C.fr.any (Nat.beq dst) then
          match p6 C S [] dst x with
          |some r=>some (S.setR dst r.1,r.2)
          |none=>ud C S dst o.type x
    else
    match Cz C S dst o.type x with
    |some r=>some r
    |none=>
     match p6 C S [] dst x with
     |some r=>some (S.setR dst r.1,r.2)
     |none=>ud C S dst o.type x
   |.alloc T,[]=>Co C S dst T
   |.box T x,[]=>Cq C S dst T x
   |.buildSlice T n ps,gs=>
    match gs with
    |[]=>wu C S [] dst T n ps.toList
    |_=>zB C S gs dst T n ps.toList
   |.makeSlice T l c,[]=>Cw C S dst T l c
   |.makeMap T r,[]=>Cv C S dst T r
   |.range T x,[]=>CA C S dst T x
   |.convert T U x,[]=>Cr C S dst T U x
   |.call c,gs=>
    match c.callee,gs with
    |.builtin .append,[]=>
     match c.args.toList,c.argTypes.toList with
     |[s,x],[T,T']=>bif Nat.beq T T' then Cp C S dst T s x else none
     |_,_=>none
    |.value (.func f),gs=>
     match pA C S gs dst f c.args.toList with
     |some r=>some (r.1.setR dst (jf gs r.2.1),r.2.2)
     |none=>
      match gs with
      |[]=>
       match Ct C S dst f c.args.toList with
       |some r=>some r
       |none=>
        match Cu C S dst f c.args.toList with
        |some r=>some r
        |none=>
        match Cs C S dst f c.args.toList with
        |some r=>some r
        |none=>(qI C S f c.args.toList []).map (p5 S (some dst))
      |_=>none
    |.value x,gs=>
     match nQ C S gs dst x c.args.toList with
     |some r=>some (r.1.setR dst (jf gs r.2.1),r.2.2)
     |none=>
      match x,gs with
      |.tmp t,[]=>(zA C S t c.args.toList).map (p5 S (some dst))
      |_,_=>none
    |_,_=>none
   |.makeFunc fn first caps,[]=>Cy C S dst fn first caps
   |_,_=>none
 |none=>
  match o.op,gs with
  |.store T x v,[]=>uc C S T x v
  |.mapUpdate T m k v,[]=>sr C S T m k v
  |.insert T m k v,[]=>sr C S T m k v
  |.panic _,[]=>some (S,[.chk (.nt (.con (.bool true)))])
  |.call c,[]=>
   match c.callee with
   |.value (.func f)=>(qI C S f c.args.toList []).map (p5 S none)
   |.value (.tmp t)=>(zA C S t c.args.toList).map (p5 S none)
   |_=>none
  |_,_=>none
def abr (dst:Nat)(l:List PI):Bool:=l.all fun p=>p.modR.all (Nat.beq dst)&&p.modO.isEmpty
def jh (gs:List (Nat×Bool))(dst:Option Nat)(l:List PI):Bool:=
 match gs,dst with
 |[],_=>true
 |_,some d=>abr d l
 |_,none=>false
def Cj (C:Ctx)(S:St)(ops:Array Oper)(o:Oper):Option (St×List PI):=
 (pH S ops o).bind fun gs=>
 (jL C (pre C S gs o.op++p9 C S gs o) S).bind fun r1=>
 (core C r1.1 gs o).bind fun r2=>
 (jL C (post C r2.1 o) r2.1).bind fun r3=>
 bif jh gs o.dst r2.2 then some (r3.1,r1.2++r2.2++r3.2) else none
def FH:PI:=.chk (.con (.v (.bool false)))
def zw (C:Ctx)(S:St)(ops:Array Oper)(o:Oper):Option (St×List PI):=
 match Cj C S ops o with
 |some r=>some r
 |none=>some (match o.dst with|some d=>S.setR d .none|none=>S,[FH])
section
variable {C:Ctx} {S:St} {ρ:Env} {σ:Im} {own:Nat→Option Nat} {hv:Nat→Value} {w0:World} {σ0:Base} {A:Nat→Prop} {a:Act} {w:World} {gs:List (Nat×Bool)} {Φ:aQ} {dst:Nat}
theorem Gh.sound {g:Gh}{r:St×List PI}(h:Good C w0 σ0 S ρ A a w)(hr:g.run C S=some r):BJ C w0 σ0 Φ S ρ A a w r:=by
 obtain⟨σ,own,hv,h⟩:=h;cases g with
 |fz j=>
  simp only[Gh.run,aU] at hr;subst hr;intro ρ' ak;rw[nA ak];obtain⟨σ',own',_,h'⟩:=h.fz j;exact⟨σ',own',hv,h'⟩
 |fbox b=>exact aiu h hr
 |rereg t j=>exact aqD h hr
 |recell b i j=>exact aqC h hr
 |home b i j T=>exact akN h hr
theorem Nf:∀(l:List Gh) {S:St} {ρ ρ':Env} {r:St×List PI},Good C w0 σ0 S ρ A a w→jL C l S=some r→PI.runs Φ r.2 ρ=some ρ'→Good C w0 σ0 r.1 ρ' A a w
 |[],S,ρ,ρ',r,h,hr,ak=>by
  simp only[jL,aU] at hr;subst hr;rw[nA ak];exact h
 |g::l,S,ρ,ρ',r,h,hr,ak=>by
  simp only[jL,av,aA] at hr;obtain⟨q,hq,q2,jo,rfl⟩:=hr;simp only[oM,av] at ak;obtain⟨ρ1,h1,h2⟩:=ak;exact Nf (r:=q2) l (Gh.sound (Φ:=Φ) h hq ρ1 h1) jo h2
theorem W5 (h:Good C w0 σ0 S ρ A a w){ops:Array Oper}{o:Oper}(hg:pH S ops o=some gs):Region.wanted o (yielded ops a.tmps)=holds gs ρ:=by
 obtain⟨σ,own,hv,h⟩:=h;unfold pH at hg;unfold Region.wanted;split at hg
 ·rename_i e;cases hg;simp[e,holds]
 ·rename_i j want e;simp only[e];split at hg
  case h_2=>cases hg
  rename_i t ht;have fY:=h.regs t;have hy:∀v,a.tmps.getD t undef=v→(∀b,v=.bool b→yielded ops a.tmps j=some b)∧(v=undef→yielded ops a.tmps j=none):=by
   intro v hv';unfold yielded;rw[ht];simp only[j9];rw[dU] at hv';cases uA:a.tmps[t]? with
   |none=>rw[uA] at hv';simp at hv';subst hv';exact⟨fun b e=>absurd e (by simp[undef]),fun _=>rfl⟩
   |some u=>rw[uA] at hv';simp at hv';subst hv';exact⟨fun b e=>by subst e;rfl,fun e=>by subst e;rfl⟩
  split at hg
  ·rename_i es;cases hg;rw[es] at fY;obtain⟨b,gZ,dk⟩:=Rep.bool_inv fY;rw[(hy _ gZ).1 b rfl];simp[holds,dk,D.b_bool]
  ·rename_i bR es;cases hg;rw[es] at fY;simp only[holds,qu];cases hh:holds bR ρ with
   |true=>
    obtain⟨b,gZ,dk⟩:=Rep.bool_inv (fY.1 hh);rw[(hy _ gZ).1 b rfl];unfold holds at hh;rw[hh,dk];simp[D.b_bool]
   |false=>
    rw[(hy _ (fY.2 hh)).2 rfl];unfold holds at hh;rw[hh];simp
  ·cases hg
theorem W4 (h:Good C w0 σ0 S ρ A a w){ops:Array Oper}{o:Oper}(hg:pH S ops o=some gs)(hj:∀j want t,o.guard=some (j,want)→(ops[j]?).bind (·.dst)=some t→A t):∀g,g∈gs→A g.1:=by
 obtain⟨σ,own,hv,h⟩:=h;unfold pH at hg;split at hg
 ·cases hg;simp
 ·rename_i j want e;split at hg
  case h_2=>cases hg
  rename_i t ht;have hA:=hj j want t e ht;split at hg
  ·cases hg;intro g hm;simp at hm;subst hm;exact hA
  ·rename_i bR es;cases hg;intro g hm;rcases cD.1 hm with e'|fg
   ·subst e';exact hA
   ·exact(h.opts t bR _ es).1 g fg
  ·cases hg
theorem aoQ (h:Inv C S ρ σ own hv w0 σ0 A a w)(hC:CtxOK C σ0)(hg:holds gs ρ=true){o:Oper}{r:Sh×List PI}(hr:oy C S gs dst o.op=some r):ei C S ρ σ hv Φ dst a w o r:=by
 unfold oy at hr;split at hr
 ·rename_i x e;exact abw h hC hg hr (.inl e)
 ·rename_i c x y e;exact aoP h hC hg hr e
 ·rename_i op T x y T' e;exact aoq h hC hg hr e
 ·rename_i op T x e;exact aoU h hC hg hr e
 ·rename_i s d x e;exact aou h hC hg hr e
 ·rename_i T x e;exact Ec h hC hg hr e
 ·rename_i T x i e;exact aoy h hC hg hr e
 ·rename_i T x i e;exact aoA h hC hg hr e
 ·rename_i T x i e;exact aoD h hC hg hr e
 ·rename_i T x i e;exact aoF h hC hg hr e
 ·rename_i x i e;exact aow h hC hg hr e
 ·rename_i T m k ok e;exact aoL h hC hg hr e
 ·rename_i T x lo hi mx e;exact aoS h hC hg hr e
 ·rename_i f a b e;exact aoB h hC hg hr e
 ·rename_i T ps e;exact aos h hC hg hr e
 ·rename_i x e;exact aoN h hC hg hr e
 ·cases hr;intro ρ' ak;have:=(R7 hg ak).1;cases this
 ·rename_i c e;split at hr
  ·rename_i x T hc ha ht;refine aoH h hC hg hr ?_;rw[e];cases c with|mk callee args argTypes=>
   simp only at hc ha ht;have h1:args=#[x]:=by rw[←tK];exact ha
   have h2:argTypes=#[T]:=by rw[←tK];exact ht
   rw[hc,h1,h2]
  ·rename_i x y hc ha;refine abu (ts:=c.argTypes) h hC hg hr ?_;rw[e];cases c with|mk callee args argTypes=>
   simp only at hc ha;have h1:args=#[x,y]:=by rw[←tK];exact ha
   rw[hc,h1];rfl
  ·rename_i x y hc ha;refine abu (ts:=c.argTypes) h hC hg hr ?_;rw[e];cases c with|mk callee args argTypes=>
   simp only at hc ha;have h1:args=#[x,y]:=by rw[←tK];exact ha
   rw[hc,h1];rfl
  ·cases hr
 ·cases hr
theorem agH (h:Inv C S ρ σ own hv w0 σ0 A a w)(ht:¬A dst)(ah:dst<a.tmps.size){T:TypeId}{x:Operand}{r:St×List PI}(hr:ud C S dst T x=some r){o:Oper}(hd:o.dst=some dst)(ho:o.op=.assign x):bZ C w0 σ0 Φ S ρ A a w o r:=by
 unfold ud at hr;split at hr
 case h_2=>cases hr
 rename_i v;simp only[av] at hr;obtain⟨t,_,z,hz,hr⟩:=hr;cases hc:jE t v<;>simp only[hc,cond_true,cond_false] at hr
 ·cases hr
 cases hr;have bW:=(yf (cap:=C.cap) (σ:=σ) hz hc).1;refine bZ.value hd fun ρ' ak=>⟨v,w,by simp[execOp,ho,Act.eval],?_⟩
 have hρ:ρ'=ρ.setR dst z.2:=by simp[PI.runs,PI.run,PE.ev] at ak;exact ak.symm
 subst hρ;exact⟨_,_,_,h.setReg ht (s:=.dat z.1) bW ah (fun _ _ e=>by cases e)⟩
theorem afR (h:Inv C S ρ σ own hv w0 σ0 A a w)(hC:CtxOK C σ0)(be:dx C)(hΦ:di C Φ){o:Oper}(ht:∀d,o.dst=some d→¬A d∧d<a.tmps.size)(dt:∀g,g∈gs→A g.1)(hg:holds gs ρ=true){r:St×List PI}
 (hr:core C S gs o=some r):bZ C w0 σ0 Φ S ρ A a w o r:=by
 unfold core at hr;split at hr
 ·rename_i dst hd;obtain⟨fZ,ga⟩:=ht dst hd;split at hr
  ·rename_i q hq;cases du:rf q.1<;>simp only[du,cond_true,cond_false] at hr
   ·cases hr
   cases hr;have Ye:=aoQ (Φ:=Φ) h hC hg hq;cases gs with
   |nil=>exact Ye.eff h fZ ga hd
   |cons g bR=>exact Ye.effG h fZ ga dt hg hd
  ·rename_i N9;clear N9;split at hr
   ·rename_i x e
    have mv:∀r,(match p6 C S [] dst x with|some r=>some (S.setR dst r.1,r.2)|none=>ud C S dst o.type x)=some r→bZ C w0 σ0 Φ S ρ A a w o r:=by
     intro r hr;split at hr
     ·rename_i q hq;cases hr;exact(abw (Φ:=Φ) h hC hg hq (.inr e)).eff h fZ ga hd
     ·exact agH h fZ ga hr hd e
    cases dg:C.fr.any (Nat.beq dst)<;>simp only[dg,cond_true,cond_false] at hr
    ·split at hr
     ·rename_i q hq;cases hr;exact agz h hC fZ ga hq hd e
     ·exact mv r hr
    ·exact mv r hr
   ·rename_i T e;exact af4 h fZ ga hr hd e
   ·rename_i T x e;exact af8 h hC fZ ga hr hd e
   ·rename_i T n ps e;split at hr
    ·exact aga h hC fZ ga hr hd e
    ·exact agr h hC fZ ga dt hg hr hd e
   ·rename_i T l c e;exact agv h hC fZ ga hr hd e
   ·rename_i T m e;exact agt h fZ ga hr hd e
   ·rename_i T x e;exact agC h fZ ga hr hd e
   ·rename_i T U x e;exact agc h hC fZ ga hr hd e
   ·rename_i c e;cases c with|mk callee args argTypes=>
    split at hr
    ·rename_i hc;simp only at hc;split at hr
     ·rename_i s x T T' ha ON;simp only at ha ON;cases hT:Nat.beq T T'<;>simp only[hT,cond_true,cond_false] at hr
      ·cases hr
      have zP:=az hT;subst zP;refine af6 h hC fZ ga hr hd ?_;have h1:args=#[s,x]:=by rw[←tK];exact ha
      have h2:argTypes=#[T,T]:=by rw[←tK];exact ON
      rw[e,hc,h1,h2]
     ·cases hr
    ·rename_i f hc;simp only at hc;split at hr
     ·rename_i q hq;cases hr;exact agp h hC be hΦ fZ ga dt hg hq hd (by rw[e,hc])
     ·split at hr
      ·split at hr
       ·rename_i q hq;cases hr;exact agk h hC be hΦ fZ ga hq hd (by rw[e,hc])
       ·split at hr
        ·rename_i q hq;cases hr;exact agm h hC be hΦ fZ ga hq hd (by rw[e,hc])
        split at hr
        ·rename_i q hq;cases hr;exact agi h hC be hΦ fZ ga hq hd (by rw[e,hc])
        ·simp only[aA] at hr;obtain⟨q,hq,rfl⟩:=hr;rw[←hd];exact Wm h hC be hΦ ht hq (by rw[e,hc])
      ·cases hr
    ·rename_i x IL hc;simp only at hc;split at hr
     ·rename_i q hq;cases hr;exact agf h hC be hΦ fZ ga dt hg hq hd (by rw[e,hc])
     ·split at hr
      ·simp only[aA] at hr;obtain⟨q,hq,rfl⟩:=hr;rw[←hd];exact Wk h hC be hΦ ht hq (by rw[e,hc])
      ·cases hr
    ·cases hr
   ·rename_i fn first caps e;exact agx h fZ ga hr hd e
   ·cases hr
 ·rename_i hd;split at hr
  ·rename_i T x v e;exact agF h hC hr hd e
  ·rename_i T m k v e;exact Wo h hC hr hd (.inl e)
  ·rename_i T m k v e;exact Wo h hC hr hd (.inr e)
  ·cases hr;intro ρ' ak;simp[PI.runs,PI.run,PE.ev,D.bool,D.b] at ak
  ·rename_i c e;cases c with|mk callee args argTypes=>
   split at hr
   ·rename_i f hc;simp only at hc;simp only[aA] at hr;obtain⟨q,hq,rfl⟩:=hr;rw[←hd];exact Wm h hC be hΦ ht hq (by rw[e,hc])
   ·rename_i t hc;simp only at hc;simp only[aA] at hr;obtain⟨q,hq,rfl⟩:=hr;rw[←hd];exact Wk h hC be hΦ ht hq (by rw[e,hc])
   ·cases hr
  ·cases hr
theorem afP {g:Nat×Bool}{bR:List (Nat×Bool)}{o:Oper}{r:St×List PI}(hr:core C S (g::bR) o=some r):
 ∃dst S2 s,o.dst=some dst∧r.1=S2.setR dst (.opt (g::bR) s)∧((∃js,S2=S.fzs js)∨∃j,S2=S.newO j .dead)∧(∀gs s',s≠.opt gs s')∧(∀x,o.op≠.assign x)∧(∀T,o.op≠.alloc T)∧∀T x v,o.op≠.store T x v:=by
 unfold core at hr;split at hr
 ·rename_i dst hd;split at hr
  ·rename_i q hq;cases du:rf q.1<;>simp only[du,cond_true,cond_false] at hr
   ·cases hr
   cases hr;refine⟨dst,S,q.1,hd,rfl,.inl ⟨[],rfl⟩,(fun gs s' e=>by rw[e] at du;cases du),fun x e=>?_,fun T e=>?_,fun T x v e=>?_⟩<;>(rw[e] at hq;simp[oy] at hq)
  ·rename_i N9;clear N9;split at hr
   case h_4=>
        rename_i T n ps e;split at hr
        ·rename_i hx;cases hx
        ·unfold zB at hr;split at hr
         case h_2=>cases hr
         simp only[av] at hr;obtain⟨e0,Xx,hr⟩:=hr;split at hr
         ·cases hr;exact⟨dst,_,.dat (.slice e0.rol),hd,rfl,.inr ⟨dst,rfl⟩,(fun _ _ e=>by cases e),(fun x e'=>by rw[e] at e';cases e'),(fun x e'=>by rw[e] at e';cases e'),(fun _ _ _ e'=>by rw[e] at e';cases e')⟩
         ·cases hr
   case h_9=>
        rename_i c e;split at hr
        ·rename_i hx;cases hx
        ·rename_i f hc;split at hr
         ·rename_i q hq;cases hr;simp only[pA,av] at hq;obtain⟨s,hs,hq⟩:=hq;split at hq
          case h_2=>cases hq
          simp only[av] at hq;obtain⟨u,hu,hq⟩:=hq;cases bS:Ty.subs u.1 s.args<;>simp only[bS,cond_true,cond_false] at hq
          ·cases hq
          cases hq;refine⟨dst,_,.dat s.res,hd,rfl,?_,(fun _ _ e=>by cases e),(fun x e'=>by rw[e] at e';cases e'),(fun x e'=>by rw[e] at e';cases e'),(fun _ _ _ e'=>by rw[e] at e';cases e')⟩;left;cases s.res.pure
          ·exact⟨_,rfl⟩
          ·exact⟨[],rfl⟩
         ·cases hr
        ·rename_i x IL hc;have hr:∃q,nQ C S (g::bR) dst x c.args.toList=some q∧(q.1.setR dst (jf (g::bR) q.2.1),q.2.2)=r:=by
          split at hr
          ·rename_i q hq;cases hr;exact⟨q,hq,rfl⟩
          ·split at hr
           all_goals (first|(cases hr;done)|(rename_i hx;cases hx;done)|(rename_i hx _;cases hx;done)|(rename_i hx _ _;cases hx;done)|(rename_i hx;exact absurd hx (by simp)))
         obtain⟨q,hq,rfl⟩:=hr;unfold nQ at hq;split at hq
         case h_2=>cases hq
         rename_i aa r0 ee OO;split at hq
         case h_1=>cases hq
         simp only[av] at hq;obtain⟨u,hu,hq⟩:=hq;cases bS:Ty.subs u.1 aa<;>simp only[bS,cond_true,cond_false] at hq
         ·cases hq
         cases hq;refine⟨dst,_,.dat r0,hd,rfl,?_,(fun _ _ e=>by cases e),(fun x e'=>by rw[e] at e';cases e'),(fun x e'=>by rw[e] at e';cases e'),(fun _ _ _ e'=>by rw[e] at e';cases e')⟩;left;cases r0.pure
         ·exact⟨_,rfl⟩
         ·exact⟨[],rfl⟩
        ·cases hr
   all_goals (first|(cases hr;done)|(rename_i hx;cases hx;done)|(rename_i hx _;cases hx;done))
 ·split at hr
  all_goals (first|(cases hr;done)|(rename_i hx;cases hx;done)|(rename_i hx _;cases hx;done))
theorem X8 {ρ ρ1:Env}:∀{l:List (Nat×Bool)},(∀g,g∈l→ρ1.r g.1=ρ.r g.1)→holds l ρ1=holds l ρ
 |[],_=>rfl
 |x::l,h=>by
  have ih:=X8 (l:=l) fun y hy=>h y (dj _ hy);unfold holds at ih ⊢;simp only[qu];rw[ih,h x (dq ..)]
theorem W0:∀(l:List Gh) {S:St} {r:St×List PI},jL C l S=some r→∀t,t∉r.2.flatMap PI.modR
 |[],S,r,hr=>by simp only[jL,aU] at hr;subst hr;simp
 |g::l,S,r,hr=>by
  simp only[jL,av,aA] at hr;obtain⟨q,hq,q2,jo,rfl⟩:=hr;have ih:=W0 l jo;have hg:∀t,t∉q.2.flatMap PI.modR:=by
   cases g with
   |fz j=>simp only[Gh.run,aU] at hq;subst hq;simp
   |fbox b=>
    simp only[Gh.run,CQ] at hq;split at hq
    case h_2=>cases hq
    simp only[av] at hq;obtain⟨x,hx,hq⟩:=hq;rename_i ag shs eo;cases ag<;>simp only[cond_true,cond_false] at hq
    ·split at hq
     ·cases hq;simp[PI.modR]
     ·cases hq
    ·cases hq;simp[PI.modR]
   |rereg t j=>
    simp only[Gh.run,xT] at hq;split at hq
    ·rename_i j' ver es;cases hb:(Nat.beq ver (S.ver j')&&kT (S.o j')&& !Nat.beq j' j)<;>simp only[hb,cond_true,cond_false] at hq<;>cases hq<;>simp[PI.modR]
    ·cases hq;simp
   |recell b i j=>
    simp only[Gh.run,Fu] at hq;split at hq
    ·split at hq
     ·rename_i ag shs eo j' ver es;cases hb:(Nat.beq ver (S.ver j')&&kT (S.o j')&& !Nat.beq j' j&& !Nat.beq b j&& !Nat.beq b j')<;>simp only[hb,cond_true,cond_false] at hq<;>cases hq<;>simp[PI.modR]
     ·cases hq;simp
    ·cases hq;simp
   |home b i j T=>
    simp only[Gh.run,DA] at hq;split at hq
    ·split at hq
     ·cases hb:(!Nat.beq b j)<;>simp only[hb,cond_true,cond_false] at hq<;>cases hq<;>simp[PI.modR]
     ·cases hq;simp
    ·cases hq;simp
  intro t hm;rw[List.flatMap_append,dy] at hm;exact hm.elim (hg t) (ih t)
theorem afI (h:Good C w0 σ0 S ρ A a w)(hC:CtxOK C σ0)(be:dx C)(hΦ:di C Φ){ops:Array Oper}{o:Oper}(ht:∀d,o.dst=some d→¬A d∧d<a.tmps.size)
 (hj:∀j want t,o.guard=some (j,want)→(ops[j]?).bind (·.dst)=some t→A t) {r:St×List PI} (hr:Cj C S ops o=some r) {ρ':Env} (ak:PI.runs Φ r.2 ρ=some ρ')
 {K:Act→World→Prop} {Q:Exit→Act→World→Prop} (hK:∀a' w',Good C w0 σ0 r.1 ρ' (fun u=>A u∨o.dst=some u) a' w'→a'.tmps.size=a.tmps.size→K a' w'):
 if Region.wanted o (yielded ops a.tmps) then o.wp C.P a w K Q else K (a.put o.dst undef) w:=by
 simp only[Cj,av] at hr;obtain⟨gs,dt,r1,iP,r2,l9,r3,wZ,hr⟩:=hr;have zY:=W4 h dt hj;rw[W5 h dt];cases hc:jh gs o.dst r2.2<;>simp only[hc,cond_true,cond_false] at hr
 ·cases hr
 cases hr;simp only[oM,av] at ak;obtain⟨ρ2,⟨ρ1,hρ1,hρ2⟩,hρ3⟩:=ak;have h1:=Nf _ h iP hρ1;have cE:=h1;obtain⟨σ1,dp,aS,i1⟩:=cE;have It:holds gs ρ1=holds gs ρ:=by
  cases gs with
  |nil=>rfl
  |cons g bR=>
   have hb:=(PI.runs_but hρ1).r
   have:∀x,x∈(g::bR)→ρ1.r x.1=ρ.r x.1:=fun x hm=>hb x.1 (by
        intro cQ;exact W0 _ iP x.1 cQ)
   exact X8 this
 cases hh:holds gs ρ with
 |true=>
  simp only[if_true];rw[hh] at It;refine afR i1 hC be hΦ ht zY It l9 ρ2 hρ2 K Q (fun a' w' fG aK=>?_);exact hK a' w' (Nf (r:=r3) _ fG wZ hρ3) aK
 |false=>
  simp only[vN,if_false];rw[hh] at It;cases gs with
  |nil=>simp[holds] at hh
  |cons g bR=>
   obtain⟨dst,S2,s,hd,hS,pI,hns,n1,n2,n3⟩:=afP l9;obtain⟨t1,t2⟩:=ht dst hd;have km:post C r2.1 o=[]:=by
        unfold post;split
        ·rename_i x t e _;exact absurd e (n1 x)
        ·rename_i T t e _;exact absurd e (n2 T)
        ·rename_i T x v e;exact absurd e (n3 T x v)
        ·rfl
   rw[km] at wZ;simp only[jL,aU] at wZ;subst wZ;have:=nA hρ3;subst this;obtain⟨σ2,iW,i2⟩:∃σ2 iW,Inv C S2 ρ1 σ2 iW aS w0 σ0 A a w:=by
        rcases pI with⟨js,rfl⟩|⟨j,rfl⟩
        ·obtain⟨σ2,iW,_,i2⟩:=Inv.fzs js i1;exact⟨σ2,iW,i2⟩
        ·exact⟨σ1,dp,i1.kill j⟩
   have DC:=i2.passed t1 t2 zY It (s:=s) hns (ρ'.r dst);have hρe:ρ1.setR dst (ρ'.r dst)=ρ':=by
        have hb:=PI.runs_but hρ2;simp only[jh,hd] at hc;unfold abr at hc;rw[bJ] at hc
        have e1:∀t,t≠dst→ρ'.r t=ρ1.r t:=fun t ay=>hb.r t (fun hm=>by
         obtain⟨p,hp,uG⟩:=mR.1 hm;have:=hc p hp;simp only[ao] at this;have:=bJ.1 this.1 t uG;exact ay (az this).symm)
        have e2:∀t,ρ'.o t=ρ1.o t:=fun t=>hb.o t (fun hm=>by
         obtain⟨p,hp,uG⟩:=mR.1 hm;have:=hc p hp;simp only[ao] at this;have h9:=tO.1 this.2;rw[h9] at uG;cases uG)
        have r1:bY ρ1.r dst (ρ'.r dst)=ρ'.r:=by
         funext t;rw[eV];split
         ·rename_i e;subst e;rfl
         ·rename_i ay;exact(e1 t ay).symm
        have r2:ρ1.o=ρ'.o:=funext fun t=>(e2 t).symm;cases ρ' with|mk a b=>simp only[Env.setR] at r1 r2 ⊢;rw[r1,r2]
   rw[hρe] at DC;have gK:(fun u=>A u∨o.dst=some u)=(fun u=>A u∨u=dst):=by funext u;rw[hd];simp[eq_comm]
   rw[gK] at hK;rw[hd];refine hK _ _ ?_ (size_put _ _ _);simp only;rw[hS];exact⟨_,_,_,DC⟩
theorem afK (h:Good C w0 σ0 S ρ A a w)(hC:CtxOK C σ0)(be:dx C)(hΦ:di C Φ){ops:Array Oper}{o:Oper}(ht:∀d,o.dst=some d→¬A d∧d<a.tmps.size)
 (hj:∀j want t,o.guard=some (j,want)→(ops[j]?).bind (·.dst)=some t→A t) {r:St×List PI} (hr:zw C S ops o=some r) {ρ':Env} (ak:PI.runs Φ r.2 ρ=some ρ')
 {K:Act→World→Prop} {Q:Exit→Act→World→Prop} (hK:∀a' w',Good C w0 σ0 r.1 ρ' (fun u=>A u∨o.dst=some u) a' w'→a'.tmps.size=a.tmps.size→K a' w'):
 if Region.wanted o (yielded ops a.tmps) then o.wp C.P a w K Q else K (a.put o.dst undef) w:=by
 unfold zw at hr;split at hr
 ·rename_i q hq;cases hr;exact afI h hC be hΦ ht hj hq ak hK
 ·cases hr;simp[PI.runs,PI.run,FH,PE.ev,D.b_bool] at ak
end
end Cx
namespace Cx
open Go Go.RowKit
def ox:Op→Bool
 |.defer _=>false
 |_=>true
def FR (rd:Option Nat):Fence:={Fence.wide with round:=rd}
theorem VZ {rd:Option Nat}{n:Nat}{P:Program}{f:FuncId}{args:Array Value}{w:World}{R:Ending→World→Prop}(h:Calls P f args w R):CallsIn (FR rd) n P f args w R:=
 (callsIn_wide (n:=n)).2 h
theorem aby {rd:Option Nat}{n:Nat}{P:Program}{o:Oper}{a:Act}{w:World}{K:Act→World→Prop}{Q:Exit→Act→World→Prop}(bp:ox o.op=true)(h:o.wp P a w K Q):o.wpIn (FR rd) n P a w K Q:=by
 refine⟨fun _ _=>trivial,?_⟩;rw[Oper.semAt_eq _ _ _ (fun c e=>by rw[e] at bp;cases bp)];unfold Oper.wp at h;generalize (execOp a.eval o).run P w=x at h;have du:∀{p:Prop},((FR rd).depth.isSome=true→p):=fun e=>by cases e
 cases x with
 |ok v w'=>
  cases v with
  |value v=>exact h
  |skip=>exact h
  |defer d=>exact h
  |enter f args=>
   refine⟨du,(VZ h).mono fun e kF hh=>?_⟩;cases e<;>exact hh
  |row row args=>
   refine⟨du,fun c cs _=>?_⟩;obtain⟨v,w2,h1,h2⟩:=h c cs;exact⟨v,w2,h1,stepsIn_wide.2 h2⟩
  |_=>exact h.elim
 |halt v w'=>
  cases v with
  |panic v=>exact h
  |_=>exact h.elim
structure SameBut (D:Nat→Prop) (a a':Act):Prop where
 size:a'.tmps.size=a.tmps.size
 get:∀t,¬D t→a'.tmps.getD t undef=a.tmps.getD t undef
theorem SameBut.refl (D:Nat→Prop)(a:Act):SameBut D a a:=⟨rfl,fun _ _=>rfl⟩
theorem SameBut.trans {D:Nat→Prop}{a b c:Act}(h:SameBut D a b)(k:SameBut D b c):SameBut D a c:=⟨k.size.trans h.size,fun t ht=>(k.get t ht).trans (h.get t ht)⟩
theorem SameBut.mono {D D':Nat→Prop}{a b:Act}(h:SameBut D a b)(hd:∀t,D t→D' t):SameBut D' a b:=⟨h.size,fun t ht=>h.get t fun e=>ht (hd t e)⟩
theorem SameBut.put (a:Act)(d:Option Tmp)(v:Value)(ds:List Deferred):SameBut (fun t=>d=some t) a ({a with defers:=ds}.put d v):=by
 refine⟨size_put _ _ _,fun t ht=>?_⟩;cases d with
 |none=>rfl
 |some u=>
  have:t≠u:=fun e=>ht (by rw[e]);rw[xZ];simp[this]
theorem Oper.wp_same {P:Program}{o:Oper}{a:Act}{w:World}{K:Act→World→Prop}{Q:Exit→Act→World→Prop}(h:o.wp P a w (fun a' w'=>SameBut (fun t=>o.dst=some t) a a'→K a' w') Q):o.wp P a w K Q:=by
 unfold Oper.wp at h ⊢;generalize (execOp a.eval o).run P w=x at h ⊢;cases x with
 |ok v w'=>
  cases v with
  |value v=>exact h (SameBut.put a _ _ a.defers)
  |skip=>exact h (SameBut.put a _ _ a.defers)
  |defer d=>exact h (SameBut.put a _ _ _)
  |enter f args=>
   refine Calls.mono h fun e kF hh=>?_;cases e with
   |returned v=>exact hh (SameBut.put a _ _ a.defers)
   |panicked c=>exact hh
   |outgrown=>exact hh
  |row row args=>exact Rows.mono h fun v kF hh=>hh (SameBut.put a _ _ a.defers)
  |_=>exact h
 |halt v w'=>
  cases v with
  |panic v=>exact h
  |_=>exact h
def VC (P:Program)(v:Value)(args:List Value)(w:World)(R:Value→World→Prop):Prop:=
 ∀(rd:Option Nat) (o:Oper) (a:Act) (x:Operand) (aa:Array Operand) (ts:Array TypeId) (K:Act→World→Prop) (Q:Exit→Act→World→Prop),
  o.op=.call {callee:=.value x,args:=aa,argTypes:=ts}→a.eval x=v→aa.toList.map a.eval=args→(∀u w',R u w'→K (a.put o.dst u) w')→o.wpIn (FR rd) 0 P a w K Q
def mO:Nat:=1000000009
def pf (C:Ctx)(Φ:aQ)(w0:World)(σ0:Base):Prop:=∀J ys,C.yl=some (J,ys)→σ0.B=0∧(∀t fx cx w,σ0.F t fx cx w→∃xs,t=.list xs)∧
 ∀(xs ds':List D) (d:D),Φ mO [.list (xs++[.tup ds'])]=some d→∀(fx cx:Nat→Prop) (w1:World) (σ1:Im) (args:List Value),σ0.F (.list xs) fx cx w1→σ1.ok w1→oU C σ1 ys args ds'→
  (∀k o x,σ1.c k o=some x→¬cx k)→(∀k x,σ1.m k=some x→¬cx k)→
  (∀k o x,σ1.c k o=some x→σ0.c k o=some x∨w0.heap.size≤k)→(∀k x,σ1.m k=some x→σ0.m k=some x∨w0.heap.size≤k)→
  VC C.P C.yv args w1 fun u w2=>∃b,d=.v (.bool b)∧u=.bool b∧Below 0 w1 w2∧(∀k,k<w1.heap.size→¬cx k→w2.heap[k]?=w1.heap[k]?)∧
   ∃m0 kf,σ0.F (.list (xs++[.tup ds'])) m0 kf w2∧(∀k,m0 k→k<w1.heap.size→fx k∨(∃o x,σ1.c k o=some x)∨(∃x,σ1.m k=some x∧x≠cZ))∧(∀k,kf k→k<w1.heap.size→cx k)
def K5 (gs:List (Nat×Bool))(J:Nat)(x:PE):PE:=
 match gs with
 |[]=>.app (.o J) (.lst [x])
 |_=>.pick (.nt (.imp gs (.con (.v (.bool false))))) (.app (.o J) (.lst [x])) (.o J)
def zx (C:Ctx)(S:St)(ops:Array Oper)(o:Oper):Option (St×List PI):=
 match o.dst,o.op,C.yl with
 |some dst,.call {callee:=.value (.tmp t),args:=args,..},some (J,ys)=>
  (pH S ops o).bind fun gs=>
    match kB S gs t with
    |.yv=>
     match(S.fzs (bT S gs args.toList)).o J with
     |.tr=>
      (kD C (S.fzs (bT S gs args.toList)) gs args.toList).bind fun u=>
        bif Ty.subs u.1 ys then some ((S.fzs (bT S gs args.toList)).setR dst (jf gs (.dat .bool)),[.setO J (K5 gs J (.tup u.2)),.call gs dst mO [.o J]]) else none
     |_=>none
    |_=>none
 |_,_,_=>none
def pv (C:Ctx)(S:St)(ops:Array Oper)(o:Oper):Option (St×List PI):=
 match zx C S ops o with
 |some r=>some r
 |none=>zw C S ops o
section
variable {C:Ctx} {S:St} {ρ:Env} {σ:Im} {own:Nat→Option Nat} {hv:Nat→Value} {w0:World} {σ0:Base} {A:Nat→Prop} {a:Act} {w:World} {gs:List (Nat×Bool)} {Φ:aQ} {dst:Nat}
theorem arC (gs:List (Nat×Bool))(J:Nat)(x:PE)(ρ:Env):(K5 gs J x).ev ρ=if holds gs ρ=true then .list ((ρ.o J).l++[x.ev ρ]) else ρ.o J:=by
 cases gs with
 |nil=>simp[K5,PE.ev,PE.evs,holds,D.l_list]
 |cons g gs=>
  simp only[K5,PE.ev,PE.evs,D.b_bool,D.l_list,qt,Bool.not_not];cases holds (g::gs) ρ<;>rfl
theorem Inv.yielded (h:Inv C S ρ σ own hv w0 σ0 A a w)(hB:σ0.B=0){J:Nat}{ys:List Ty}(hJ:C.yl=some (J,ys))(Ia:S.o J=.tr){w2:World}(hb:Below 0 w w2){t:D}{fx cx:Nat→Prop}(hf:FrOK σ own w0.heap.size σ0 w t fx cx)
 (hs:∀k,k<w.heap.size→¬cx k→w2.heap[k]?=w.heap[k]?) {t':D} {m0 kf:Nat→Prop} (hF:σ0.F t' m0 kf w2)
 (h1:∀k,m0 k→k<w.heap.size→fx k∨(∃o x,σ.c k o=some x)∨(∃x,σ.m k=some x∧x≠cZ)) (h2:∀k,kf k→k<w.heap.size→cx k):Inv C S (ρ.setO J t') σ own hv w0 σ0 A a w2:=by
 have bS:=σ0.sub _ _ _ _ hf.F;have dz:∀k o x,σ.c k o=some x→w2.heap[k]?=w.heap[k]?:=fun k o x e=>hs k (h.lt e) (hf.c k o x e);have Ab:∀k x,σ.m k=some x→w2.heap[k]?=w.heap[k]?:=fun k x e=>hs k (h.ltm e) (hf.m k x e);have Ol:∀k j,own k=some j→w2.heap[k]?=w.heap[k]?:=fun k j e=>hs k (h.owns k j e).2.1 fun hc=>hf.own k j e (bS k hc)
 refine⟨h.defers,⟨fun k o v e=>by rw[World.cell?_of_block (dz k o v e)];exact h.ok.c k o v e,fun k x e=>(h.ok.m k x e).keep (Ab k x e)⟩,h.le,h.old,h.newc,h.newm,h.below.trans (hb.mono (by omega)),h.bw,
  fun k j e=>let⟨g1,g2,g3⟩:=h.owns k j e;⟨g1,vV g2 hb.size,g3⟩,fun u=>aH.mono (S:=S) (ρ:=ρ) (ρ':=ρ.setO J t') (.refl σ) (.refl S hv) (d:=ρ.r u) (fun _ _ _=>rfl) (fun gs s e=>(h.opts u gs s e).2) (h.regs u),fun j=>?_,h.opts,
  t',m0,kf,⟨hF,fun k j e hk=>?_,fun k o x e hc=>hf.c k o x e (h2 k hc (h.lt e)),fun k x e hc=>hf.m k x e (h2 k hc (h.ltm e)),fun k e Nj hk=>?_⟩,fun j hj=>?_⟩
 ·by_cases z7:j=J
  ·subst z7;rw[Ia];trivial
  ·exact(h.objs j).mono (.refl σ) (.refl S hv) rfl (by simp[Env.setO,bq _ _ z7]) (fun k e=>⟨e,Ol k j e⟩)
 ·obtain⟨_,g2,g3,g4⟩:=h.owns k j e;rcases h1 k hk g2 with e1|⟨o,x,e1⟩|⟨x,e1,_⟩
  ·exact hf.own k j e e1
  ·rw[g3 o] at e1;cases e1
  ·rw[g4] at e1;cases e1
 ·rcases h1 k hk (h.ltm e) with e1|⟨o,x,e1⟩|⟨x,e1,e2⟩
  ·exact hf.d k e Nj e1
  ·have c1:=h.ok.c k o x e1;rcases h.ok.m k _ e with⟨m1,_⟩|⟨_,m2⟩
   ·exact m1 rfl
   ·simp[World.cell?,m2] at c1
  ·rw[e] at e1;cases e1;exact e2 rfl
 ·obtain⟨_,_,_,_,ht⟩:=h.frame;obtain⟨⟨ys',e1⟩,_⟩:=ht j hj;rw[hJ] at e1;cases e1;exact⟨⟨_,hJ⟩,aL _ _ _⟩
theorem afL {rd:Option Nat}(h:Good C w0 σ0 S ρ A a w)(hC:CtxOK C σ0)(hY:pf C Φ w0 σ0){ops:Array Oper}{o:Oper}(ht:∀d,o.dst=some d→¬A d∧d<a.tmps.size)
 (hj:∀j want t,o.guard=some (j,want)→(ops[j]?).bind (·.dst)=some t→A t) {r:St×List PI} (hr:zx C S ops o=some r) {ρ':Env} (ak:PI.runs Φ r.2 ρ=some ρ')
 {K:Act→World→Prop} {Q:Exit→Act→World→Prop} (hK:∀a' w',Good C w0 σ0 r.1 ρ' (fun u=>A u∨o.dst=some u) a' w'→SameBut (fun t=>o.dst=some t) a a'→K a' w'):
 if Region.wanted o (yielded ops a.tmps) then o.wpIn (FR rd) 0 C.P a w K Q else K (a.put o.dst undef) w:=by
 unfold zx at hr;split at hr
 case h_2=>cases hr
 rename_i _ _ dst t args ts J ys hd cd kq;simp only[av] at hr;obtain⟨gs,dt,hr⟩:=hr;split at hr
 case h_2=>cases hr
 rename_i DU;split at hr
 case h_2=>cases hr
 rename_i Ia;simp only[av] at hr;obtain⟨u,hu,hr⟩:=hr;cases bS:Ty.subs u.1 ys<;>simp only[bS,cond_true,cond_false] at hr
 ·cases hr
 cases hr;have zY:=W4 h dt hj;rw[W5 h dt];obtain⟨σ,own,hv,i⟩:=h;obtain⟨σ1,dp,hle,i1⟩:=Inv.fzs (bT S gs args.toList) i;obtain⟨t1,t2⟩:=ht dst hd;have gK:(fun u=>A u∨o.dst=some u)=(fun u=>A u∨u=dst):=by funext u;rw[hd];simp[eq_comm]
 rw[gK] at hK;simp only[PI.runs,PI.run,j9,arC,av] at ak;cases hh:holds gs ρ with
 |false=>
  simp only[hh,vN,if_false] at ak ⊢;have e1:ρ.setO J (ρ.o J)=ρ:=by
   cases ρ with|mk r o=>simp only[Env.setO];congr 1;funext x;rw[eV];split<;>simp_all
  rw[e1,hh] at ak;obtain⟨ρ1,e2,e3⟩:=ak;cases e2;cases e3;cases gs with
  |nil=>simp[holds] at hh
  |cons g bR=>
   have DC:=i1.passed t1 t2 zY hh (s:=.dat .bool) (fun _ _ e=>by cases e) (ρ.r dst);have e4:ρ.setR dst (ρ.r dst)=ρ:=by
        cases ρ with|mk r o=>simp only[Env.setR];congr 1;funext x;rw[eV];split<;>simp_all
   rw[e4] at DC;rw[hd];exact hK _ _ ⟨_,_,_,DC⟩ (by rw[hd];exact SameBut.put a (some dst) undef a.defers)
 |true=>
  simp only[hh,if_true] at ak ⊢;have iL:=By i1 hC hh hu bS;obtain⟨tr,fx,cx,hf,sS⟩:=i1.frame;obtain⟨_,hρJ⟩:=sS J Ia;obtain⟨hB,akn,O2⟩:=hY J ys kq;obtain⟨xs,rfl⟩:=akn _ _ _ _ hf.F;rw[hρJ] at ak;simp only[D.l_list,PE.ev] at ak;obtain⟨ρ1,e2,e3⟩:=ak;cases e3;have Is:holds gs (ρ.setO J (.list (xs++[.tup (PE.evs ρ u.2)])))=true:=hh;rw[Is] at e2;simp only[cond_true,PE.evs,PE.ev,Env.setO,aL,aA] at e2;obtain⟨d,e4,e5⟩:=e2;have hy:=O2 xs (PE.evs ρ u.2) d e4 fx cx w σ1 (args.toList.map a.eval) hf.F i1.ok iL hf.c hf.m i1.newc i1.newm;have cu:a.eval (.tmp t)=C.yv:=by
   have:=(nB i hh t).1;rw[DU] at this;have h9:a.tmps.getD t undef=C.yv:=this;simpa [Act.eval] using h9
  refine hy rd o a (.tmp t) args ts K Q cd cu rfl fun v w2 km=>?_;obtain⟨b,rfl,rfl,hb,hs,m0,kf,hF,h1,h2⟩:=km;have i2:=i1.yielded hB kq Ia hb hf hs hF h1 h2;refine hK _ _ ?_ (SameBut.put a _ _ a.defers);rw[hd,←e5];change Good C w0 σ0 _ ((ρ.setO J (.list (xs++[.tup (PE.evs ρ u.2)]))).setR dst (.v (.bool b))) _ _ _;have hh3:holds gs ((ρ.setO J (.list (xs++[.tup (PE.evs ρ u.2)]))).setR dst (.v (.bool b)))=true:=by
   rw[Dz (t:=dst) fun g hm e=>t1 (by rw[←e];exact zY g hm)];exact Is
  cases gs with
  |nil=>exact⟨_,_,_,i2.setReg t1 (s:=.dat .bool) (.bool b) t2 (fun _ _ e=>by cases e)⟩
  |cons g bR=>
   refine⟨_,_,_,i2.setReg t1 (s:=.opt (g::bR) (.dat .bool)) ⟨fun _=>.bool b,fun e=>absurd (hh3.symm.trans e) (by decide)⟩ t2 (fun gs s e=>?_)⟩;cases e;exact⟨zY,fun _ _ e=>by cases e⟩
theorem HI {rd:Option Nat}(h:Good C w0 σ0 S ρ A a w)(hC:CtxOK C σ0)(be:dx C)(hΦ:di C Φ)(hY:pf C Φ w0 σ0){ops:Array Oper}{o:Oper}(bp:ox o.op=true)(ht:∀d,o.dst=some d→¬A d∧d<a.tmps.size)
 (hj:∀j want t,o.guard=some (j,want)→(ops[j]?).bind (·.dst)=some t→A t) {r:St×List PI} (hr:pv C S ops o=some r) {ρ':Env} (ak:PI.runs Φ r.2 ρ=some ρ')
 {K:Act→World→Prop} {Q:Exit→Act→World→Prop} (hK:∀a' w',Good C w0 σ0 r.1 ρ' (fun u=>A u∨o.dst=some u) a' w'→SameBut (fun t=>o.dst=some t) a a'→K a' w'):
 if Region.wanted o (yielded ops a.tmps) then o.wpIn (FR rd) 0 C.P a w K Q else K (a.put o.dst undef) w:=by
 unfold pv at hr;split at hr
 ·rename_i q hq;cases hr;exact afL h hC hY ht hj hq ak hK
 ·have:=afK (K:=fun a' w'=>SameBut (fun t=>o.dst=some t) a a'→K a' w') (Q:=Q) h hC be hΦ ht hj hr ak (fun a' w' g _ hs=>hK a' w' g hs);split
  ·rename_i hw;rw[if_pos hw] at this;exact aby bp (Oper.wp_same this)
  ·rename_i hw;rw[if_neg hw] at this;exact this (SameBut.put a _ _ a.defers)
end
def nP (C:Ctx)(ops:Array Oper):List Nat→St→Option (St×List PI)
 |[],S=>some (S,[])
 |i::l,S=>
  match ops[i]? with
  |some o=>(pv C S ops o).bind fun r=>(nP C ops l r.1).map fun q=>(q.1,r.2++q.2)
  |none=>none
def rE (n:Nat)(ops:Array Oper):Bool:=
 gx (ops.toList.filterMap (·.dst))&&ops.toList.all fun o=>ox o.op&&match o.dst with|some d=>Nat.blt d n|none=>true
section
variable {C:Ctx} {S:St} {ρ:Env} {σ:Im} {own:Nat→Option Nat} {hv:Nat→Value} {w0:World} {σ0:Base} {A:Nat→Prop} {a:Act} {w:World} {gs:List (Nat×Bool)} {Φ:aQ} {dst:Nat}
def lP (ops:Array Oper)(done:List Nat):Nat→Prop:=fun t=>∃i o,i∈done∧ops[i]?=some o∧o.dst=some t
theorem wk.dst_once {ops:Array Oper}(bp:(ops.toList.filterMap (·.dst)).Nodup){i j:Nat}{o o':Oper}{d:Nat}(hi:ops[i]?=some o)(hj:ops[j]?=some o')(hd:o.dst=some d)(gI:o'.dst=some d)(ay:i≠j):False:=by
 have key:∀(l:List Oper),(l.filterMap (·.dst)).Nodup→∀(i j:Nat) (o o':Oper),l[i]?=some o→l[j]?=some o'→o.dst=some d→o'.dst=some d→i=j:=by
  intro l
  induction l with
  |nil=>intro _ i j o o' hi;simp at hi
  |cons x l ih=>
   intro bp i j o o' hi hj hd gI;have cQ:∀(k:Nat) (y:Oper),l[k]?=some y→y.dst=some d→d∈l.filterMap (·.dst):=fun k y hk hy=>tQ.2 ⟨y,lV hk,hy⟩;cases hx:x.dst with
   |none=>
    rw[List.filterMap_cons_none hx] at bp;cases i with
    |zero=>simp at hi;subst hi;rw[hx] at hd;cases hd
    |succ i=>
     cases j with
     |zero=>simp at hj;subst hj;rw[hx] at gI;cases gI
     |succ j=>simp at hi hj;rw[ih bp i j o o' hi hj hd gI]
   |some y=>
    rw[List.filterMap_cons_some hx,mS] at bp;cases i with
    |zero=>
     simp at hi;subst hi;rw[hx] at hd;cases hd;cases j with
     |zero=>rfl
     |succ j=>simp at hj;exact absurd (cQ j o' hj gI) bp.1
    |succ i=>
     cases j with
     |zero=>
      simp at hj;subst hj;rw[hx] at gI;cases gI;simp at hi;exact absurd (cQ i o hi hd) bp.1
     |succ j=>simp at hi hj;rw[ih bp.2 i j o o' hi hj hd gI]
 exact ay (key ops.toList bp i j o o' (by simpa using hi) (by simpa using hj) hd gI)
def qH (ops:Array Oper):Nat→Prop:=fun t=>∃o,o∈ops.toList∧o.dst=some t
theorem wk (hC:CtxOK C σ0)(be:dx C)(hΦ:di C Φ)(hY:pf C Φ w0 σ0){ops:Array Oper}{n:Nat}(aB:rE n ops=true){rd:Option Nat}{Q:Exit→Act→World→Prop}:
 ∀(l done:List Nat) {S:St} {ρ ρ':Env} {a:Act} {w:World} {r:St×List PI},(done++l).Nodup→(∀p i q o j want,l=p++i::q→ops[i]?=some o→o.guard=some (j,want)→j∈done++p)→
  a.tmps.size=n→Good C w0 σ0 S ρ (lP ops done) a w→nP C ops l S=some r→PI.runs Φ r.2 ρ=some ρ'→
  (∀a' w',SameBut (qH ops) a a'→Good C w0 σ0 r.1 ρ' (lP ops (done++l)) a' w'→Q .normal a' w')→wpOpsIn (FR rd) 0 C.P ops Q l a w:=by
 simp only[rE,ao] at aB;have bp:=ml aB.1;intro l
 induction l with
 |nil=>
  intro done S ρ ρ' a w r _ _ aK h hr ak hQ;simp only[nP,aU] at hr;subst hr;rw[nA ak] at hQ;simp only[wpOpsIn];exact hQ a w (.refl _ _) (by simpa using h)
 |cons i l ih=>
  intro done S ρ ρ' a w r NC kj aK h hr ak hQ;simp only[nP] at hr;split at hr
  case h_2=>cases hr
  rename_i o ho;simp only[av,aA] at hr;obtain⟨r1,iP,q,hq,rfl⟩:=hr;simp only[oM,av] at ak;obtain⟨ρ1,hρ1,hρ2⟩:=ak;have qT:∀d,o.dst=some d→¬lP ops done d∧d<a.tmps.size:=by
   intro d hd;refine⟨fun⟨i',o',cw,dZ,gI⟩=>?_,?_⟩
   ·
        have ay:i'≠i:=by
         intro e;subst e;rw[BN] at NC;exact NC.2.2 i' cw i' (dq ..) rfl
        exact wk.dst_once bp dZ ho gI hd ay
   ·have:=bJ.1 aB.2 o (by
     have:=gR ho;simpa using this)
    simp only[hd,ao] at this;rw[aK];simpa [ix] using this.2
  have hj:∀j want t,o.guard=some (j,want)→(ops[j]?).bind (·.dst)=some t→lP ops done t:=by
   intro j want t hg ht;have:=kj [] i l o j want rfl ho hg;simp only[lf] at this;rw[av] at ht;obtain⟨oj,h1,h2⟩:=ht;exact⟨j,oj,this,h1,h2⟩
  have jS:ox o.op=true:=by
   have:=bJ.1 aB.2 o (by simpa using gR ho);simp only[ao] at this;exact this.1
  have main:=HI (rd:=rd) (K:=wpOpsIn (FR rd) 0 C.P ops Q l) (Q:=Q) h hC be hΦ hY jS qT hj iP hρ1 (fun a' w' fG jq=>by
   have q6:=jq.size;refine ih (done++[i]) (by simpa using NC) (fun p i' q' o' j want e dZ ajT=>?_) (q6.trans aK) ?_ hq hρ2 (fun a2 w2 s2 g2=>hQ a2 w2 ((jq.mono fun t e=>⟨o,by simpa using gR ho,e⟩).trans s2) (by simpa using g2))
   ·have:=kj (i::p) i' q' o' j want (by rw[e];rfl) dZ ajT;simpa using this
   ·have:(fun u=>lP ops done u∨o.dst=some u)=lP ops (done++[i]):=by
     funext u;apply propext;constructor
     ·rintro(⟨i',o',h1,h2,h3⟩|h1)
      ·exact⟨i',o',by simp[h1],h2,h3⟩
      ·exact⟨i,o,by simp,ho,h1⟩
     ·rintro⟨i',o',h1,h2,h3⟩;rcases dy.1 h1 with h4|h4
      ·exact .inl ⟨i',o',h4,h2,h3⟩
      ·simp at h4;subst h4;rw[ho] at h2;cases h2;exact .inr h3
    rw[←this];exact fG)
  simp only[wpOpsIn,ho];split
  ·rename_i hw;rw[if_pos hw] at main;exact main
  ·rename_i hw;rw[if_neg hw] at main;exact⟨fun _ _=>trivial,main⟩
end
end Cx
namespace Cx
open Go Go.RowKit
def VD (S:St):AgC→Bool
 |.dat _=>true
 |.obj j ver=>Nat.beq ver (S.ver j)
def AgC.zero:AgC→AgC
 |.dat t=>.dat t
 |.obj j _=>.obj j 0
def eQ (S:St):Sh→Sh
 |.none=>.none
 |.dat t=>.dat t
 |.obj j ver=>bif Nat.beq ver (S.ver j) then .obj j 0 else .none
 |.ptr j ver off=>bif Nat.beq ver (S.ver j) then .ptr j 0 off else .none
 |.eptr j ver size off=>bif Nat.beq ver (S.ver j) then .eptr j 0 size off else .none
 |.opt _ _=>.none
 |.yv=>.yv
 |.fclo f caps=>bif caps.all (fun c=>Nat.beq c.2 (S.ver c.1)) then .fclo f (caps.map fun c=>(c.1,0)) else .none
 |.agg l=>bif l.all (VD S) then .agg (l.map AgC.zero) else .none
def ij (S:St):Ob→Ob
 |.box ag shs=>.box ag (shs.map (eQ S))
 |ob=>ob
def St.norm (S:St):St:=⟨fun t=>eQ S (S.r t),fun j=>ij S (S.o j),fun _=>0⟩
def jv:Sh→Sh→Sh
 |.dat a,.dat b=>bif Ty.sub a b then .dat b else bif Ty.sub b a then .dat a else .none
 |.obj j v,.obj k u=>bif Nat.beq j k&&Nat.beq v u then .obj j v else .none
 |.ptr j v o,.ptr k u p=>bif Nat.beq j k&&Nat.beq v u&&Nat.beq o p then .ptr j v o else .none
 |.eptr j v s o,.eptr k u t p=>bif Nat.beq j k&&Nat.beq v u&&Nat.beq s t&&Nat.beq o p then .eptr j v s o else .none
 |.yv,.yv=>.yv
 |.fclo f a,.fclo g b=>bif Nat.beq f g&&wc a b then .fclo f a else .none
 |_,_=>.none
def xt:List Sh→List Sh→Option (List Sh)
 |[],[]=>some []
 |a::aa,b::bs=>(xt aa bs).map (jv a b::·)
 |_,_=>none
def nr:Ob→Ob→Ob
 |.fz a,.fz b=>bif Ty.beq a b then .fz a else .dead
 |.fbox a,.fbox b=>bif Ty.beq a b then .fbox a else .dead
 |.box ag aa,.box bg bs=>bif ag==bg then(match xt aa bs with|some cs=>.box ag cs|none=>.dead) else .dead
 |.row T e,.row U f=>bif Nat.beq T U&&Ty.beq e f then .row T e else .dead
 |.mp k e,.mp l f=>bif Ty.beq k l&&Ty.beq e f then .mp k e else .dead
 |.it k e,.it l f=>bif Ty.beq k l&&Ty.beq e f then .it k e else .dead
 |.tr,.tr=>.tr
 |_,_=>.dead
section
variable {C:Ctx} {S:St} {ρ:Env} {σ:Im} {own:Nat→Option Nat} {hv:Nat→Value} {w0:World} {σ0:Base} {A:Nat→Prop} {a:Act} {w:World} {gs:List (Nat×Bool)} {Φ:aQ} {dst:Nat}
theorem Jo {s:Sh}{v:Value}{d:D}(h:aH C S ρ σ hv s v d):aH C S.norm ρ σ hv (eQ S s) v d∧∀gs s',eQ S s≠.opt gs s':=by
 cases s with
 |none=>exact⟨trivial,fun _ _ e=>by cases e⟩
 |dat t=>exact⟨h,fun _ _ e=>by cases e⟩
 |obj j ver=>
  simp only[eQ];cases hb:Nat.beq ver (S.ver j)
  ·exact⟨trivial,fun _ _ e=>by cases e⟩
  ·exact⟨⟨bk _,fun _=>h.2 (az hb)⟩,fun _ _ e=>by cases e⟩
 |ptr j ver off=>
  simp only[eQ];cases hb:Nat.beq ver (S.ver j)
  ·exact⟨trivial,fun _ _ e=>by cases e⟩
  ·exact⟨⟨bk _,fun _=>h.2 (az hb)⟩,fun _ _ e=>by cases e⟩
 |eptr j ver size off=>
  simp only[eQ];cases hb:Nat.beq ver (S.ver j)
  ·exact⟨trivial,fun _ _ e=>by cases e⟩
  ·exact⟨⟨bk _,fun _=>h.2 (az hb)⟩,fun _ _ e=>by cases e⟩
 |opt gs s=>exact⟨trivial,fun _ _ e=>by cases e⟩
 |yv=>exact⟨h,fun _ _ e=>by cases e⟩
 |agg l=>
  simp only[eQ];cases hb:l.all (VD S)
  ·exact⟨trivial,fun _ _ e=>by cases e⟩
  ·refine⟨?_,fun _ _ e=>by cases e⟩;obtain⟨vs,ds,h1,h2,h3,h4,h5⟩:=h;refine⟨vs,ds,h1,h2,by simpa using h3,by simpa using h4,fun i c hi=>?_⟩;simp only[cC,aA] at hi;obtain⟨c0,hc,rfl⟩:=hi;have:=bJ.1 hb _ (lV hc);have h6:=h5 i c0 hc;cases c0 with
   |dat t=>exact h6
   |obj j ver=>exact⟨bk _,fun _=>h6.2 (az this)⟩
 |fclo f caps=>
  simp only[eQ];cases hb:caps.all (fun c=>Nat.beq c.2 (S.ver c.1))
  ·exact⟨trivial,fun _ _ e=>by cases e⟩
  ·refine⟨?_,fun _ _ e=>by cases e⟩;obtain⟨vs,h1,h2,h3⟩:=h;refine⟨vs,h1,by simpa using h2,fun i j ver hi=>?_⟩;simp only[cC,aA] at hi;obtain⟨⟨j',v'⟩,hc,e⟩:=hi;cases e;have:=bJ.1 hb _ (lV hc);exact⟨bk _,fun _=>(h3 i _ _ hc).2 (az this)⟩
theorem Inv.weaken (h:Inv C S ρ σ own hv w0 σ0 A a w){S':St}{ρ':Env}(hr:∀t,aH C S' ρ' σ hv (S'.r t) (a.tmps.getD t undef) (ρ'.r t))(ho:∀j,cn C S' ρ' σ own hv w w0.heap.size j (S'.o j))
 (hn:∀t gs s,S'.r t≠.opt gs s) (ht:∀j,S'.o j=.tr→S.o j=.tr∧ρ'.o j=ρ.o j):Inv C S' ρ' σ own hv w0 σ0 (fun _=>False) a w:=
 ⟨h.defers,h.ok,h.le,h.old,h.newc,h.newm,h.below,h.bw,h.owns,hr,ho,fun t gs s e=>absurd e (hn t gs s),by
   obtain⟨t,fx,cx,h1,h5⟩:=h.frame;exact⟨t,fx,cx,h1,fun j hj=>by rw[(ht j hj).2];exact h5 j (ht j hj).1⟩⟩
theorem ZZ {ob:Ob}(h:ij S ob=.tr):ob=.tr:=by
 cases ob<;>simp only[ij] at h<;>first|rfl|cases h
theorem anU {x y:Ob}(h:nr x y=.tr):x=.tr∧y=.tr:=by
 cases x<;>cases y<;>simp only[nr] at h<;>first
  |exact⟨rfl,rfl⟩
  |(cases h;done)
  |skip
 ·rename_i a b;cases hb:Ty.beq a b<;>rw[hb] at h<;>cases h
 ·rename_i a b;cases hb:Ty.beq a b<;>rw[hb] at h<;>cases h
 ·rename_i ag aa bg bs;cases hb:ag==bg<;>rw[hb] at h
  ·cases h
  ·simp only[cond_true] at h;split at h<;>cases h
 ·rename_i T e U f;cases hb:(Nat.beq T U&&Ty.beq e f)<;>rw[hb] at h<;>cases h
 ·rename_i T e U f;cases hb:(Ty.beq T U&&Ty.beq e f)<;>rw[hb] at h<;>cases h
 ·rename_i T e U f;cases hb:(Ty.beq T U&&Ty.beq e f)<;>rw[hb] at h<;>cases h
theorem Inv.norm (h:Inv C S ρ σ own hv w0 σ0 A a w):Inv C S.norm ρ σ own hv w0 σ0 (fun _=>False) a w:=by
 refine h.weaken (fun t=>(Jo (h.regs t)).1) (fun j=>?_) (fun t=>(Jo (h.regs t)).2) (fun j hj=>⟨ZZ hj,rfl⟩);have bf:=h.objs j;show cn C S.norm ρ σ own hv w w0.heap.size j (ij S (S.o j));cases cS:S.o j with
 |box ag shs=>
  rw[cS] at bf;obtain⟨k,cs,T,ds,h1,h2,h3,h4,h5,h6,h7⟩:=bf;refine⟨k,cs,T,ds,h1,h2,h3,by simpa using h4,h5,by simpa using h6,fun i s hi=>?_⟩;simp only[cC,aA] at hi;obtain⟨s0,hs0,rfl⟩:=hi;have:=Jo (h7 i s0 hs0).2;exact⟨this.2,this.1⟩
 |_=>rw[cS] at bf;exact bf
theorem Gf {b:Bool}{s:Sh}{v:Value}{d:D}(hs:∀gs s',s≠.opt gs s')(h:b=true→aH C S ρ σ hv s v d):aH C S ρ σ hv (bif b then s else .none) v d∧∀gs s',(bif b then s else Sh.none)≠.opt gs s':=by
 cases b with
 |true=>exact⟨h rfl,hs⟩
 |false=>exact⟨trivial,fun _ _ e=>by cases e⟩
theorem ZR {s u:Sh}{v:Value}{d:D}(h:aH C S ρ σ hv s v d):aH C S ρ σ hv (jv s u) v d∧∀gs s',jv s u≠.opt gs s':=by
 cases s<;>cases u<;>simp only[jv]<;>first
  |exact⟨trivial,fun _ _ e=>by cases e⟩
  |exact Gf (fun _ _ e=>by cases e) (fun _=>h)
  |exact⟨h,fun _ _ e=>by cases e⟩
  |skip
 rename_i a b;cases h1:Ty.sub a b
 ·exact Gf (fun _ _ e=>by cases e) (fun _=>h)
 ·exact⟨Rep.sub h h1,fun _ _ e=>by cases e⟩
theorem ZS {s u:Sh}{v:Value}{d:D}(h:aH C S ρ σ hv u v d):aH C S ρ σ hv (jv s u) v d∧∀gs s',jv s u≠.opt gs s':=by
 cases s<;>cases u<;>simp only[jv]<;>first
  |exact⟨trivial,fun _ _ e=>by cases e⟩
  |exact⟨h,fun _ _ e=>by cases e⟩
  |skip
 ·rename_i a b;cases h1:Ty.sub a b
  ·exact Gf (fun _ _ e=>by cases e) (fun h2=>Rep.sub h h2)
  ·exact⟨h,fun _ _ e=>by cases e⟩
 all_goals
  refine Gf (fun _ _ e=>by cases e) (fun hb=>?_);simp only[ao] at hb
  first
   |(obtain⟨⟨⟨h1,h2⟩,h3⟩,h4⟩:=hb;rw[az h1,az h2,az h3,az h4];exact h)
   |(obtain⟨⟨h1,h2⟩,h3⟩:=hb;rw[az h1,az h2,az h3];exact h)
   |(obtain⟨h1,h2⟩:=hb;rw[az h1,az h2];exact h)
   |(obtain⟨h1,h2⟩:=hb;rw[az h1,My _ _ h2];exact h)
theorem Pu:∀(aa bs cs:List Sh),xt aa bs=some cs→cs.length=aa.length∧cs.length=bs.length∧∀(i:Nat) (c:Sh),cs[i]?=some c→∃x y,aa[i]?=some x∧bs[i]?=some y∧c=jv x y
 |[],[],cs,h=>by simp[xt] at h;subst h;simp
 |[],b::bs,cs,h=>by simp[xt] at h
 |a::aa,[],cs,h=>by simp[xt] at h
 |a::aa,b::bs,cs,h=>by
  simp only[xt,aA] at h;obtain⟨ds,hd,rfl⟩:=h;obtain⟨h1,h2,h3⟩:=Pu aa bs ds hd;refine⟨by simp[h1],by simp[h2],fun i c hi=>?_⟩;cases i with
  |zero=>simp at hi;exact⟨a,b,rfl,rfl,hi.symm⟩
  |succ i=>simp at hi;simpa using h3 i c hi
theorem anS {j B:Nat}{x y:Ob}(h:cn C S ρ σ own hv w B j x):cn C S ρ σ own hv w B j (nr x y):=by
 cases x<;>cases y<;>simp only[nr]<;>first
  |trivial
  |(rename_i a b;cases Ty.beq a b;·trivial
    ·exact h)
  |skip
 ·rename_i ag aa bg bs;cases ag==bg
  ·trivial
  ·simp only[cond_true];split
   ·rename_i cs dz;obtain⟨l1,l2,uA⟩:=Pu aa bs cs dz;obtain⟨k,cells,T,ds,h1,h2,h3,h4,h5,h6,h7⟩:=h;refine⟨k,cells,T,ds,h1,h2,h3,by omega,h5,by omega,fun i s hi=>?_⟩;obtain⟨x,y,hx,hy,rfl⟩:=uA i s hi;have:=ZR (u:=y) (h7 i x hx).2;exact⟨this.2,this.1⟩
   ·trivial
 ·rename_i T e U f;cases Nat.beq T U&&Ty.beq e f
  ·trivial
  ·exact h
 ·rename_i T e U f;cases Ty.beq T U&&Ty.beq e f
  ·trivial
  ·exact h
 ·rename_i T e U f;cases Ty.beq T U&&Ty.beq e f
  ·trivial
  ·exact h
theorem anT {j B:Nat}{x y:Ob}(h:cn C S ρ σ own hv w B j y):cn C S ρ σ own hv w B j (nr x y):=by
 cases x<;>cases y<;>simp only[nr]<;>first
  |trivial
  |skip
 ·rename_i a b;cases hb:Ty.beq a b
  ·trivial
  ·rw[Ty.beq_eq _ _ hb];exact h
 ·rename_i a b;cases hb:Ty.beq a b
  ·trivial
  ·rw[Ty.beq_eq _ _ hb];exact h
 ·rename_i ag aa bg bs;cases ag==bg
  ·trivial
  ·simp only[cond_true];split
   ·rename_i cs dz;obtain⟨l1,l2,uA⟩:=Pu aa bs cs dz;obtain⟨k,cells,T,ds,h1,h2,h3,h4,h5,h6,h7⟩:=h;refine⟨k,cells,T,ds,h1,h2,h3,by omega,h5,by omega,fun i s hi=>?_⟩;obtain⟨x,y,hx,hy,rfl⟩:=uA i s hi;have:=ZS (s:=x) (h7 i y hy).2;exact⟨this.2,this.1⟩
   ·trivial
 ·rename_i T e U f;cases hb:(Nat.beq T U&&Ty.beq e f)
  ·trivial
  ·simp only[ao] at hb;rw[az hb.1,Ty.beq_eq _ _ hb.2];exact h
 ·rename_i T e U f;cases hb:(Ty.beq T U&&Ty.beq e f)
  ·trivial
  ·simp only[ao] at hb;rw[Ty.beq_eq _ _ hb.1,Ty.beq_eq _ _ hb.2];exact h
 ·rename_i T e U f;cases hb:(Ty.beq T U&&Ty.beq e f)
  ·trivial
  ·simp only[ao] at hb;rw[Ty.beq_eq _ _ hb.1,Ty.beq_eq _ _ hb.2];exact h
end
end Cx
namespace Cx
open Go Go.RowKit
section
variable {C:Ctx} {S T:St} {ρ ρ':Env} {σ:Im} {own:Nat→Option Nat} {hv:Nat→Value} {w0:World} {σ0:Base} {A:Nat→Prop} {a:Act} {w:World} {gs:List (Nat×Bool)} {Φ:aQ} {dst:Nat}
theorem Inv.env (h:Inv C S ρ σ own hv w0 σ0 (fun _=>False) a w)(hn:∀t gs s,S.r t≠.opt gs s)(hr:∀t,isNone (S.r t)=false→ρ'.r t=ρ.r t)(ho:∀j,oq (S.o j)=false→ρ'.o j=ρ.o j):
 Inv C S ρ' σ own hv w0 σ0 (fun _=>False) a w:=by
 refine h.weaken (fun t=>?_) (fun j=>?_) hn (fun j hj=>⟨hj,ho j (by rw[hj];rfl)⟩)
 ·cases hs:isNone (S.r t) with
  |true=>cases hc:S.r t<;>rw[hc] at hs<;>simp[isNone] at hs;trivial
  |false=>
   rw[hr t hs];exact aH.mono' (.refl σ) (.refl S hv) (hn t) (h.regs t)
 ·cases hs:oq (S.o j) with
  |true=>cases hc:S.o j<;>rw[hc] at hs<;>simp[oq] at hs;trivial
  |false=>exact(h.objs j).mono (.refl σ) (.refl S hv) rfl (ho j hs) (fun k hk=>⟨hk,rfl⟩)
end
end Cx
namespace Cx
open Go Go.RowKit
structure Snap where
 rs:List Sh
 os:List Ob
 deriving Inhabited
def dw:List Nat→List Ob→Nat→Ob
 |i::is,o::os,j=>bif Nat.beq i j then o else dw is os j
 |_,_,_=>.dead
def cA:Sh→Sh
 |.opt _ _=>.none
 |s=>s
def Snap.st (ids:List Nat)(s:Snap):St:=⟨fun t=>cA (s.rs.getD t .none),fun j=>dw ids s.os j,fun _=>0⟩
def St.snap (n:Nat)(ids:List Nat)(S:St):Snap:=⟨(List.range n).map fun t=>eQ S (S.r t),ids.map fun j=>ij S (S.o j)⟩
def Snap.beq (a b:Snap):Bool:=xY a.rs b.rs&&Ax a.os b.os
theorem Snap.beq_eq (a b:Snap)(h:a.beq b=true):a=b:=by
 cases a;cases b;simp only[Snap.beq,ao] at h;rw[Sb _ _ h.1,Z6 _ _ h.2]
def Snap.meet (a b:Snap):Snap:=⟨List.zipWith jv a.rs b.rs,List.zipWith nr a.os b.os⟩
theorem at5 (s:Sh):∀gs s',cA s≠.opt gs s':=by
 intro gs s' e;cases s<;>simp[cA] at e
theorem Snap.noOpt (ids:List Nat)(s:Snap):∀t gs s',(s.st ids).r t≠.opt gs s':=fun t=>at5 _
section
variable {C:Ctx} {S:St} {ρ:Env} {σ:Im} {own:Nat→Option Nat} {hv:Nat→Value} {w0:World} {σ0:Base} {A:Nat→Prop} {a:Act} {w:World} {n:Nat} {ids:List Nat}
theorem xn (f:Nat→Ob)(P:Ob→Prop)(hd:P .dead)(j:Nat)(hf:P (f j)):∀ids:List Nat,P (dw ids (ids.map f) j)
 |[]=>hd
 |i::is=>by
  simp only[gU,dw];cases hb:Nat.beq i j
  ·exact xn f P hd j hf is
  ·rw[az hb];exact hf
theorem Ld {s:Sh}{v:Value}{d:D}(h:aH C S ρ σ hv s v d):aH C S ρ σ hv (cA s) v d:=by
 cases s<;>first|exact h|trivial
theorem Inv.snap (h:Inv C S ρ σ own hv w0 σ0 A a w)(n:Nat)(ids:List Nat):Inv C ((S.snap n ids).st ids) ρ σ own hv w0 σ0 (fun _=>False) a w:=by
 have h1:=h.norm;have hc:Compat S.norm hv ((S.snap n ids).st ids) hv:=⟨fun _=>bk _,fun _ _=>rfl⟩
 refine h1.weaken (fun t=>?_) (fun j=>?_) (Snap.noOpt _ _) (fun j hj=>⟨xn (fun j=>ij S (S.o j)) (fun ob=>ob=.tr→ij S (S.o j)=.tr) (fun e=>by cases e) j id ids hj,rfl⟩)
 ·refine aH.mono' (ρ:=ρ) (.refl σ) hc (Snap.noOpt _ _ t) ?_;show aH C S.norm ρ σ hv (cA (((List.range n).map fun t=>eQ S (S.r t)).getD t .none)) _ _;refine Ld ?_;rw[aJ,cC];by_cases ht:t<n
  ·rw[qw ht];exact h1.regs t
  ·rw[rS (by simpa using ht)];trivial
 ·have ho:=(h1.objs j).mono (.refl σ) hc (w:=w) (w':=w) rfl rfl (fun k hk=>⟨hk,rfl⟩);exact xn (fun j=>ij S (S.o j)) (fun ob=>cn C _ ρ σ own hv w w0.heap.size j ob) trivial j ho ids
theorem Lf {f:Sh→Sh→Sh}:∀(x y:List Sh) (t:Nat),(List.zipWith f x y).getD t .none=.none∨∃s u,x.getD t .none=s∧y.getD t .none=u∧(List.zipWith f x y).getD t .none=f s u
 |[],_,t=>.inl (by simp)
 |_::_,[],t=>.inl (by simp)
 |a::aa,b::bs,0=>.inr ⟨a,b,rfl,rfl,rfl⟩
 |a::aa,b::bs,t+1=>by simpa using Lf (f:=f) aa bs t
theorem Jb {f:Ob→Ob→Ob}:∀(ids:List Nat) (x y:List Ob) (j:Nat),dw ids (List.zipWith f x y) j=.dead∨dw ids (List.zipWith f x y) j=f (dw ids x j) (dw ids y j)
 |[],_,_,_=>.inl rfl
 |_::_,[],_,_=>.inl rfl
 |_::_,_::_,[],_=>.inl rfl
 |i::is,a::aa,b::bs,j=>by
  simp only[List.zipWith_cons_cons,dw];cases Nat.beq i j
  ·exact Jb is aa bs j
  ·exact .inr rfl
theorem at3 {s u:Sh}{v:Value}{d:D}(h:aH C S ρ σ hv (cA s) v d):aH C S ρ σ hv (cA (jv s u)) v d:=by
 cases hs:s with
 |opt gs s'=>cases u<;>simp[jv,cA,aH]
 |_=>rw[hs] at h;exact Ld (ZR h).1
theorem at4 {s u:Sh}{v:Value}{d:D}(h:aH C S ρ σ hv (cA u) v d):aH C S ρ σ hv (cA (jv s u)) v d:=by
 cases hs:u with
 |opt gs s'=>cases s<;>simp[jv,cA,aH]
 |_=>rw[hs] at h;exact Ld (ZS h).1
theorem ZT {x y:Snap}{j:Nat}(h:((x.meet y).st ids).o j=.tr):(x.st ids).o j=.tr∧(y.st ids).o j=.tr:=by
 change dw ids (List.zipWith nr x.os y.os) j=.tr at h;rcases Jb (f:=nr) ids x.os y.os j with h0|h0
 ·rw[h0] at h;cases h
 ·rw[h0] at h;exact anU h
theorem Snap.meet_ok1 {x y:Snap}(h:Inv C (x.st ids) ρ σ own hv w0 σ0 A a w):Inv C ((x.meet y).st ids) ρ σ own hv w0 σ0 (fun _=>False) a w:=by
 have hc:Compat (x.st ids) hv ((x.meet y).st ids) hv:=⟨fun _=>bk _,fun _ _=>rfl⟩
 refine h.weaken (fun t=>?_) (fun j=>?_) (Snap.noOpt _ _) (fun j hj=>⟨(ZT hj).1,rfl⟩)
 ·refine aH.mono' (ρ:=ρ) (.refl σ) hc (Snap.noOpt _ _ t) ?_;show aH C (x.st ids) ρ σ hv (cA ((List.zipWith jv x.rs y.rs).getD t .none)) _ _;rcases Lf (f:=jv) x.rs y.rs t with h0|⟨s,u,h1,h2,h3⟩
  ·rw[h0];trivial
  ·rw[h3];exact at3 (by rw[←h1];exact h.regs t)
 ·refine cn.mono (S:=x.st ids) (ρ:=ρ) (own:=own) (hv:=hv) (.refl σ) hc (w:=w) rfl rfl (fun k hk=>⟨hk,rfl⟩) ?_;show cn C _ ρ σ own hv w w0.heap.size j (dw ids (List.zipWith nr x.os y.os) j);rcases Jb (f:=nr) ids x.os y.os j with h0|h0
  ·rw[h0];trivial
  ·rw[h0];exact anS (h.objs j)
theorem Snap.meet_ok2 {x y:Snap}(h:Inv C (y.st ids) ρ σ own hv w0 σ0 A a w):Inv C ((x.meet y).st ids) ρ σ own hv w0 σ0 (fun _=>False) a w:=by
 have hc:Compat (y.st ids) hv ((x.meet y).st ids) hv:=⟨fun _=>bk _,fun _ _=>rfl⟩
 refine h.weaken (fun t=>?_) (fun j=>?_) (Snap.noOpt _ _) (fun j hj=>⟨(ZT hj).2,rfl⟩)
 ·refine aH.mono' (ρ:=ρ) (.refl σ) hc (Snap.noOpt _ _ t) ?_;show aH C (y.st ids) ρ σ hv (cA ((List.zipWith jv x.rs y.rs).getD t .none)) _ _;rcases Lf (f:=jv) x.rs y.rs t with h0|⟨s,u,h1,h2,h3⟩
  ·rw[h0];trivial
  ·rw[h3];exact at4 (by rw[←h2];exact h.regs t)
 ·refine cn.mono (S:=y.st ids) (ρ:=ρ) (own:=own) (hv:=hv) (.refl σ) hc (w:=w) rfl rfl (fun k hk=>⟨hk,rfl⟩) ?_;show cn C _ ρ σ own hv w w0.heap.size j (dw ids (List.zipWith nr x.os y.os) j);rcases Jb (f:=nr) ids x.os y.os j with h0|h0
  ·rw[h0];trivial
  ·rw[h0];exact anT (h.objs j)
end
end Cx
namespace Cx
open Go Go.RowKit
def uU (C:Ctx)(S:St)(T:TypeId)(x:Operand):List Nat:=
 match fw S [] x,pV C.P T,C.P.info? T with
 |.ptr j _ off,some true,some inf=>(match S.o j with|.box _ shs=>Ce ((shs.drop off).take inf.size)|_=>[])
 |_,_,_=>[]
def Bm (C:Ctx)(S:St):ResultVar→Option (St×Ty×PE)
 |.tmp t=>(use C (S.fzs (bT S [] [.tmp t])) [] (.tmp t)).map fun x=>(S.fzs (bT S [] [.tmp t]),x.1,x.2)
 |.cell b T=>
  match td C (S.fzs (uU C S T (.tmp b))) [] 0 T (.tmp b) with
  |some (.dat ty,[.setR 0 e])=>some (S.fzs (uU C S T (.tmp b)),ty,e)
  |some (.obj j ver,[.setR _ _])=>
   bif Nat.beq ver (((S.fzs (uU C S T (.tmp b))).fz j).ver j) then
    match((S.fzs (uU C S T (.tmp b))).fz j).o j with
    |.fz ty=>some ((S.fzs (uU C S T (.tmp b))).fz j,ty,.o j)
    |_=>none
   else none
  |_=>none
def tD (C:Ctx):List ResultVar→St→Option (St×List Ty×List PE)
 |[],S=>some (S,[],[])
 |x::xs,S=>(Bm C S x).bind fun r=>(tD C xs r.1).map fun q=>(q.1,r.2.1::q.2.1,r.2.2::q.2.2)
def ac6 (C:Ctx)(fn:Func)(S:St)(res:Ty):Option PE:=
 (tD C fn.results.toList S).bind fun r=>
    match r.2.1,r.2.2 with
    |[ty],[e]=>bif Ty.sub ty res then some e else none
    |fA,es=>bif Ty.sub (.tup fA) res then some (.tup es) else none
def ac8 (C:Ctx)(fn:Func)(S:St)(T:TypeId)(e:Ty):Option PE:=
 match fn.results.toList with
 |[.tmp t]=>
  match kB S [] t with
  |.obj j ver=>bif Nat.beq ver (S.ver j) then(match S.o j with|.row U f=>bif Nat.beq U T&&Ty.beq f e then some (.o j) else none|_=>none) else none
  |_=>none
 |[.cell b U]=>
  match td C S [] 0 U (.tmp b) with
  |some (.obj j ver,[.setR _ _])=>bif Nat.beq ver (S.ver j) then(match S.o j with|.row U f=>bif Nat.beq U T&&Ty.beq f e then some (.o j) else none|_=>none) else none
  |_=>none
 |_=>none
def I6 (S:St):Nat→List Sh→Bool
 |_,[]=>true
 |t,s::l=>th s&&((nl s||isNone s||Sh.beq (S.r t) s)&&I6 S (t+1) l)
def O9 (S:St)(shs:List Sh)(obs:List (Nat×Ob)):Bool:=I6 S 0 shs&&obs.all fun x=>Ob.beq (S.o x.1) x.2
def R2 (fA:List Ty)(es:List PE)(res:Ty):Option PE:=
 match fA,es with
 |[ty],[e]=>bif Ty.sub ty res then some e else none
 |fA,es=>bif Ty.sub (.tup fA) res then some (.tup es) else none
def ac7 (C:Ctx)(fn:Func)(S:St)(res:Ty)(shs:List Sh)(obs:List (Nat×Ob)):Option PE:=
 (tD C fn.results.toList S).bind fun r=>bif O9 r.1 shs obs then(R2 r.2.1 r.2.2 res).map fun e=>.tup (e::obs.map fun x=>.o x.1) else none
def lM (S:St):List AgC→List RC→Bool
 |[],[]=>true
 |.dat t::a,.dat u::l=>Ty.sub t u&&t.one&&lM S a l
 |.obj j ver::a,.row T e::l=>Nat.beq ver (S.ver j)&&(match S.o j with|.row U f=>Nat.beq U T&&Ty.beq f e|_=>false)&&lM S a l
 |_,_=>false
def nM:List AgC→List Nat
 |[]=>[]
 |.dat _::l=>nM l
 |.obj j _::l=>j::nM l
def lX (x:PE):List AgC→Nat→List PE
 |[],_=>[]
 |.dat _::l,i=>.cell x i::lX x l (i+1)
 |.obj j _::l,i=>.o j::lX x l (i+1)
def ada (C:Ctx)(fn:Func)(S:St)(l:List RC):Option PE:=
 match fn.results.toList with
 |[.tmp t]=>
  match kB S [] t with
  |.agg a=>bif lM S a l&&gx (nM a) then some (.mk (lX (.r t) a 0)) else none
  |_=>none
 |[.cell b U]=>
  match td C S [] 0 U (.tmp b) with
  |some (.agg a,[.setR t0 e])=>bif (lM S a l&&gx (nM a))&&Nat.beq t0 0 then some (.mk (lX e a 0)) else none
  |_=>none
 |_=>none
def rj:List AgC→Nat→Option Nat
 |[],_=>none
 |.dat _::l,j=>(rj l j).map (·+1)
 |.obj i _::l,j=>bif Nat.beq i j then some 0 else(rj l j).map (·+1)
def xV (C:Ctx)(fn:Func)(s:Sig)(S:St):Option PE:=
 match s.mode with
 |.ob shs obs=>ac7 C fn S s.res shs obs
 |.dat=>ac6 C fn S s.res
 |.rows l=>ada C fn S l
 |.it J=>match fn.results.toList,S.o J with|[],.tr=>some (.o J)|_,_=>none
 |.row T e=>ac8 C fn S T e
def KM (P:Program)(tmps:Array Value)(w:World):ResultVar→Value→Prop
 |.tmp t,v=>v=tmps.getD t undef
 |.cell a T,v=>∃k,tmps.getD a undef=.pointer (some k)∧(loadVar T k).run P w=.ok v w
def KN (P:Program)(tmps:Array Value)(w:World):List ResultVar→List Value→Prop
 |[],[]=>True
 |x::xs,v::vs=>KM P tmps w x v∧KN P tmps w xs vs
 |_,_=>False
def u9:List Value→Value
 |[v]=>v
 |vs=>.tuple vs.toArray
section
variable {C:Ctx} {S:St} {ρ:Env} {σ:Im} {own:Nat→Option Nat} {hv:Nat→Value} {w0:World} {σ0:Base} {A:Nat→Prop} {a:Act} {w:World} {gs:List (Nat×Bool)} {Φ:aQ} {dst:Nat}
theorem ZC {P:Program}{tmps:Array Value}{w:World}(f:ResultVar→Sem Value)(XC:∀t,f (.tmp t)=pure (tmps.getD t undef))(XD:∀b T,f (.cell b T)=(do loadVar T (←asAddr (tmps.getD b undef)))):
 ∀(l:List ResultVar) (vs:List Value),KN P tmps w l vs→(l.mapM f).run P w=.ok vs w
 |[],[],_=>by simp[Sem.run_pure]
 |x::l,v::vs,h=>by
  obtain⟨hx,O1⟩:=h;have ih:=ZC f XC XD l vs O1;rw[Vr];have h1:(f x).run P w=.ok v w:=by
   cases x with
   |tmp t=>rw[XC];simp only[KM] at hx;subst hx;simp[Sem.run_pure]
   |cell b T=>
    obtain⟨k,h1,h2⟩:=hx;rw[XD,h1];simp[asAddr,h2]
  simp[Sem.run_bind,h1,ih,Sem.run_pure,Result.andThen_ok]
theorem xU {P:Program}{fn:Func}{tmps:Array Value}{w:World}{vs:List Value}(h:KN P tmps w fn.results.toList vs):
 (results fn tmps).run P w=.ok (u9 vs) w:=by
 unfold results;rw[Array.mapM_eq_mapM_toList];simp only[Sem.run_bind];simp only[bind_map_left,map_eq_pure_bind,Sem.run_bind,bind_assoc,pure_bind];rw[ZC (tmps:=tmps) _ (fun t=>rfl) (fun b T=>rfl) _ _ h];simp only[Result.andThen_ok,Sem.run_pure];rcases vs with _|⟨v,_|⟨u,vs⟩⟩<;>simp[Sem.run_pure,u9]
theorem I8 {o:Oper}{T:TypeId}{b:Nat}{v:Value}(ho:o.op=.load T (.tmp b))(hx:(execOp a.eval o).run C.P w=.ok (.value v) w):KM C.P a.tmps w (.cell b T) v:=by
 have he:a.eval (.tmp b)=a.tmps.getD b undef:=by simp[Act.eval]
 simp only[execOp,ho,Instr.loadAt,he] at hx;cases hp:a.tmps.getD b undef with
 |pointer p=>
  cases p with
  |none=>rw[hp] at hx;simp[Instr.sureAddr] at hx
  |some k=>
   rw[hp] at hx;refine⟨k,hp,?_⟩;simp[Instr.sureAddr] at hx;cases hr:(loadVar T k).run C.P w with
   |ok u w'=>rw[hr] at hx;simp at hx;rw[hx.1,hx.2]
   |halt u w'=>rw[hr] at hx;simp at hx
 |_=>rw[hp] at hx;simp[Instr.sureAddr] at hx
theorem aqI (h:Inv C S ρ σ own hv w0 σ0 A a w)(hC:CtxOK C σ0){x:ResultVar}{r:St×Ty×PE}(hr:Bm C S x=some r):
 ∃σ' own' v,σ.le σ'∧Inv C r.1 ρ σ' own' hv w0 σ0 A a w∧KM C.P a.tmps w x v∧Rep C.cap σ' r.2.1 v (r.2.2.ev ρ):=by
 cases x with
 |tmp t=>
  simp only[Bm,aA] at hr;obtain⟨y,hy,rfl⟩:=hr;obtain⟨σ1,dp,hle,h1⟩:=Inv.fzs (bT S [] [.tmp t]) h;refine⟨σ1,dp,a.tmps.getD t undef,hle,h1,rfl,?_⟩;have:=cq (gs:=[]) h1 hC rfl hy;simpa [Act.eval] using this
 |cell b T=>
  simp only[Bm] at hr;obtain⟨σ1,dp,hle,h1⟩:=Inv.fzs (uU C S T (.tmp b)) h;generalize CX:S.fzs (uU C S T (.tmp b))=S1 at hr h1
  let o:Oper:={(default:Oper) with op:=.load T (.tmp b)}
  split at hr
  ·rename_i ty e hl;cases hr;have hq:=Ec (Φ:=fun _ _=>none) (dst:=0) (gs:=[]) h1 hC rfl hl (o:=o) rfl;obtain⟨v,d,e1,e2,e3,e4⟩:=hq _ rfl;have hd:d=e.ev ρ:=by
        have:=congrArg (fun x:Env=>x.r 0) e1;simpa [Env.setR,aL] using this.symm
   subst hd;exact⟨σ1,dp,v,hle,h1,I8 rfl e2,e3⟩
  ·rename_i j ver t0 e0 hl;have hq:=Ec (Φ:=fun _ _=>none) (dst:=0) (gs:=[]) h1 hC rfl hl (o:=o) rfl;obtain⟨v,d,e1,e2,e3,e4⟩:=hq _ rfl;cases hb:Nat.beq ver ((S1.fz j).ver j)<;>simp only[hb,cond_true,cond_false] at hr
   ·cases hr
   split at hr
   case h_2=>cases hr
   rename_i ty bh;cases hr;obtain⟨σ2,iW,jQ,h2⟩:=h1.fz j;refine⟨σ2,iW,v,hle.trans jQ,h2,I8 rfl e2,?_⟩;have ho:=h2.objs j;rw[bh] at ho;have dQ:ver=S1.ver j:=by rw[az hb,(HX S1 j).1]
   rw[e3.2 dQ];exact ho.2
  ·cases hr
theorem R1 (hC:CtxOK C σ0):∀(l:List ResultVar) {S:St} {σ:Im} {own:Nat→Option Nat} {r:St×List Ty×List PE},Inv C S ρ σ own hv w0 σ0 A a w→tD C l S=some r→
 ∃σ' own' vs,σ.le σ'∧Inv C r.1 ρ σ' own' hv w0 σ0 A a w∧KN C.P a.tmps w l vs∧vs.length=r.2.1.length∧r.2.2.length=r.2.1.length∧
  ∀(i:Nat) (t:Ty),r.2.1[i]?=some t→Rep C.cap σ' t (vs.getD i undef) ((PE.evs ρ r.2.2).getD i .none)
 |[],S,σ,own,r,h,hr=>by
  simp only[tD,aU] at hr;subst hr;exact⟨σ,own,[],.refl σ,h,trivial,rfl,rfl,fun i t e=>by simp at e⟩
 |x::l,S,σ,own,r,h,hr=>by
  simp only[tD,av,aA] at hr;obtain⟨r1,h1,q,h2,rfl⟩:=hr;obtain⟨σ1,dp,v,hle,i1,hx,bW⟩:=aqI h hC h1;obtain⟨σ2,iW,vs,jQ,i2,O1,oa,oc,ni⟩:=R1 hC l i1 h2;refine⟨σ2,iW,v::vs,hle.trans jQ,i2,⟨hx,O1⟩,by simp[oa],by simp[oc],fun i t e=>?_⟩;cases i with
  |zero=>simp at e;subst e;simpa [PE.evs] using bW.mono jQ
  |succ i=>simp at e;simpa [PE.evs] using ni i t e
def F7 (C:Ctx)(s:Sig)(σ:Im)(own:Nat→Option Nat)(w0 w:World)(tmps:Array Value)(d:D)(v:Value):Prop:=
 ∀shs obs,s.mode=.ob shs obs→∃hv dr os,d=.tup (dr::os)∧os.length=obs.length∧(∀k j,own k=some j→w0.heap.size≤k∧k<w.heap.size∧(∀o,σ.c k o=none)∧σ.m k=none)∧
  (∀(t:Nat) (sh:Sh),shs[t]?=some sh→nl sh=false→∀d,aH C (fN shs obs) (mq obs [] os) σ hv sh (tmps.getD t undef) d)∧(∀j,cn C (fN shs obs) (mq obs [] os) σ own hv w w0.heap.size j (ec obs j))∧Rep C.cap σ s.res v dr
theorem F7.no {C:Ctx}{s:Sig}{σ:Im}{own:Nat→Option Nat}{w0 w:World}{tmps:Array Value}{d:D}{v:Value}(h:pW s.mode=false):F7 C s σ own w0 w tmps d v:=fun shs obs e=>by rw[e] at h;cases h
def LD (C:Ctx)(w0:World)(σ0:Base)(fn:Func)(s:Sig)(d:D)(a:Act)(w:World):Prop:=
 ∃v σ,(∃own t fx cx,FrOK σ own w0.heap.size σ0 w t fx cx∧(∀J,s.mode=.it J→d=t)∧F7 C s σ own w0 w a.tmps d v)∧(results fn a.tmps).run C.P w=.ok v w∧σ0.le σ∧σ.ok w∧Below σ0.B w0 w∧
  (∀k o x,σ.c k o=some x→σ0.c k o=some x∨w0.heap.size≤k)∧(∀k x,σ.m k=some x→σ0.m k=some x∨w0.heap.size≤k)∧lW C s σ w0 w v d
theorem Inv.fr (h:Inv C S ρ σ own hv w0 σ0 A a w){s:Sig}{d:D}{v:Value}(hm:∀J,s.mode≠.it J)(ho:pW s.mode=false):∃own t fx cx,FrOK σ own w0.heap.size σ0 w t fx cx∧(∀J,s.mode=.it J→d=t)∧F7 C s σ own w0 w a.tmps d v:=by
 obtain⟨t,fx,cx,h1,_⟩:=h.frame;exact⟨own,t,fx,cx,h1,fun J e=>absurd e (hm J),.no ho⟩
theorem aqH {cap:Nat→Option CSig}{fA:List Ty}{es:List PE}{res:Ty}{pe:PE}{vs:List Value}(hr:R2 fA es res=some pe)(oa:vs.length=fA.length)(oc:es.length=fA.length)
 (ni:∀(i:Nat) (t:Ty),fA[i]?=some t→Rep cap σ t (vs.getD i undef) ((PE.evs ρ es).getD i .none)):Rep cap σ res (u9 vs) (pe.ev ρ):=by
 have many:fA.length≠1→(bif Ty.sub (.tup fA) res then some (PE.tup es) else none)=some pe→Rep cap σ res (u9 vs) (pe.ev ρ):=by
  intro ay hr;cases hb:Ty.sub (.tup fA) res<;>simp only[hb,cond_true,cond_false] at hr
  ·cases hr
  cases hr;have cu:u9 vs=Value.tuple vs.toArray:=by
   match vs,oa with
   |[],_=>rfl
   |[v],hl=>exact absurd hl.symm ay
   |_::_::_,_=>rfl
  rw[cu];exact Rep.sub (Rep.tup _ _ _ (by rw[oa]) (by rw[PE.evs_eq,gT,oc]) ni) hb
 match fA,es,vs,oa,oc,ni,many,hr with
 |[ty],[e],[v],_,_,ni,_,hr=>
  simp only[R2] at hr;cases hb:Ty.sub ty res<;>simp only[hb,cond_true,cond_false] at hr
  ·cases hr
  cases hr;have:=ni 0 ty rfl;exact Rep.sub (by simpa [PE.evs,u9] using this) hb
 |[],[],_,_,_,_,many,hr=>exact many (by simp) hr
 |_::_::_,_::_::_,_,_,_,_,many,hr=>exact many (by simp) hr
theorem YN:∀{l:List Sh} {k:Nat},I6 S k l=true→∀(t:Nat) (s:Sh),l[t]?=some s→nl s=false→th s=true∧(s=.none∨S.r (k+t)=s)
 |[],k,_,t,s,h,_=>by simp at h
 |x::l,k,hk,t,s,h,hd=>by
  simp only[I6,ao,gC] at hk;cases t with
  |zero=>
   simp at h;subst h;refine⟨hk.1,?_⟩;rcases hk.2.1 with(h1|h1)|h1
   ·rw[hd] at h1;cases h1
   ·left;cases x<;>first|rfl|cases h1
   ·exact .inr (Sh.beq_eq _ _ h1)
  |succ t=>
   simp at h;have:=YN hk.2.2 t s h hd
   rwa [vU,BP 1 t] at this
theorem Zl:∀{obs:List (Nat×Ob)},(obs.all fun x=>Ob.beq (S.o x.1) x.2)=true→∀j,ec obs j=.dead∨(S.o j=ec obs j∧nq obs (obs.map fun x=>ρ.o x.1) j=ρ.o j)
 |[],_,j=>.inl rfl
 |x::obs,h,j=>by
  simp only[qu,ao] at h;simp only[ec,gU,nq];cases hb:Nat.beq x.1 j<;>simp only[cond_true,cond_false]
  ·exact Zl h.2 j
  ·rw[←az hb];exact .inr ⟨Ob.beq_eq _ _ h.1,rfl⟩
theorem at1 {ty:Ty}{fA:List Ty}{es:List PE}(h:∀ty e,fA=[ty]→es=[e]→False)(hl:es.length=fA.length):fA.length≠1:=by
 intro h1
 match fA,es with
 |[ty],[e]=>exact h ty e rfl rfl
 |[],_=>simp at h1
 |_::_::_,_=>simp at h1
 |[_],[]=>simp at hl
 |[_],_::_::_=>simp at hl
theorem ac9 (h:Inv C S ρ σ own hv w0 σ0 A a w){T:TypeId}{e:Ty}{j ver:Nat}{v:Value}{d:D}(hc:aH C S ρ σ hv (.obj j ver) v d){pe:PE}
 (hr:(bif Nat.beq ver (S.ver j) then(match S.o j with|.row U f=>bif Nat.beq U T&&Ty.beq f e then some (PE.o j) else none|_=>none) else none)=some pe):
 ∃cells xs,pe.ev ρ=.list xs∧w.ownsRow w0.heap.size T e.size v xs.length cells∧eh C.cap σ e cells xs∧∀k,v.ownBlock=some k→(∀o,σ.c k o=none)∧σ.m k=none:=by
 cases hb:Nat.beq ver (S.ver j)<;>simp only[hb,cond_true,cond_false] at hr
 ·cases hr
 split at hr
 case h_2=>cases hr
 rename_i U f ho;cases dk:Nat.beq U T&&Ty.beq f e<;>simp only[dk,cond_true,cond_false] at hr
 ·cases hr
 cases hr;simp only[ao] at dk;have hU:=az dk.1;have hf:=Ty.beq_eq _ _ dk.2;subst hU hf;have hj:=h.objs j;rw[ho] at hj;obtain⟨cells,xs,h1,h2,h3,h4⟩:=hj;have hv':=hc.2 (az hb);subst hv';exact⟨cells,xs,h1,h2,h3,fun k hk=>(h.owns k j (h4 k hk)).2.2⟩
theorem ac5:∀(l:List ResultVar) {S:St} {r:St×List Ty×List PE},tD C l S=some r→r.1.ver=S.ver
 |[],S,r,h=>by simp only[tD,aU] at h;subst h;rfl
 |x::l,S,r,h=>by
  simp only[tD,av,aA] at h;obtain⟨r1,h1,q,h2,rfl⟩:=h;rw[ac5 l h2];cases x with
  |tmp t=>
   simp only[Bm,aA] at h1;obtain⟨y,_,rfl⟩:=h1;exact(nS _ _).1
  |cell b T=>
   simp only[Bm] at h1;split at h1
   ·cases h1;exact(nS _ _).1
   ·rename_i j ver t0 e0 _;cases hb:Nat.beq ver (((S.fzs (uU C S T (.tmp b))).fz j).ver j)<;>simp only[hb,cond_true,cond_false] at h1
    ·cases h1
    ·split at h1
     ·cases h1;rw[(HX _ _).1];exact(nS _ _).1
     ·cases h1
   ·cases h1
theorem Qv:∀{a:List AgC} {i j ver:Nat},(nM a).Nodup→a[i]?=some (.obj j ver)→rj a j=some i
 |[],i,j,ver,_,h=>by simp at h
 |.dat t::a,i,j,ver,hn,h=>by
  cases i with
  |zero=>simp at h
  |succ i=>simp at h;simp only[rj];rw[Qv (a:=a) hn h];rfl
 |.obj k u::a,i,j,ver,hn,h=>by
  simp only[nM,mS] at hn;cases i with
  |zero=>simp at h;obtain⟨rfl,_⟩:=h;simp only[rj,gE];rfl
  |succ i=>
   simp at h;have hm:∀{a:List AgC} {i:Nat},a[i]?=some (.obj j ver)→j∈nM a:=by
        intro a
        induction a with
        |nil=>intro i h;simp at h
        |cons x a ih=>
         intro i h;cases i with
         |zero=>simp at h;subst h;simp[nM]
         |succ i=>simp at h;have:=ih h;cases x<;>simp[nM,this]
   have ay:k≠j:=fun e=>hn.1 (e▸hm h);simp only[rj];rw[ej ay,cond_false,Qv hn.2 h];rfl
theorem QY (h:Inv C S ρ σ own hv w0 σ0 A a w){x0:PE}{vs:List Value}{ds:List D}(hd:x0.ev ρ=.agg ds)(ow:Nat→Option Nat):∀(a:List AgC) (l:List RC) (i:Nat),lM S a l=true→(∀(n:Nat) (c:AgC),a[n]?=some c→tJ C S σ hv c (vs.getD (i+n) undef) (ds.getD (i+n) .none))→
 (∀(n j ver k:Nat),a[n]?=some (.obj j ver)→own k=some j→ow k=some (i+n))→
 a.length=l.length∧(PE.evc ρ (lX x0 a i)).length=l.length∧∀(n:Nat) (c:RC),l[n]?=some c→Vz C σ w0.heap.size w ow (i+n) c (vs.getD (i+n) undef) ((PE.evc ρ (lX x0 a i)).getD n .none)
 |[],[],i,_,_,_=>⟨rfl,rfl,fun n c hc=>by simp at hc⟩
 |[],_::_,i,hf,_,_=>by simp[lM] at hf
 |x::a,l,i,hf,Ie,sP=>by
  have e:∀n,i+1+n=i+(n+1):=fun n=>by omega
  have C2:∀(n:Nat) (c:AgC),a[n]?=some c→tJ C S σ hv c (vs.getD (i+1+n) undef) (ds.getD (i+1+n) .none):=fun n c hc=>by rw[e];exact Ie (n+1) c (by simpa using hc)
  have X9:∀(n j ver k:Nat),a[n]?=some (.obj j ver)→own k=some j→ow k=some (i+1+n):=fun n j ver k hc hk=>by rw[e];exact sP (n+1) j ver k (by simpa using hc) hk
  have h0:=Ie 0 x rfl;rw[iw] at h0;cases x with
  |dat ty=>
   cases l with
   |nil=>simp[lM] at hf
   |cons y l=>
    cases y with
    |row T e=>simp[lM] at hf
    |dat u=>
     simp only[lM,ao] at hf;obtain⟨g1,g2,g3⟩:=QY h hd ow a l (i+1) hf.2 C2 X9;have e1:PE.evc ρ (lX x0 (.dat ty::a) i)=ds.getD i .none::PE.evc ρ (lX x0 a (i+1)):=by
       simp only[lX,PE.evc,PE.ev,hd,D.c];have:=h0.2.dcells h0.1;simp only[D.cells] at this ⊢;rw[this];rfl
     rw[e1];refine⟨by simp[g1],by simp[g2],fun n c hc=>?_⟩;cases n with
     |zero=>simp at hc;subst hc;exact⟨by rw[←(Ty.sub_one _ _ hf.1.1).1];exact h0.1,h0.2.sub hf.1.1⟩
     |succ n=>simp at hc;have:=g3 n c hc;rw[e] at this;simpa using this
  |obj j ver=>
   cases l with
   |nil=>simp[lM] at hf
   |cons y l=>
    cases y with
    |dat u=>simp[lM] at hf
    |row T ty=>
     simp only[lM,ao] at hf;obtain⟨⟨f1,f2⟩,f3⟩:=hf;obtain⟨g1,g2,g3⟩:=QY h hd ow a l (i+1) f3 C2 X9;have bf:=h.objs j;split at f2
     case h_2=>cases f2
     rename_i U f eo;rw[eo] at bf;simp only[ao] at f2;have q1:=az f2.1;have q2:=Ty.beq_eq _ _ f2.2;subst q1 q2;obtain⟨cells,xs,k1,k2,k3,k4⟩:=bf;have sT:=h0.2 (az f1);have e1:PE.evc ρ (lX x0 (.obj j ver::a) i)=.list xs::PE.evc ρ (lX x0 a (i+1)):=by
         simp only[lX,PE.evc,PE.ev,k1,D.cells];rfl
     rw[e1];refine⟨by simp[g1],by simp[g2],fun n c hc=>?_⟩;cases n with
     |zero=>
      simp at hc;subst hc;rw[iw,sT];exact⟨cells,xs,rfl,k2,k3,fun k hk=>by have:=sP 0 j ver k rfl (k4 k hk);rwa [iw] at this⟩
     |succ n=>simp at hc;have:=g3 n c hc;rw[e] at this;simpa using this
theorem aqJ (h:Inv C S ρ σ own hv w0 σ0 A a w)(hC:CtxOK C σ0)(dQ:∀j,S.ver j=0){fn:Func}{s:Sig}{pe:PE}(hr:xV C fn s S=some pe):LD C w0 σ0 fn s (pe.ev ρ) a w:=by
 unfold xV at hr;split at hr
 ·rename_i shs obs hm;simp only[ac7,av] at hr;obtain⟨r,aO,hr⟩:=hr;obtain⟨σ1,dp,vs,hle,h1,w6,oa,oc,ni⟩:=R1 hC _ h aO;cases hb:O9 r.1 shs obs<;>simp only[hb,cond_true,cond_false] at hr
  ·cases hr
  simp only[aA] at hr;obtain⟨e,he,rfl⟩:=hr;simp only[O9,ao] at hb;have bW:=aqH he oa oc ni;obtain⟨t,fx,cx,hf,_⟩:=h1.frame;have qP:Compat r.1 hv (fN shs obs) hv:=⟨fun j=>by rw[ac5 _ aO,dQ];exact nK _,fun _ _=>rfl⟩
  have Ol:(PE.evs ρ (e::obs.map fun x=>.o x.1))=e.ev ρ::obs.map (fun x=>ρ.o x.1):=by simp[PE.evs_eq,FW,PE.ev]
  refine⟨_,σ1,⟨dp,t,fx,cx,hf,(fun J e=>by rw[hm] at e;cases e),fun Sa aAk e'=>?_⟩,xU w6,h1.le,h1.ok,h1.below,h1.newc,h1.newm,by unfold lW;rw[hm];trivial⟩;rw[hm] at e';cases e';refine⟨hv,e.ev ρ,obs.map fun x=>ρ.o x.1,by simp only[PE.ev];rw[Ol],by simp,h1.owns,fun t sh hs hd d=>?_,fun j=>?_,bW⟩
  ·obtain⟨fi,e1⟩:=YN hb.1 t sh hs hd;rcases e1 with e1|e1
   ·subst e1;trivial
   ·rw[gF] at e1;have:=h1.regs t;rw[e1] at this;have du:∀gs s',sh≠.opt gs s':=fun gs s' e=>by subst e;cases fi
    have:=aH.mono' (S':=fN shs obs) (ρ':=mq obs [] (obs.map fun x=>ρ.o x.1)) (.refl σ1) qP du this;cases sh with
    |dat t=>cases hd
    |opt gs s=>cases fi
    |eptr j v o q=>cases fi
    |agg l=>cases fi
    |_=>exact this
  ·rcases Zl (ρ:=ρ) hb.2 j with e1|⟨e1,e2⟩
   ·rw[e1];trivial
   ·rw[←e1];exact(h1.objs j).mono (.refl σ1) qP rfl e2 (fun k hk=>⟨hk,rfl⟩)
 ·rename_i hm;simp only[ac6,av] at hr;obtain⟨r,aO,hr⟩:=hr;obtain⟨σ1,dp,vs,hle,h1,w6,oa,oc,ni⟩:=R1 hC _ h aO;refine⟨_,σ1,h1.fr (fun J e=>by rw[hm] at e;cases e) (by rw[hm];rfl),xU w6,h.le.trans hle,h1.ok,h1.below,h1.newc,h1.newm,?_⟩;unfold lW;rw[hm];simp only;split at hr
  ·rename_i ty e e1 e2;rw[e1] at oa ni;rw[e2] at ni;cases hb:Ty.sub ty s.res<;>simp only[hb,cond_true,cond_false] at hr
   ·cases hr
   cases hr;obtain⟨v,rfl⟩:∃v,vs=[v]:=by
        match vs,oa with
        |[v],_=>exact⟨v,rfl⟩
   have:=ni 0 ty rfl;exact Rep.sub (by simpa [PE.evs,u9] using this) hb
  ·rename_i ay;cases hb:Ty.sub (.tup r.2.1) s.res<;>simp only[hb,cond_true,cond_false] at hr
   ·cases hr
   cases hr;have X4:=at1 (ty:=.bool) ay oc;have cu:u9 vs=Value.tuple vs.toArray:=by
        match vs,oa with
        |[],_=>rfl
        |[v],hl=>rw[←hl] at X4;exact absurd rfl X4
        |_::_::_,_=>rfl
   rw[cu];refine Rep.sub (Rep.tup _ _ _ (by rw[oa]) (by rw[PE.evs_eq,gT,oc]) ni) hb
 ·rename_i l hm;have key:∃(v:Value) (x0:PE) (vs:List Value) (ds:List D) (ag:List AgC),(results fn a.tmps).run C.P w=.ok v w∧pe=.mk (lX x0 ag 0)∧x0.ev ρ=.agg ds∧v=.agg vs.toArray∧lM S ag l=true∧gx (nM ag)=true∧
        vs.length=ag.length∧ds.length=ag.length∧∀(i:Nat) (c:AgC),ag[i]?=some c→tJ C S σ hv c (vs.getD i undef) (ds.getD i .none):=by
   unfold ada at hr;split at hr
   ·rename_i t fI;split at hr
    case h_2=>cases hr
    rename_i ag gM;cases hb:(lM S ag l&&gx (nM ag))<;>simp only[hb,cond_true,cond_false] at hr
    ·cases hr
    cases hr;simp only[ao] at hb;have fY:=(nB (gs:=[]) h rfl t).1;rw[gM] at fY;obtain⟨vs,ds,e1,e2,e3,e4,e5⟩:=fY;exact⟨_,.r t,vs,ds,ag,xU (vs:=[a.tmps.getD t undef]) (by rw[fI];exact⟨rfl,trivial⟩),rfl,e2,e1,hb.1,hb.2,e3,e4,e5⟩
   ·rename_i b U fI;split at hr
    case h_2=>cases hr
    rename_i ag t0 x0 hl;cases hb:((lM S ag l&&gx (nM ag))&&Nat.beq t0 0)<;>simp only[hb,cond_true,cond_false] at hr
    ·cases hr
    cases hr;simp only[ao] at hb;obtain⟨hb,OJ⟩:=hb;obtain rfl:=az OJ;have hq:=Ec (Φ:=fun _ _=>none) (dst:=0) (gs:=[]) h hC rfl hl (o:={(default:Oper) with op:=.load U (.tmp b)}) rfl;obtain⟨v,d,q1,q2,q3,_⟩:=hq _ rfl;obtain⟨vs,ds,e1,e2,e3,e4,e5⟩:=q3;have hd:x0.ev ρ=d:=by
     have:=congrArg (fun e:Env=>e.r 0) q1;simpa [Env.setR,bY] using this
    exact⟨_,x0,vs,ds,ag,xU (vs:=[v]) (by rw[fI];exact⟨I8 rfl q2,trivial⟩),rfl,by rw[hd,e2],e1,hb.1,hb.2,e3,e4,e5⟩
   ·cases hr
  obtain⟨v,x0,vs,ds,ag,ak,rfl,e2,e1,b1,b2,e3,e4,e5⟩:=key
  obtain⟨g1,g2,g3⟩:=QY h (x0:=x0) (vs:=vs) (ds:=ds) e2 (fun k=>(own k).bind (rj ag)) ag l 0 b1 (fun n c hc=>by rw[gF];exact e5 n c hc) (fun n j ver k hc hk=>by
   show(own k).bind (rj ag)=some (0+n);rw[hk,j9,Qv (ml b2) hc,gF])
  simp only[gF] at g3;refine⟨_,σ,h.fr (fun J e=>by rw[hm] at e;cases e) (by rw[hm];rfl),ak,h.le,h.ok,h.below,h.newc,h.newm,?_⟩;unfold lW;rw[hm];refine⟨vs,PE.evc ρ (lX x0 ag 0),fun k=>(own k).bind (rj ag),e1,by simp only[PE.ev],by omega,g2,g3,fun k i hk=>?_⟩;cases ho:own k with
  |none=>
   have hk:(own k).bind (rj ag)=some i:=hk;rw[ho] at hk;cases hk
  |some j=>exact h.owns k j ho
 ·rename_i J hm;split at hr
  case h_2=>cases hr
  rename_i fI hJ;cases hr;obtain⟨t,fx,cx,h1,h2⟩:=h.frame;refine⟨_,σ,⟨own,t,fx,cx,h1,fun J' e=>?_,.no (by rw[hm];rfl)⟩,xU (vs:=[]) (by rw[fI];trivial),h.le,h.ok,h.below,h.newc,h.newm,by unfold lW;rw[hm];trivial⟩;exact(h2 J hJ).2
 ·rename_i T e hm;have key:∃v,(results fn a.tmps).run C.P w=.ok v w∧∃cells xs,pe.ev ρ=.list xs∧w.ownsRow w0.heap.size T e.size v xs.length cells∧eh C.cap σ e cells xs∧∀k,v.ownBlock=some k→(∀o,σ.c k o=none)∧σ.m k=none:=by
   unfold ac8 at hr;split at hr
   ·rename_i t ht;split at hr
    case h_2=>cases hr
    rename_i j ver hs;have hc:=(nB (gs:=[]) h rfl t).1;rw[hs] at hc;exact⟨_,xU (vs:=[a.tmps.getD t undef]) (by rw[ht];exact⟨rfl,trivial⟩),ac9 h hc hr⟩
   ·rename_i b U hb;split at hr
    case h_2=>cases hr
    rename_i j ver t0 e0 hl;have hq:=Ec (Φ:=fun _ _=>none) (dst:=0) (gs:=[]) h hC rfl hl (o:={(default:Oper) with op:=.load U (.tmp b)}) rfl;obtain⟨v,d,e1,e2,e3,e4⟩:=hq _ rfl;exact⟨_,xU (vs:=[v]) (by rw[hb];exact⟨I8 rfl e2,trivial⟩),ac9 h e3 hr⟩
   ·cases hr
  obtain⟨v,h1,h2⟩:=key;refine⟨v,σ,h.fr (fun J e=>by rw[hm] at e;cases e) (by rw[hm];rfl),h1,h.le,h.ok,h.below,h.newc,h.newm,?_⟩;unfold lW;rw[hm];exact h2
theorem kG.drop {σ:Im}{B D:Nat}:∀{ds:List Deferred},({target:=.collected D,args:=#[]}:Deferred)∉ds→kG σ B ds→kG (σ.drop D) B ds
 |[],_,_=>trivial
 |x::ds,hn,⟨⟨D',h1,h2,h3⟩,h⟩=>by
  simp only[cD,not_or] at hn;refine⟨⟨D',h1,?_,h3⟩,kG.drop hn.2 h⟩;have:D'≠D:=fun e=>hn.1 (by rw[h1,e]);simp[Im.drop,this,h2]
theorem Inv.shut (h:Inv C S ρ σ own hv w0 σ0 A a w)(ls:σ0.fin){x:Deferred}{ds:List Deferred}(hd:a.defers=x::ds):
 ∃D,x.target=.collected D∧w.heap[D]?=some (.deferred (some []))∧Inv C S ρ (σ.drop D) own hv w0 σ0 A {a with defers:=ds} (w.putObj D (.deferred none)):=by
 have nY:=h.defers;rw[hd] at nY;obtain⟨⟨D,rfl,hm,hB,Oa⟩,wJ⟩:=nY;have hD:w.heap[D]?=some (.deferred (some [])):=by
  rcases h.ok.m D _ hm with⟨h1,_⟩|⟨_,h2⟩
  ·exact absurd rfl h1
  ·exact h2
 have jq:∀k,k≠D→(w.putObj D (.deferred none)).heap[k]?=w.heap[k]?:=fun k hk=>World.putObj_heap_other hk;have cm:∀k j,own k=some j→k≠D:=fun k j hk e=>by subst e;rw[(h.owns k j hk).2.2.2] at hm;cases hm
 have hR:Im.leR C.cap σ (σ.drop D):=⟨fun r=>r.drop hm,fun _ _ _ e=>e⟩
 have C9:∀k x,(σ.drop D).m k=some x→k≠D∧σ.m k=some x:=by
  intro k x hx;simp only[Im.drop] at hx;split at hx
  ·cases hx
  ·rename_i ay;exact⟨ay,hx⟩
 refine⟨D,rfl,hD,wJ.drop Oa,⟨fun k o v hc=>?_,fun k es hc=>?_⟩,⟨h.le.c,fun k es hc=>?_⟩,h.old,h.newc,fun k es hc=>h.newm k es (C9 k es hc).2,h.below.trans ⟨rfl,rfl,rfl,by simp,fun k hk=>jq k (by have:=h.bw;omega)⟩,h.bw,fun k j hk=>?_,fun t=>?_,fun j=>?_,h.opts,?_⟩
 ·have h1:=h.ok.c k o v hc;have ay:k≠D:=fun e=>by subst e;simp[World.cell?,hD] at h1
  rw[World.cell?_of_block (jq k ay)];exact h1
 ·exact(h.ok.m k es (C9 k es hc).2).keep (jq k (C9 k es hc).1)
 ·have ay:k≠D:=fun e=>by
   subst e;have:=h.le.m _ _ hc;rw[hm] at this;cases this;have:=h.old ls _ hc;omega
  simp[Im.drop,ay,h.le.m k es hc]
 ·obtain⟨g1,g2,g3,g4⟩:=h.owns k j hk;exact⟨g1,by simpa using g2,g3,by simp only[Im.drop];split<;>first|rfl|exact g4⟩
 ·exact aH.monoR hR (.refl S hv) (fun _ _ _=>rfl) (fun gs s e=>(h.opts t gs s e).2) (h.regs t)
 ·exact(h.objs j).monoR hR (.refl S hv) rfl rfl (fun k hk=>⟨hk,jq k (cm k j hk)⟩)
 ·obtain⟨t,fx,cx,hf,ht⟩:=h.frame;exact⟨t,fx,cx,⟨σ0.keep _ _ _ _ _ hf.F ⟨rfl,rfl,rfl,by simp,fun k hk=>by omega⟩ (fun k hk=>jq k fun e=>by subst e;exact hf.d k hm hB hk),hf.own,hf.c,fun k x hx=>hf.m k x (C9 k x hx).2,fun k hx=>hf.d k (C9 k _ hx).2⟩,ht⟩
def qy (C:Ctx)(w0:World)(σ0:Base)(fn:Func)(s:Sig)(d:D)(tmps:Array Value):List Deferred→World→Prop
 |[],w=>LD C w0 σ0 fn s d {tmps:=tmps,defers:=[]} w
 |x::ds,w=>∃D,x.target=.collected D∧w.heap[D]?=some (.deferred (some []))∧qy C w0 σ0 fn s d tmps ds (w.putObj D (.deferred none))
theorem Inv.retD (hC:CtxOK C σ0)(dQ:∀j,S.ver j=0)(ls:σ0.fin){fn:Func}{s:Sig}{pe:PE}(hr:xV C fn s S=some pe):∀(ds:List Deferred) {σ:Im} {a:Act} {w:World},Inv C S ρ σ own hv w0 σ0 A a w→a.defers=ds→qy C w0 σ0 fn s (pe.ev ρ) a.tmps ds w
 |[],σ,a,w,h,hd=>by
  have e:a={tmps:=a.tmps,defers:=[]}:=by cases a;simp only at hd;subst hd;rfl
  rw[e] at h;exact aqJ h hC dQ hr
 |x::ds,σ,a,w,h,hd=>by
  obtain⟨D,h1,h2,h3⟩:=h.shut ls hd;exact⟨D,h1,h2,Inv.retD hC dQ ls hr ds (a:={a with defers:=ds}) h3 rfl⟩
end
end Cx
namespace Cx
open Go Go.RowKit
def lT (C:Ctx)(f:Nat)(cts ys:List Ty)(ds xs:List D):Prop:=
 ∀(σ:Im) (w:World) (yv:Value) (vs:List Value) (F:D→(Nat→Prop)→(Nat→Prop)→World→Prop) (fx cx:Nat→Prop) (m:Nat),σ.ok w→CtxOK C σ→oU C σ cts vs ds→m≤xs.length→
  (∀t fx cx w,F t fx cx w→∀k,fx k→k<w.heap.size)→(∀t fx cx w,F t fx cx w→∀k,cx k→fx k)→
  (∀t fx cx w w',F t fx cx w→Below 0 w w'→(∀k,fx k→w'.heap[k]?=w.heap[k]?)→F t fx cx w')→
  F (.list []) fx cx w→(∀k o x,σ.c k o=some x→¬cx k)→(∀k x,σ.m k=some x→¬cx k)→
  (∀(i:Nat) (fx cx:Nat→Prop) (w1:World) (σ1:Im) (args:List Value) (ds':List D),i≤m→xs[i]?=some (.tup ds')→F (.list (xs.take i)) fx cx w1→σ1.ok w1→oU C σ1 ys args ds'→
    (∀k o x,σ1.c k o=some x→¬cx k)→(∀k x,σ1.m k=some x→¬cx k)→
    (∀k o x,σ1.c k o=some x→σ.c k o=some x∨w.heap.size≤k)→(∀k x,σ1.m k=some x→σ.m k=some x∨w.heap.size≤k)→
    VC C.P yv args w1 fun u w2=>u=.bool (decide (i<m))∧Below 0 w1 w2∧(∀k,k<w1.heap.size→¬cx k→w2.heap[k]?=w1.heap[k]?)∧
     ∃m0 kf,F (.list (xs.take (i+1))) m0 kf w2∧(∀k,m0 k→k<w1.heap.size→fx k∨(∃o x,σ1.c k o=some x)∨(∃x,σ1.m k=some x∧x≠cZ))∧(∀k,kf k→k<w1.heap.size→cx k))→
  Calls C.P f (#[yv]++vs.toArray) w fun e w'=>(∃v,e=.returned v)∧∃fx cx,F (.list (xs.take (m+1))) fx cx w'
def gk (C:Ctx)(Φ:aQ):Prop:=∀f cs ys,C.cap f=some cs→mf cs.args cs.res=some ys→(∃fn,C.P.funcs[f]?=some fn∧fn.body.isSome=true∧(fn.name== "runtime.NumGoroutine")=false)∧
 ∀ds d,Φ f ds=some d→∃xs,d=.list xs∧(∀x,x∈xs→∃ds',x=.tup ds'∧ds'.length=ys.length)∧lT C f cs.caps ys ds xs
section
variable {C:Ctx} {S:St} {ρ:Env} {σ:Im} {own:Nat→Option Nat} {hv:Nat→Value} {w0:World} {σ0:Base} {A:Nat→Prop} {a:Act} {w:World}
theorem Inv.mono_regs (h:Inv C S ρ σ own hv w0 σ0 A a w){τ:Im}(hle:σ.le τ)(t:Nat):aH C S ρ τ hv (S.r t) (a.tmps.getD t undef) (ρ.r t):=
 aH.mono hle (.refl S hv) (fun _ _ _=>rfl) (fun gs s e=>(h.opts t gs s e).2) (h.regs t)
theorem Inv.joinIm (h:Inv C S ρ σ own hv w0 σ0 A a w){τ:Im}(hτ:τ.ok w)(hd:∀k,τ.m k≠some cZ)(hoc:∀k o v,τ.c k o=some v→own k=none)(hom:∀k v,τ.m k=some v→own k=none)
 (da:∀k o v,τ.c k o=some v→σ.c k o=some v∨w0.heap.size≤k) (cR:∀k v,τ.m k=some v→σ.m k=some v∨w0.heap.size≤k)
 (dg:∀t fx cx,FrOK σ own w0.heap.size σ0 w t fx cx→(∀k o v,τ.c k o=some v→¬cx k)∧∀k v,τ.m k=some v→¬cx k):Inv C S ρ (σ.plus τ) own hv w0 σ0 A a w where
 defers:=h.defers.mono (Im.plus_le1 σ τ)
 ok:=Im.plus_ok h.ok hτ
 le:=h.le.trans (Im.plus_le1 σ τ)
 old:=h.old
 newc:=fun k o x e=>(Im.plus_c e).elim (h.newc k o x) fun e=>(da k o x e).elim (h.newc k o x) .inr
 newm:=fun k x e=>(Im.plus_m e).elim (h.newm k x) fun e=>(cR k x e).elim (h.newm k x) .inr
 below:=h.below
 bw:=h.bw
 owns:=fun k j hk=>by
  obtain⟨g1,g2,g3,g4⟩:=h.owns k j hk;refine⟨g1,g2,fun o=>?_,?_⟩
  ·cases e:(σ.plus τ).c k o with
   |none=>rfl
   |some x=>
    rcases Im.plus_c e with e|e
    ·rw[g3 o] at e;cases e
    ·rw[hoc k o x e] at hk;cases hk
  ·cases e:(σ.plus τ).m k with
   |none=>rfl
   |some x=>
    rcases Im.plus_m e with e|e
    ·rw[g4] at e;cases e
    ·rw[hom k x e] at hk;cases hk
 regs:=h.mono_regs (Im.plus_le1 σ τ)
 objs:=fun j=>(h.objs j).mono (Im.plus_le1 σ τ) (.refl S hv) rfl rfl fun k hk=>⟨hk,rfl⟩
 opts:=h.opts
 frame:=by
  obtain⟨t,fx,cx,hf,ht⟩:=h.frame;obtain⟨h1,h2⟩:=dg t fx cx hf;exact⟨t,fx,cx,⟨hf.F,hf.own,fun k o x e=>(Im.plus_c e).elim (hf.c k o x) (h1 k o x),fun k x e=>(Im.plus_m e).elim (hf.m k x) (h2 k x),fun k e=>(Im.plus_m e).elim (hf.d k) fun e=>absurd e (hd k)⟩,ht⟩
theorem Inv.keep (h:Inv C S ρ σ own hv w0 σ0 A a w){w':World}{X:Nat→Prop}(hb:Below 0 w w')(hX:∀k,X k→w'.heap[k]?=w.heap[k]?)(h0:∀k,k<w0.heap.size→X k)(ho:∀k j,own k=some j→X k)(hc:∀k o v,σ.c k o=some v→X k)(hm:∀k v,σ.m k=some v→X k)
 (dg:∀t fx cx,FrOK σ own w0.heap.size σ0 w t fx cx→∀k,fx k→X k):Inv C S ρ σ own hv w0 σ0 A a w' where
 defers:=h.defers
 ok:=⟨fun k o v e=>by rw[World.cell?_of_block (hX k (hc k o v e))];exact h.ok.c k o v e,fun k v e=>(h.ok.m k v e).keep (hX k (hm k v e))⟩
 le:=h.le
 old:=h.old
 newc:=h.newc
 newm:=h.newm
 below:=h.below.trans ⟨hb.os,hb.tape,hb.output,hb.size,fun k hk=>hX k (h0 k (vV hk h.bw))⟩
 bw:=h.bw
 owns:=fun k j hk=>let⟨g1,g2,g3⟩:=h.owns k j hk;⟨g1,vV g2 hb.size,g3⟩
 regs:=h.regs
 objs:=fun j=>(h.objs j).mono (.refl σ) (.refl S hv) rfl rfl fun k hk=>⟨hk,hX k (ho k j hk)⟩
 opts:=h.opts
 frame:=by
  obtain⟨t,fx,cx,hf,ht⟩:=h.frame;exact⟨t,fx,cx,⟨σ0.keep _ _ _ _ _ hf.F hb fun k hk=>hX k (dg t fx cx hf k hk),hf.own,hf.c,hf.m,hf.d⟩,ht⟩
end
def Base.rnd (σ0:Base)(σ:Im)(own:Nat→Option Nat)(w:World)(t:D)(X:Nat→Prop):Base:=
 {σ with
  B:=σ0.B
  fin:=False
  F:=fun t' fx cx w'=>t'=t∧(∀k,fx k↔(k<w.heap.size∧own k=none∧σ.m k≠some cZ∧¬X k))∧(∀k,cx k↔(fx k∧(∀o,σ.c k o=none)∧σ.m k=none))∧w.heap.size≤w'.heap.size∧∀k,fx k→w'.heap[k]?=w.heap[k]?
  lt:=fun t' fx cx w' h k hk=>vV ((h.2.1 k).1 hk).1 h.2.2.2.1
  sub:=fun t' fx cx w' h k hk=>((h.2.2.1 k).1 hk).1
  keep:=fun t' fx cx w' kF h hb hs=>⟨h.1,h.2.1,h.2.2.1,iy h.2.2.2.1 hb.size,fun k hk=>(hs k hk).trans (h.2.2.2.2 k hk)⟩}
section
variable {C:Ctx} {S S':St} {ρ ρ':Env} {σ σ':Im} {own own':Nat→Option Nat} {hv hv':Nat→Value} {w0:World} {σ0:Base} {A A':Nat→Prop} {a a':Act} {w w':World} {X:Nat→Prop}
theorem Inv.toRnd (h:Inv C S ρ σ own hv w0 σ0 A a w){t:D}(ht:∀j,S.o j=.tr→(∃ys,C.yl=some (j,ys))∧ρ.o j=t):Inv C S ρ σ own hv w0 (σ0.rnd σ own w t X) A a w:=by
 refine⟨h.defers,h.ok,.refl σ,(fun hf=>hf.elim),(fun _ _ _ e=>.inl e),(fun _ _ e=>.inl e),h.below,h.bw,h.owns,h.regs,h.objs,h.opts,t,fun k=>k<w.heap.size∧own k=none∧σ.m k≠some cZ∧¬X k,fun k=>(k<w.heap.size∧own k=none∧σ.m k≠some cZ∧¬X k)∧(∀o,σ.c k o=none)∧σ.m k=none,
  ⟨⟨rfl,fun _=>.rfl,fun _=>.rfl,bk _,fun _ _=>rfl⟩,fun k j hk hf=>?_,fun k o x e hc=>?_,fun k x e hc=>?_,fun k e _ hf=>hf.2.2.1 e⟩,ht⟩
 ·have:=hf.2.1;rw[hk] at this;cases this
 ·have:=hc.2.1 o;rw[e] at this;cases this
 ·have:=hc.2.2;rw[e] at this;cases this
theorem Inv.markSame {w1:World}(h:σ.ok w1)(h':σ'.ok w')(hle:σ.le σ'){k:Nat}(hk:σ.m k=some cZ):w'.heap[k]?=w1.heap[k]?:=by
 have e1:w1.heap[k]?=some (.deferred (some [])):=by
  rcases h.m k _ hk with⟨h1,_⟩|⟨_,h2⟩
  ·exact absurd rfl h1
  ·exact h2
 have e2:w'.heap[k]?=some (.deferred (some [])):=by
  rcases h'.m k _ (hle.m k _ hk) with⟨h1,_⟩|⟨_,h2⟩
  ·exact absurd rfl h1
  ·exact h2
 rw[e1,e2]
theorem Inv.rndSame {w1:World}{t:D}(aB:σ.ok w1)(h':Inv C S' ρ' σ' own' hv' w0 (σ0.rnd σ own w1 t X) A' a' w'){k:Nat}(hk:k<w1.heap.size)(ho:own k=none)(hX:¬X k):w'.heap[k]?=w1.heap[k]?:=by
 by_cases hd:σ.m k=some cZ
 ·exact Inv.markSame aB h'.ok h'.le hd
 ·obtain⟨t',fx,cx,hf,_⟩:=h'.frame;obtain⟨_,f2,_,_,f5⟩:=hf.F;exact f5 k ((f2 k).2 ⟨hk,ho,hd,hX⟩)
theorem Inv.rndBelow {w1:World}{t:D}(h:Inv C S ρ σ own hv w0 σ0 A a w1)(h':Inv C S' ρ' σ' own' hv' w0 (σ0.rnd σ own w1 t X) A' a' w'):Below 0 w1 w':=by
 obtain⟨t',fx,cx,hf,_⟩:=h'.frame;obtain⟨_,_,_,f4,_⟩:=hf.F;exact⟨h'.below.os.trans h.below.os.symm,h'.below.tape.trans h.below.tape.symm,h'.below.output.trans h.below.output.symm,f4,fun k hk=>by omega⟩
theorem Inv.rndOwn {w1:World}{t:D}(h':Inv C S' ρ' σ' own' hv' w0 (σ0.rnd σ own w1 t X) A' a' w'){k j:Nat}(hk:own' k=some j)(hX:¬X k):(∃i,own k=some i)∨w1.heap.size≤k:=by
 obtain⟨t',fx,cx,hf,_⟩:=h'.frame;obtain⟨_,f2,_,_,_⟩:=hf.F;cases e:own k with
 |some i=>exact .inl ⟨i,rfl⟩
 |none=>
  refine .inr (Nat.le_of_not_lt fun ah=>?_);by_cases hd:σ.m k=some cZ
  ·have:=(h'.owns k j hk).2.2.2;rw[h'.le.m k _ hd] at this;cases this
  ·exact hf.own k j hk ((f2 k).2 ⟨ah,e,hd,hX⟩)
theorem Inv.rndC {w1:World}{t:D}(h':Inv C S' ρ' σ' own' hv' w0 (σ0.rnd σ own w1 t X) A' a' w'){k:Nat}(hk:(∃o x,σ'.c k o=some x)∨∃x,σ'.m k=some x)(hX:¬X k):(∃o x,σ.c k o=some x)∨(∃x,σ.m k=some x)∨(∃i,own k=some i)∨w1.heap.size≤k:=by
 obtain⟨t',fx,cx,hf,_⟩:=h'.frame;obtain⟨_,f2,f3,_,_⟩:=hf.F;cases e:own k with
 |some i=>exact .inr (.inr (.inl ⟨i,rfl⟩))
 |none=>
  by_cases hm:∃x,σ.m k=some x
  ·exact .inr (.inl hm)
  by_cases hc:∃o x,σ.c k o=some x
  ·exact .inl hc
  refine .inr (.inr (.inr (Nat.le_of_not_lt fun ah=>?_)));have N1:σ.m k=none:=by
   cases e2:σ.m k with
   |none=>rfl
   |some x=>exact absurd ⟨x,e2⟩ hm
  have kN:cx k:=(f3 k).2 ⟨(f2 k).2 ⟨ah,e,by rw[N1];simp,hX⟩,fun o=>by
   cases e2:σ.c k o with
   |none=>rfl
   |some x=>exact absurd ⟨o,x,e2⟩ hc,N1⟩
  rcases hk with⟨o,x,hk⟩|⟨x,hk⟩
  ·exact hf.c k o x hk kN
  ·exact hf.m k x hk kN
theorem Inv.ofRnd {w1:World}(h:Inv C S ρ σ own hv w0 σ0 A a w1){t:D}{fx cx:Nat→Prop}(dg:FrOK σ own w0.heap.size σ0 w1 t fx cx)(hX:∀k,fx k→¬X k)(h':Inv C S' ρ' σ' own' hv' w0 (σ0.rnd σ own w1 t X) A' a' w'):
 Inv C S' ρ' σ' own' hv' w0 σ0 A' a' w':=by
 have hb:=h.rndBelow h';have kM:=h';obtain⟨t',m0,kf,hf,ht⟩:=kM.frame;obtain⟨f1,f2,f3,f4,f5⟩:=hf.F;have ah:=σ0.lt _ _ _ _ dg.F;have bS:=σ0.sub _ _ _ _ dg.F
 have na:∀k,fx k→own k=none:=fun k hk=>by
  cases e:own k with
  |none=>rfl
  |some j=>exact absurd hk (dg.own k j e)
 have lz:∀k,cx k→¬((∃o x,σ'.c k o=some x)∨∃x,σ'.m k=some x):=fun k hk hc=>by
  have h1:=bS k hk;rcases Inv.rndC h' hc (hX k h1) with⟨o,x,e⟩|⟨x,e⟩|⟨j,e⟩|e
  ·exact dg.c k o x e hk
  ·exact dg.m k x e hk
  ·exact dg.own k j e h1
  ·have:=ah k h1;omega
 refine⟨h'.defers,h'.ok,h.le.trans h'.le,h.old,fun k o x e=>(h'.newc k o x e).elim (h.newc k o x) .inr,fun k x e=>(h'.newm k x e).elim (h.newm k x) .inr,h'.below,h'.bw,h'.owns,h'.regs,h'.objs,h'.opts,t,fx,cx,
  ⟨σ0.keep _ _ _ _ _ dg.F hb fun k hk=>Inv.rndSame h.ok h' (ah k hk) (na k hk) (hX k hk),fun k j hk kO=>?_,fun k o x e hc=>lz k hc (.inl ⟨o,x,e⟩),fun k x e hc=>lz k hc (.inr ⟨x,e⟩),fun k e hB kO=>?_⟩,fun j hj=>⟨(ht j hj).1,by rw[(ht j hj).2,f1]⟩⟩
 ·rcases Inv.rndOwn h' hk (hX k kO) with⟨i,e⟩|e
  ·exact dg.own k i e kO
  ·have:=ah k kO;omega
 ·by_cases hd:σ.m k=some cZ
  ·exact dg.d k hd hB kO
  ·exact hf.d k e hB ((f2 k).2 ⟨ah k kO,na k kO,hd,hX k kO⟩)
theorem Inv.restore (h:Inv C S ρ σ own hv w0 σ0 A a w)(hn:∀t gs s,S.r t≠.opt gs s)(hd:kG σ w0.heap.size a'.defers)(hr:∀t,isNone (S.r t)=false→a'.tmps.getD t undef=a.tmps.getD t undef∧ρ'.r t=ρ.r t)(ho:∀j,oq (S.o j)=false→ρ'.o j=ρ.o j):
 Inv C S ρ' σ own hv w0 σ0 (fun _=>False) a' w:=by
 refine⟨hd,h.ok,h.le,h.old,h.newc,h.newm,h.below,h.bw,h.owns,fun t=>?_,fun j=>?_,fun t gs s e=>absurd e (hn t gs s),?_⟩
 ·cases hs:isNone (S.r t) with
  |true=>cases hc:S.r t<;>rw[hc] at hs<;>simp[isNone] at hs;trivial
  |false=>
   rw[(hr t hs).1,(hr t hs).2];exact aH.mono' (.refl σ) (.refl S hv) (hn t) (h.regs t)
 ·cases hs:oq (S.o j) with
  |true=>cases hc:S.o j<;>rw[hc] at hs<;>simp[oq] at hs;trivial
  |false=>exact(h.objs j).mono (.refl σ) (.refl S hv) rfl (ho j hs) (fun k hk=>⟨hk,rfl⟩)
 ·obtain⟨t,fx,cx,h1,h2⟩:=h.frame;exact⟨t,fx,cx,h1,fun j hj=>⟨(h2 j hj).1,by rw[ho j (by rw[hj];rfl)];exact(h2 j hj).2⟩⟩
theorem kG.mem {σ:Im}{B:Nat}:∀{ds:List Deferred} {d:Deferred},d∈ds→kG σ B ds→∃D,d={target:=.collected D,args:=#[]}∧σ.m D=some cZ
 |x::ds,d,hm,⟨⟨D,h1,h2,_⟩,h⟩=>by
  rcases cD.1 hm with e|e
  ·subst e;exact⟨D,h1,h2⟩
  ·exact kG.mem e h
def Im.mark (σ:Im)(D:Nat):Im:=⟨σ.c,fun k=>if k=D then some cZ else σ.m k⟩
theorem Wx (w:World)(o1 o2:Obj):Below w.heap.size w ((w.alloc o1).alloc o2):=(((Below.refl _ w).alloc (bk _) o1).alloc (by simp) o2)
theorem Inv.enter (h:Inv C S ρ σ own hv w0 σ0 A a w)(r:Loop):
 Inv C S ρ (σ.mark w.heap.size) own hv w0 σ0 A {a with defers:={target:=.collected w.heap.size,args:=#[]}::a.defers} ((w.alloc (.deferred (some []))).alloc (.loop r)):=by
 have hD:((w.alloc (.deferred (some []))).alloc (.loop r)).heap[w.heap.size]?=some (.deferred (some [])):=(Below.heap_alloc _ _ _ (by simp)).trans (World.alloc_heap_new w _);have hle:σ.le (σ.mark w.heap.size):=by
  refine⟨fun _ _ _ e=>e,fun k x e=>?_⟩;have:k≠w.heap.size:=by have:=h.ltm e;omega
  simp[Im.mark,this,e]
 have Du:∀k x,(σ.mark w.heap.size).m k=some x→σ.m k=some x∨(k=w.heap.size∧x=cZ):=by
  intro k x e;simp only[Im.mark] at e;split at e
  ·rename_i e2;cases e;exact .inr ⟨e2,rfl⟩
  ·exact .inl e
 have hb:=Wx w (.deferred (some [])) (.loop r);have aB:(σ.mark w.heap.size).ok ((w.alloc (.deferred (some []))).alloc (.loop r)):=by
  have h1:=h.ok.below hb;refine⟨h1.c,fun k x e=>?_⟩;rcases Du k x e with e|⟨rfl,rfl⟩
  ·exact h1.m k x e
  ·exact .inr ⟨rfl,hD⟩
 have hw:=h.world hle aB hb (fun _ _ _ e=>.inl e) (fun k x e=>(Du k x e).imp id fun e=>by omega);have nY:=hw.defers;refine⟨⟨⟨_,rfl,by simp[Im.mark],h.below.size,fun hm=>?_⟩,nY⟩,hw.ok,hw.le,hw.old,hw.newc,hw.newm,hw.below,hw.bw,hw.owns,hw.regs,hw.objs,hw.opts,hw.frame⟩;obtain⟨D,e1,e2⟩:=kG.mem hm h.defers;have:D=w.heap.size:=by cases e1;rfl
 subst this;have:=h.ltm e2;omega
end
end Cx
