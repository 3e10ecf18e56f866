/-
  Shared texts of this claim.
-/
import Derived.Test.YtipjidjopglknaaGreatDoorEAD
import Derived.Tactics
import Derived.RangeFuncIn
import Derived.OrdersIn
import Derived.RangeFuncRecord
set_option linter.unusedSimpArgs false
set_option linter.unusedVariables false
namespace Cx
open Go Go.RowKit
inductive Gh where
 |fz (j:Nat)|fbox (b:Nat)|rereg (t j:Nat)|recell (b i j:Nat)|home (b i j:Nat) (T:TypeId)
def Gh.run (C:Ctx)(S:St):Gh→Option (St×List PI)
 |.fz j=>some (S.fz j,[])
 |.fbox b=>BZ S b
 |.rereg t j=>wP S t j
 |.recell b i j=>Es S b i j
 |.home b i j T=>CE C S b i j T
def jq (C:Ctx):List Gh→St→Option (St×List PI)
 |[],S=>some (S,[])
 |g::gs,S=>(g.run C S).bind fun r=>(jq C gs r.1).map fun q=>(q.1,r.2++q.2)
theorem nE {Φ:aK}:∀{a b:List PI} {ρ:Env},PI.runs Φ (a++b) ρ=(PI.runs Φ a ρ).bind (PI.runs Φ b)
 |[],b,ρ=>by simp[PI.runs]
 |x::a,b,ρ=>by
  simp only[EU,PI.runs];cases x.run Φ ρ with
  |none=>rfl
  |some ρ1=>simp[nE (a:=a) (b:=b)]
def ot (S:St)(ops:Array Oper)(o:Oper):Option (List (Nat×Bool)):=
 match o.guard with
 |none=>some []
 |some (j,want)=>
  match(ops[j]?).bind (·.dst) with
  |some t=>
   match S.r t with
   |.dat .bool=>some [(t,want)]
   |.opt gs (.dat .bool)=>some ((t,want)::gs)
   |_=>none
  |none=>none
def rU (S:St)(gs:List (Nat×Bool)):Op→List Nat
 |.build _ ps=>bJ S gs (ps.toList.map (·.2))
 |.buildSlice _ _ ps=>bJ S gs (ps.toList.map (·.2))
 |.box _ x=>match eE S gs x with|.agg _=>[]|_=>bJ S gs [x]
 |.pick _ x y=>bJ S gs [x,y]
 |.slice _ x _ _ _=>bJ S gs [x]
 |.mapUpdate _ _ k v=>bJ S gs [k,v]
 |.insert _ _ k v=>bJ S gs [k,v]
 |.store _ x v=>match eE S gs x with|.eptr ..=>bJ S gs [v]|_=>[]
 |_=>[]
def Bb:List Sh→List Nat
 |[]=>[]
 |.obj j _::r=>j::Bb r
 |_::r=>Bb r
def Ff (S:St)(gs:List (Nat×Bool)):List Operand→List Nat
 |[]=>[]
 |x::xs=>
  match eE S gs x with
  |.ptr j ver off=>bif Nat.beq ver (S.ver j)&&(match S.o j with|.box ..=>true|_=>false) then j::Ff S gs xs else Ff S gs xs
  |_=>Ff S gs xs
def XA (C:Ctx):Fn→Bool
 |.func f=>(match C.sig f with|some s=>np s.mode|none=>false)
 |_=>false
theorem alf {α:Type}{b:Bool}{x:α}{l:List α}(h:x∈bif b then[] else l):x∈l:=by
 cases b with
 |true=>cases h
 |false=>exact h
def pre (C:Ctx)(S:St)(gs:List (Nat×Bool))(op:Op):List Gh:=
 match op with
 |.makeFunc fn _ caps=>
  bif XA C fn then[] else(Ff S gs caps.toList).flatMap fun b=>(match S.o b with|.box _ shs=>(Bb shs).map .fz|_=>[])++[.fbox b]
 |.load T x=>
  match eE S gs x,oK C.P T,C.P.info? T with
  |.ptr j _ off,some true,some inf=>bif J2 C j then[] else(match S.o j with|.box _ shs=>((Bb ((shs.drop off).take inf.size)).filter fun j=>ko (S.o j)).map .fz|_=>[])
  |_,_,_=>[]
 |.build T ps=>((rU S gs (.build T ps)).filter fun j=> !(C.fr.any (Nat.beq (3000000+j)))).map .fz
 |op=>(rU S gs op).map .fz
def oU (C:Ctx)(S:St)(gs:List (Nat×Bool))(o:Oper):List Gh:=
 match o.op,o.dst with
 |.assign x,some t=>bif C.fr.any (Nat.beq t) then(bJ S gs [x]).map .fz else[]
 |_,_=>[]
def KQ (P:Program):Nat→TypeId→List (Option TypeId)
 |0,_=>[]
 |n+1,t=>
  match P.underlying t with
  |some (.struct fs)=>fs.toList.flatMap fun f=>KQ P n f.type
  |some (.array len e)=>(List.replicate len (KQ P n e)).flatten
  |some (.slice e)=>[some e]
  |_=>[none]
def homes (P:Program)(b off:Nat)(T:TypeId):List Gh:=
 ((KQ P 12 T).zipIdx).filterMap fun x=>x.1.map fun e=>.home b (off+x.2) (gf b (off+x.2)) e
def Hx (nh:List Nat)(l:List Gh):List Gh:=l.filter fun g=>match g with|.home _ _ j _=> !(nh.any (Nat.beq j))|_=>true
def aan (b off n:Nat):List Gh:=(List.range n).map fun i=>.recell b (off+i) (gf b (off+i))
def post (C:Ctx)(S:St)(o:Oper):List Gh:=
 match o.op,o.dst with
 |.assign _,some t=>[.rereg t t]
 |.alloc T,some t=>Hx C.nh (homes C.P t 0 T)
 |.store T x _,_=>
  match eE S [] x with
  |.ptr j _ off=>Hx C.nh (homes C.P j off T)++aan j off (match C.P.info? T with|some i=>i.size|none=>0)
  |_=>[]
 |_,_=>[]
def ql:Sh→Bool
 |.opt ..=>false
 |_=>true
def sU (C:Ctx)(S:St)(dst:Nat)(T:TypeId)(x:Operand):j7:=
 match x with
 |.const v=>(nJ C.P T).bind fun t=>(nK t).bind fun z=>bif jm t v then some (S.setR dst (.dat z.1),[.setR dst (.con z.2)]) else none
 |_=>none
def core (C:Ctx)(S:St)(gs:List (Nat×Bool))(o:Oper):Option (St×List PI):=
 match o.dst with
 |some dst=>
  match nv C S gs dst o.op with
  |some r=>bif ql r.1 then some (S.setR dst (iX gs r.1),r.2) else none
  |none=>
   match o.op,gs with
   |.assign x,[]=>
    bif C.fr.any (Nat.beq dst) then
          match oR C S [] dst x with
          |some r=>some (S.setR dst r.1,r.2)
          |none=>sU C S dst o.type x
    else
    match BI C S dst o.type x with
    |some r=>some r
    |none=>
     match oR C S [] dst x with
     |some r=>some (S.setR dst r.1,r.2)
     |none=>sU C S dst o.type x
   |.alloc T,[]=>By C S dst T
   |.box T x,[]=>BA C S dst T x
   |.buildSlice T n ps,gs=>
    match gs with
    |[]=>u7 C S [] dst T n ps.toList
    |_=>yu C S gs dst T n ps.toList
   |.makeSlice T l c,[]=>BG C S dst T l c
   |.makeMap T r,[]=>BF C S dst T r
   |.range T x,[]=>BJ C S dst T x
   |.convert T U x,[]=>BB C S dst T U x
   |.call c,gs=>
    match c.callee,gs with
    |.builtin .append,[]=>
     match c.args.toList,c.argTypes.toList with
     |[s,x],[T,T']=>bif Nat.beq T T' then Bz C S dst T s x else none
     |_,_=>none
    |.value (.func f),gs=>
     match oe C S gs dst f c.args.toList with
     |some r=>some (r.1.setR dst (iX gs r.2.1),r.2.2)
     |none=>
      match gs with
      |[]=>
       match BD C S dst f c.args.toList with
       |some r=>some r
       |none=>
        match BE C S dst f c.args.toList with
        |some r=>some r
        |none=>
        match BC C S dst f c.args.toList with
        |some r=>some r
        |none=>(pP C S f c.args.toList []).map (oQ S (some dst))
      |_=>none
    |.value x,gs=>
     match mW C S gs dst x c.args.toList with
     |some r=>some (r.1.setR dst (iX gs r.2.1),r.2.2)
     |none=>
      match x,gs with
      |.tmp t,[]=>(yt C S t c.args.toList).map (oQ S (some dst))
      |_,_=>none
    |_,_=>none
   |.makeFunc fn first caps,[]=>BH C S dst fn first caps
   |_,_=>none
 |none=>
  match o.op,gs with
  |.store T x v,[]=>sT C S T x v
  |.mapUpdate T m k v,[]=>q9 C S T m k v
  |.insert T m k v,[]=>q9 C S T m k v
  |.panic _,[]=>some (S,[.chk (.nt (.con (.bool true)))])
  |.call c,[]=>
   match c.callee with
   |.value (.func f)=>(pP C S f c.args.toList []).map (oQ S none)
   |.value (.tmp t)=>(yt C S t c.args.toList).map (oQ S none)
   |_=>none
  |_,_=>none
def YO (dst:Nat)(l:List PI):Bool:=l.all fun p=>p.modR.all (Nat.beq dst)&&p.modO.isEmpty
def iY (gs:List (Nat×Bool))(dst:Option Nat)(l:List PI):Bool:=
 match gs,dst with
 |[],_=>true
 |_,some d=>YO d l
 |_,none=>false
def Bt (C:Ctx)(S:St)(ops:Array Oper)(o:Oper):Option (St×List PI):=
 (ot S ops o).bind fun gs=>
 (jq C (pre C S gs o.op++oU C S gs o) S).bind fun r1=>
 (core C r1.1 gs o).bind fun r2=>
 (jq C (post C r2.1 o) r2.1).bind fun r3=>
 bif iY gs o.dst r2.2 then some (r3.1,r1.2++r2.2++r3.2) else none
def EG:PI:=.chk (.con (.v (.bool false)))
def yp (C:Ctx)(S:St)(ops:Array Oper)(o:Oper):Option (St×List PI):=
 match Bt C S ops o with
 |some r=>some r
 |none=>some (match o.dst with|some d=>S.setR d .none|none=>S,[EG])
section
variable {C:Ctx} {S:St} {ρ:Env} {σ:Im} {own:Nat→Option Nat} {hv:Nat→Value} {w0:World} {σ0:Base} {A:Nat→Prop} {a:Act} {w:World} {gs:List (Nat×Bool)} {Φ:aK} {dst:Nat}
theorem Gh.sound {g:Gh}{r:St×List PI}(h:Good C w0 σ0 S ρ A a w)(hr:g.run C S=some r):AI C w0 σ0 Φ S ρ A a w r:=by
 obtain⟨σ,own,hv,h⟩:=h;cases g with
 |fz j=>
  simp only[Gh.run,aQ] at hr;subst hr;intro ρ' ah;rw[mI ah];obtain⟨σ',own',_,h'⟩:=h.fz j;exact⟨σ',own',hv,h'⟩
 |fbox b=>exact ags h hr
 |rereg t j=>exact anu h hr
 |recell b i j=>exact ant h hr
 |home b i j T=>exact aiD h hr
theorem Lp:∀(l:List Gh) {S:St} {ρ ρ':Env} {r:St×List PI},Good C w0 σ0 S ρ A a w→jq C l S=some r→PI.runs Φ r.2 ρ=some ρ'→Good C w0 σ0 r.1 ρ' A a w
 |[],S,ρ,ρ',r,h,hr,ah=>by
  simp only[jq,aQ] at hr;subst hr;rw[mI ah];exact h
 |g::l,S,ρ,ρ',r,h,hr,ah=>by
  simp only[jq,aq,ax] at hr;obtain⟨q,hq,q2,jc,rfl⟩:=hr;simp only[nE,aq] at ah;obtain⟨ρ1,h1,h2⟩:=ah;exact Lp (r:=q2) l (Gh.sound (Φ:=Φ) h hq ρ1 h1) jc h2
theorem UM (h:Good C w0 σ0 S ρ A a w){ops:Array Oper}{o:Oper}(hg:ot S ops o=some gs):Region.wanted o (yielded ops a.tmps)=holds gs ρ:=by
 obtain⟨σ,own,hv,h⟩:=h;unfold ot at hg;unfold Region.wanted;split at hg
 ·rename_i e;cases hg;simp[e,holds]
 ·rename_i j want e;simp only[e];split at hg
  case h_2=>cases hg
  rename_i t ht;have fO:=h.regs t;have hy:∀v,a.tmps.getD t undef=v→(∀b,v=.bool b→yielded ops a.tmps j=some b)∧(v=undef→yielded ops a.tmps j=none):=by
   intro v hv';unfold yielded;rw[ht];simp only[jG];rw[dH] at hv';cases oB:a.tmps[t]? with
   |none=>rw[oB] at hv';simp at hv';subst hv';exact⟨fun b e=>absurd e (by simp[undef]),fun _=>rfl⟩
   |some u=>rw[oB] at hv';simp at hv';subst hv';exact⟨fun b e=>by subst e;rfl,fun e=>by subst e;rfl⟩
  split at hg
  ·rename_i es;cases hg;rw[es] at fO;obtain⟨b,dJ,bT⟩:=Rep.bool_inv fO;rw[(hy _ dJ).1 b rfl];simp[holds,bT,D.b_bool]
  ·rename_i bI es;cases hg;rw[es] at fO;simp only[holds,pB];cases hh:holds bI ρ with
   |true=>
    obtain⟨b,dJ,bT⟩:=Rep.bool_inv (fO.1 hh);rw[(hy _ dJ).1 b rfl];unfold holds at hh;rw[hh,bT];simp[D.b_bool]
   |false=>
    rw[(hy _ (fO.2 hh)).2 rfl];unfold holds at hh;rw[hh];simp
  ·cases hg
theorem UL (h:Good C w0 σ0 S ρ A a w){ops:Array Oper}{o:Oper}(hg:ot S ops o=some gs)(hj:∀j want t,o.guard=some (j,want)→(ops[j]?).bind (·.dst)=some t→A t):∀g,g∈gs→A g.1:=by
 obtain⟨σ,own,hv,h⟩:=h;unfold ot at hg;split at hg
 ·cases hg;simp
 ·rename_i j want e;split at hg
  case h_2=>cases hg
  rename_i t ht;have hA:=hj j want t e ht;split at hg
  ·cases hg;intro g hm;simp at hm;subst hm;exact hA
  ·rename_i bI es;cases hg;intro g hm;rcases cM.1 hm with e'|ei
   ·subst e';exact hA
   ·exact(h.opts t bI _ es).1 g ei
  ·cases hg
theorem al8 (h:Inv C S ρ σ own hv w0 σ0 A a w)(hC:CtxOK C σ0)(hg:holds gs ρ=true){o:Oper}{r:Sh×List PI}(hr:nv C S gs dst o.op=some r):dW C S ρ σ hv Φ dst a w o r:=by
 unfold nv at hr;split at hr
 ·rename_i x e;exact YS h hC hg hr (.inl e)
 ·rename_i c x y e;exact al7 h hC hg hr e
 ·rename_i op T x y T' e;exact alG h hC hg hr e
 ·rename_i op T x e;exact amc h hC hg hr e
 ·rename_i s d x e;exact alK h hC hg hr e
 ·rename_i T x e;exact Di h hC hg hr e
 ·rename_i T x i e;exact alO h hC hg hr e
 ·rename_i T x i e;exact alQ h hC hg hr e
 ·rename_i T x i e;exact alT h hC hg hr e
 ·rename_i T x i e;exact alV h hC hg hr e
 ·rename_i x i e;exact alM h hC hg hr e
 ·rename_i T m k ok e;exact al3 h hC hg hr e
 ·rename_i T x lo hi mx e;exact ama h hC hg hr e
 ·rename_i f a b e;exact alR h hC hg hr e
 ·rename_i T ps e;exact alI h hC hg hr e
 ·rename_i x e;exact al5 h hC hg hr e
 ·cases hr;intro ρ' ah;have:=(P0 hg ah).1;cases this
 ·rename_i c e;split at hr
  ·rename_i x T hc ha ht;refine alX h hC hg hr ?_;rw[e];cases c with|mk callee args argTypes=>
   simp only at hc ha ht;have h1:args=#[x]:=by rw[←sB];exact ha
   have h2:argTypes=#[T]:=by rw[←sB];exact ht
   rw[hc,h1,h2]
  ·rename_i x y hc ha;refine YQ (ts:=c.argTypes) h hC hg hr ?_;rw[e];cases c with|mk callee args argTypes=>
   simp only at hc ha;have h1:args=#[x,y]:=by rw[←sB];exact ha
   rw[hc,h1];rfl
  ·rename_i x y hc ha;refine YQ (ts:=c.argTypes) h hC hg hr ?_;rw[e];cases c with|mk callee args argTypes=>
   simp only at hc ha;have h1:args=#[x,y]:=by rw[←sB];exact ha
   rw[hc,h1];rfl
  ·cases hr
 ·cases hr
theorem aeZ (h:Inv C S ρ σ own hv w0 σ0 A a w)(ht:¬A dst)(af:dst<a.tmps.size){T:TypeId}{x:Operand}{r:St×List PI}(hr:sU C S dst T x=some r){o:Oper}(hd:o.dst=some dst)(ho:o.op=.assign x):bO C w0 σ0 Φ S ρ A a w o r:=by
 unfold sU at hr;split at hr
 case h_2=>cases hr
 rename_i v;simp only[aq] at hr;obtain⟨t,_,z,hz,hr⟩:=hr;cases hc:jm t v<;>simp only[hc,cond_true,cond_false] at hr
 ·cases hr
 cases hr;have bH:=(w8 (cap:=C.cap) (σ:=σ) hz hc).1;refine bO.value hd fun ρ' ah=>⟨v,w,by simp[execOp,ho,Act.eval],?_⟩
 have hρ:ρ'=ρ.setR dst z.2:=by simp[PI.runs,PI.run,PE.ev] at ah;exact ah.symm
 subst hρ;exact⟨_,_,_,h.setReg ht (s:=.dat z.1) bH af (fun _ _ e=>by cases e)⟩
theorem aea (h:Inv C S ρ σ own hv w0 σ0 A a w)(hC:CtxOK C σ0)(aV:de C)(hΦ:cL C Φ){o:Oper}(ht:∀d,o.dst=some d→¬A d∧d<a.tmps.size)(dC:∀g,g∈gs→A g.1)(hg:holds gs ρ=true){r:St×List PI}
 (hr:core C S gs o=some r):bO C w0 σ0 Φ S ρ A a w o r:=by
 unfold core at hr;split at hr
 ·rename_i dst hd;obtain⟨fP,fQ⟩:=ht dst hd;split at hr
  ·rename_i q hq;cases eZ:ql q.1<;>simp only[eZ,cond_true,cond_false] at hr
   ·cases hr
   cases hr;have VZ:=al8 (Φ:=Φ) h hC hg hq;cases gs with
   |nil=>exact VZ.eff h fP fQ hd
   |cons g bI=>exact VZ.effG h fP fQ dC hg hd
  ·rename_i Mh;clear Mh;split at hr
   ·rename_i x e
    have mv:∀r,(match oR C S [] dst x with|some r=>some (S.setR dst r.1,r.2)|none=>sU C S dst o.type x)=some r→bO C w0 σ0 Φ S ρ A a w o r:=by
     intro r hr;split at hr
     ·rename_i q hq;cases hr;exact(YS (Φ:=Φ) h hC hg hq (.inr e)).eff h fP fQ hd
     ·exact aeZ h fP fQ hr hd e
    cases cQ:C.fr.any (Nat.beq dst)<;>simp only[cQ,cond_true,cond_false] at hr
    ·split at hr
     ·rename_i q hq;cases hr;exact aeT h hC fP fQ hq hd e
     ·exact mv r hr
    ·exact mv r hr
   ·rename_i T e;exact aep h fP fQ hr hd e
   ·rename_i T x e;exact aet h hC fP fQ hr hd e
   ·rename_i T n ps e;split at hr
    ·exact aev h hC fP fQ hr hd e
    ·exact aeL h hC fP fQ dC hg hr hd e
   ·rename_i T l c e;exact aeP h hC fP fQ hr hd e
   ·rename_i T m e;exact aeN h fP fQ hr hd e
   ·rename_i T x e;exact aeV h fP fQ hr hd e
   ·rename_i T U x e;exact aex h hC fP fQ hr hd e
   ·rename_i c e;cases c with|mk callee args argTypes=>
    split at hr
    ·rename_i hc;simp only at hc;split at hr
     ·rename_i s x T T' ha MS;simp only at ha MS;cases hT:Nat.beq T T'<;>simp only[hT,cond_true,cond_false] at hr
      ·cases hr
      have yK:=av hT;subst yK;refine aer h hC fP fQ hr hd ?_;have h1:args=#[s,x]:=by rw[←sB];exact ha
      have h2:argTypes=#[T,T]:=by rw[←sB];exact MS
      rw[e,hc,h1,h2]
     ·cases hr
    ·rename_i f hc;simp only at hc;split at hr
     ·rename_i q hq;cases hr;exact aeJ h hC aV hΦ fP fQ dC hg hq hd (by rw[e,hc])
     ·split at hr
      ·split at hr
       ·rename_i q hq;cases hr;exact aeE h hC aV hΦ fP fQ hq hd (by rw[e,hc])
       ·split at hr
        ·rename_i q hq;cases hr;exact aeG h hC aV hΦ fP fQ hq hd (by rw[e,hc])
        split at hr
        ·rename_i q hq;cases hr;exact aeC h hC aV hΦ fP fQ hq hd (by rw[e,hc])
        ·simp only[ax] at hr;obtain⟨q,hq,rfl⟩:=hr;rw[←hd];exact T7 h hC aV hΦ ht hq (by rw[e,hc])
      ·cases hr
    ·rename_i x Hh hc;simp only at hc;split at hr
     ·rename_i q hq;cases hr;exact aeA h hC aV hΦ fP fQ dC hg hq hd (by rw[e,hc])
     ·split at hr
      ·simp only[ax] at hr;obtain⟨q,hq,rfl⟩:=hr;rw[←hd];exact T5 h hC aV hΦ ht hq (by rw[e,hc])
      ·cases hr
    ·cases hr
   ·rename_i fn first caps e;exact aeR h fP fQ hr hd e
   ·cases hr
 ·rename_i hd;split at hr
  ·rename_i T x v e;exact aeX h hC hr hd e
  ·rename_i T m k v e;exact T9 h hC hr hd (.inl e)
  ·rename_i T m k v e;exact T9 h hC hr hd (.inr e)
  ·cases hr;intro ρ' ah;simp[PI.runs,PI.run,PE.ev,D.bool,D.b] at ah
  ·rename_i c e;cases c with|mk callee args argTypes=>
   split at hr
   ·rename_i f hc;simp only at hc;simp only[ax] at hr;obtain⟨q,hq,rfl⟩:=hr;rw[←hd];exact T7 h hC aV hΦ ht hq (by rw[e,hc])
   ·rename_i t hc;simp only at hc;simp only[ax] at hr;obtain⟨q,hq,rfl⟩:=hr;rw[←hd];exact T5 h hC aV hΦ ht hq (by rw[e,hc])
   ·cases hr
  ·cases hr
theorem ad8 {g:Nat×Bool}{bI:List (Nat×Bool)}{o:Oper}{r:St×List PI}(hr:core C S (g::bI) o=some r):
 ∃dst S2 s,o.dst=some dst∧r.1=S2.setR dst (.opt (g::bI) s)∧((∃js,S2=S.fzs js)∨∃j,S2=S.newO j .dead)∧(∀gs s',s≠.opt gs s')∧(∀x,o.op≠.assign x)∧(∀T,o.op≠.alloc T)∧∀T x v,o.op≠.store T x v:=by
 unfold core at hr;split at hr
 ·rename_i dst hd;split at hr
  ·rename_i q hq;cases eZ:ql q.1<;>simp only[eZ,cond_true,cond_false] at hr
   ·cases hr
   cases hr;refine⟨dst,S,q.1,hd,rfl,.inl ⟨[],rfl⟩,(fun gs s' e=>by rw[e] at eZ;cases eZ),fun x e=>?_,fun T e=>?_,fun T x v e=>?_⟩<;>(rw[e] at hq;simp[nv] at hq)
  ·rename_i Mh;clear Mh;split at hr
   case h_4=>
        rename_i T n ps e;split at hr
        ·rename_i hx;cases hx
        ·unfold yu at hr;split at hr
         case h_2=>cases hr
         simp only[aq] at hr;obtain⟨e0,he0,hr⟩:=hr;split at hr
         ·cases hr;exact⟨dst,_,.dat (.slice e0.rol),hd,rfl,.inr ⟨dst,rfl⟩,(fun _ _ e=>by cases e),(fun x e'=>by rw[e] at e';cases e'),(fun x e'=>by rw[e] at e';cases e'),(fun _ _ _ e'=>by rw[e] at e';cases e')⟩
         ·cases hr
   case h_9=>
        rename_i c e;split at hr
        ·rename_i hx;cases hx
        ·rename_i f hc;split at hr
         ·rename_i q hq;cases hr;simp only[oe,aq] at hq;obtain⟨s,hs,hq⟩:=hq;split at hq
          case h_2=>cases hq
          simp only[aq] at hq;obtain⟨u,hu,hq⟩:=hq;cases bM:Ty.subs u.1 s.args<;>simp only[bM,cond_true,cond_false] at hq
          ·cases hq
          cases hq;refine⟨dst,_,.dat s.res,hd,rfl,?_,(fun _ _ e=>by cases e),(fun x e'=>by rw[e] at e';cases e'),(fun x e'=>by rw[e] at e';cases e'),(fun _ _ _ e'=>by rw[e] at e';cases e')⟩;left;cases s.res.pure
          ·exact⟨_,rfl⟩
          ·exact⟨[],rfl⟩
         ·cases hr
        ·rename_i x Hh hc;have hr:∃q,mW C S (g::bI) dst x c.args.toList=some q∧(q.1.setR dst (iX (g::bI) q.2.1),q.2.2)=r:=by
          split at hr
          ·rename_i q hq;cases hr;exact⟨q,hq,rfl⟩
          ·split at hr
           all_goals (first|(cases hr;done)|(rename_i hx;cases hx;done)|(rename_i hx _;cases hx;done)|(rename_i hx _ _;cases hx;done)|(rename_i hx;exact absurd hx (by simp)))
         obtain⟨q,hq,rfl⟩:=hr;unfold mW at hq;split at hq
         case h_2=>cases hq
         rename_i aa r0 ee MT;split at hq
         case h_1=>cases hq
         simp only[aq] at hq;obtain⟨u,hu,hq⟩:=hq;cases bM:Ty.subs u.1 aa<;>simp only[bM,cond_true,cond_false] at hq
         ·cases hq
         cases hq;refine⟨dst,_,.dat r0,hd,rfl,?_,(fun _ _ e=>by cases e),(fun x e'=>by rw[e] at e';cases e'),(fun x e'=>by rw[e] at e';cases e'),(fun _ _ _ e'=>by rw[e] at e';cases e')⟩;left;cases r0.pure
         ·exact⟨_,rfl⟩
         ·exact⟨[],rfl⟩
        ·cases hr
   all_goals (first|(cases hr;done)|(rename_i hx;cases hx;done)|(rename_i hx _;cases hx;done))
 ·split at hr
  all_goals (first|(cases hr;done)|(rename_i hx;cases hx;done)|(rename_i hx _;cases hx;done))
theorem VS {ρ ρ1:Env}:∀{l:List (Nat×Bool)},(∀g,g∈l→ρ1.r g.1=ρ.r g.1)→holds l ρ1=holds l ρ
 |[],_=>rfl
 |x::l,h=>by
  have ih:=VS (l:=l) fun y hy=>h y (dk _ hy);unfold holds at ih ⊢;simp only[pB];rw[ih,h x (dp ..)]
theorem UH:∀(l:List Gh) {S:St} {r:St×List PI},jq C l S=some r→∀t,t∉r.2.flatMap PI.modR
 |[],S,r,hr=>by simp only[jq,aQ] at hr;subst hr;simp
 |g::l,S,r,hr=>by
  simp only[jq,aq,ax] at hr;obtain⟨q,hq,q2,jc,rfl⟩:=hr;have ih:=UH l jc;have hg:∀t,t∉q.2.flatMap PI.modR:=by
   cases g with
   |fz j=>simp only[Gh.run,aQ] at hq;subst hq;simp
   |fbox b=>
    simp only[Gh.run,BZ] at hq;split at hq
    case h_2=>cases hq
    simp only[aq] at hq;obtain⟨x,hx,hq⟩:=hq;rename_i ag shs eo;cases ag<;>simp only[cond_true,cond_false] at hq
    ·split at hq
     ·cases hq;simp[PI.modR]
     ·cases hq
    ·cases hq;simp[PI.modR]
   |rereg t j=>
    simp only[Gh.run,wP] at hq;split at hq
    ·rename_i j' ver es;cases hb:(Nat.beq ver (S.ver j')&&ko (S.o j')&& !Nat.beq j' j)<;>simp only[hb,cond_true,cond_false] at hq<;>cases hq<;>simp[PI.modR]
    ·cases hq;simp
   |recell b i j=>
    simp only[Gh.run,Es] at hq;split at hq
    ·split at hq
     ·rename_i ag shs eo j' ver es;cases hb:(Nat.beq ver (S.ver j')&&ko (S.o j')&& !Nat.beq j' j&& !Nat.beq b j&& !Nat.beq b j')<;>simp only[hb,cond_true,cond_false] at hq<;>cases hq<;>simp[PI.modR]
     ·cases hq;simp
    ·cases hq;simp
   |home b i j T=>
    simp only[Gh.run,CE] at hq;split at hq
    ·split at hq
     ·cases hb:(!Nat.beq b j)<;>simp only[hb,cond_true,cond_false] at hq<;>cases hq<;>simp[PI.modR]
     ·cases hq;simp
    ·cases hq;simp
  intro t hm;rw[List.flatMap_append,dy] at hm;exact hm.elim (hg t) (ih t)
theorem adZ (h:Good C w0 σ0 S ρ A a w)(hC:CtxOK C σ0)(aV:de C)(hΦ:cL C Φ){ops:Array Oper}{o:Oper}(ht:∀d,o.dst=some d→¬A d∧d<a.tmps.size)
 (hj:∀j want t,o.guard=some (j,want)→(ops[j]?).bind (·.dst)=some t→A t) {r:St×List PI} (hr:Bt C S ops o=some r) {ρ':Env} (ah:PI.runs Φ r.2 ρ=some ρ')
 {K:Act→World→Prop} {Q:Exit→Act→World→Prop} (hK:∀a' w',Good C w0 σ0 r.1 ρ' (fun u=>A u∨o.dst=some u) a' w'→a'.tmps.size=a.tmps.size→K a' w'):
 if Region.wanted o (yielded ops a.tmps) then o.wp C.P a w K Q else K (a.put o.dst undef) w:=by
 simp only[Bt,aq] at hr;obtain⟨gs,dC,r1,iJ,r2,lz,r3,vF,hr⟩:=hr;have yY:=UL h dC hj;rw[UM h dC];cases hc:iY gs o.dst r2.2<;>simp only[hc,cond_true,cond_false] at hr
 ·cases hr
 cases hr;simp only[nE,aq] at ah;obtain⟨ρ2,⟨ρ1,hρ1,hρ2⟩,hρ3⟩:=ah;have h1:=Lp _ h iJ hρ1;have cB:=h1;obtain⟨σ1,dc,aO,i1⟩:=cB;have G2:holds gs ρ1=holds gs ρ:=by
  cases gs with
  |nil=>rfl
  |cons g bI=>
   have hb:=(PI.runs_but hρ1).r
   have:∀x,x∈(g::bI)→ρ1.r x.1=ρ.r x.1:=fun x hm=>hb x.1 (by
        intro cV;exact UH _ iJ x.1 cV)
   exact VS this
 cases hh:holds gs ρ with
 |true=>
  simp only[if_true];rw[hh] at G2;refine aea i1 hC aV hΦ ht yY G2 lz ρ2 hρ2 K Q (fun a' w' fq aC=>?_);exact hK a' w' (Lp (r:=r3) _ fq vF hρ3) aC
 |false=>
  simp only[uB,if_false];rw[hh] at G2;cases gs with
  |nil=>simp[holds] at hh
  |cons g bI=>
   obtain⟨dst,S2,s,hd,hS,yJ,hns,n1,n2,n3⟩:=ad8 lz;obtain⟨t1,t2⟩:=ht dst hd;have jQ:post C r2.1 o=[]:=by
        unfold post;split
        ·rename_i x t e _;exact absurd e (n1 x)
        ·rename_i T t e _;exact absurd e (n2 T)
        ·rename_i T x v e;exact absurd e (n3 T x v)
        ·rfl
   rw[jQ] at vF;simp only[jq,aQ] at vF;subst vF;have:=mI hρ3;subst this;obtain⟨σ2,iN,i2⟩:∃σ2 iN,Inv C S2 ρ1 σ2 iN aO w0 σ0 A a w:=by
        rcases yJ with⟨js,rfl⟩|⟨j,rfl⟩
        ·obtain⟨σ2,iN,_,i2⟩:=Inv.fzs js i1;exact⟨σ2,iN,i2⟩
        ·exact⟨σ1,dc,i1.kill j⟩
   have CH:=i2.passed t1 t2 yY G2 (s:=s) hns (ρ'.r dst);have hρe:ρ1.setR dst (ρ'.r dst)=ρ':=by
        have hb:=PI.runs_but hρ2;simp only[iY,hd] at hc;unfold YO at hc;rw[bz] at hc
        have e1:∀t,t≠dst→ρ'.r t=ρ1.r t:=fun t ay=>hb.r t (fun hm=>by
         obtain⟨p,hp,tw⟩:=j8.1 hm;have:=hc p hp;simp only[aj] at this;have:=bz.1 this.1 t tw;exact ay (av this).symm)
        have e2:∀t,ρ'.o t=ρ1.o t:=fun t=>hb.o t (fun hm=>by
         obtain⟨p,hp,tw⟩:=j8.1 hm;have:=hc p hp;simp only[aj] at this;have h9:=sG.1 this.2;rw[h9] at tw;cases tw)
        have r1:bN ρ1.r dst (ρ'.r dst)=ρ'.r:=by
         funext t;rw[eR];split
         ·rename_i e;subst e;rfl
         ·rename_i ay;exact(e1 t ay).symm
        have r2:ρ1.o=ρ'.o:=funext fun t=>(e2 t).symm;cases ρ' with|mk a b=>simp only[Env.setR] at r1 r2 ⊢;rw[r1,r2]
   rw[hρe] at CH;have gA:(fun u=>A u∨o.dst=some u)=(fun u=>A u∨u=dst):=by funext u;rw[hd];simp[eq_comm]
   rw[gA] at hK;rw[hd];refine hK _ _ ?_ (size_put _ _ _);simp only;rw[hS];exact⟨_,_,_,CH⟩
theorem ad1 (h:Good C w0 σ0 S ρ A a w)(hC:CtxOK C σ0)(aV:de C)(hΦ:cL C Φ){ops:Array Oper}{o:Oper}(ht:∀d,o.dst=some d→¬A d∧d<a.tmps.size)
 (hj:∀j want t,o.guard=some (j,want)→(ops[j]?).bind (·.dst)=some t→A t) {r:St×List PI} (hr:yp C S ops o=some r) {ρ':Env} (ah:PI.runs Φ r.2 ρ=some ρ')
 {K:Act→World→Prop} {Q:Exit→Act→World→Prop} (hK:∀a' w',Good C w0 σ0 r.1 ρ' (fun u=>A u∨o.dst=some u) a' w'→a'.tmps.size=a.tmps.size→K a' w'):
 if Region.wanted o (yielded ops a.tmps) then o.wp C.P a w K Q else K (a.put o.dst undef) w:=by
 unfold yp at hr;split at hr
 ·rename_i q hq;cases hr;exact adZ h hC aV hΦ ht hj hq ah hK
 ·cases hr;simp[PI.runs,PI.run,EG,PE.ev,D.b_bool] at ah
end
end Cx
namespace Cx
open Go Go.RowKit
def nu:Op→Bool
 |.defer _=>false
 |_=>true
def FR (rd:Option Nat):Fence:={Fence.wide with round:=rd}
theorem TF {rd:Option Nat}{n:Nat}{P:Program}{f:FuncId}{args:Array Value}{w:World}{R:Ending→World→Prop}(h:Calls P f args w R):CallsIn (FR rd) n P f args w R:=
 (callsIn_wide (n:=n)).2 h
theorem YU {rd:Option Nat}{n:Nat}{P:Program}{o:Oper}{a:Act}{w:World}{K:Act→World→Prop}{Q:Exit→Act→World→Prop}(ba:nu o.op=true)(h:o.wp P a w K Q):o.wpIn (FR rd) n P a w K Q:=by
 refine⟨fun _ _=>trivial,?_⟩;rw[Oper.semAt_eq _ _ _ (fun c e=>by rw[e] at ba;cases ba)];unfold Oper.wp at h;generalize (execOp a.eval o).run P w=x at h;have eZ:∀{p:Prop},((FR rd).depth.isSome=true→p):=fun e=>by cases e
 cases x with
 |ok v w'=>
  cases v with
  |value v=>exact h
  |skip=>exact h
  |defer d=>exact h
  |enter f args=>
   refine⟨eZ,(TF h).mono fun e j4 hh=>?_⟩;cases e<;>exact hh
  |row row args=>
   refine⟨eZ,fun c cs _=>?_⟩;obtain⟨v,w2,h1,h2⟩:=h c cs;exact⟨v,w2,h1,stepsIn_wide.2 h2⟩
  |_=>exact h.elim
 |halt v w'=>
  cases v with
  |panic v=>exact h
  |_=>exact h.elim
structure SameBut (D:Nat→Prop) (a a':Act):Prop where
 size:a'.tmps.size=a.tmps.size
 get:∀t,¬D t→a'.tmps.getD t undef=a.tmps.getD t undef
theorem SameBut.refl (D:Nat→Prop)(a:Act):SameBut D a a:=⟨rfl,fun _ _=>rfl⟩
theorem SameBut.trans {D:Nat→Prop}{a b c:Act}(h:SameBut D a b)(k:SameBut D b c):SameBut D a c:=⟨k.size.trans h.size,fun t ht=>(k.get t ht).trans (h.get t ht)⟩
theorem SameBut.mono {D D':Nat→Prop}{a b:Act}(h:SameBut D a b)(hd:∀t,D t→D' t):SameBut D' a b:=⟨h.size,fun t ht=>h.get t fun e=>ht (hd t e)⟩
theorem SameBut.put (a:Act)(d:Option Tmp)(v:Value)(ds:List Deferred):SameBut (fun t=>d=some t) a ({a with defers:=ds}.put d v):=by
 refine⟨size_put _ _ _,fun t ht=>?_⟩;cases d with
 |none=>rfl
 |some u=>
  have:t≠u:=fun e=>ht (by rw[e]);rw[wX];simp[this]
theorem Oper.wp_same {P:Program}{o:Oper}{a:Act}{w:World}{K:Act→World→Prop}{Q:Exit→Act→World→Prop}(h:o.wp P a w (fun a' w'=>SameBut (fun t=>o.dst=some t) a a'→K a' w') Q):o.wp P a w K Q:=by
 unfold Oper.wp at h ⊢;generalize (execOp a.eval o).run P w=x at h ⊢;cases x with
 |ok v w'=>
  cases v with
  |value v=>exact h (SameBut.put a _ _ a.defers)
  |skip=>exact h (SameBut.put a _ _ a.defers)
  |defer d=>exact h (SameBut.put a _ _ _)
  |enter f args=>
   refine Calls.mono h fun e j4 hh=>?_;cases e with
   |returned v=>exact hh (SameBut.put a _ _ a.defers)
   |panicked c=>exact hh
   |outgrown=>exact hh
  |row row args=>exact Rows.mono h fun v j4 hh=>hh (SameBut.put a _ _ a.defers)
  |_=>exact h
 |halt v w'=>
  cases v with
  |panic v=>exact h
  |_=>exact h
def S5 (P:Program)(v:Value)(args:List Value)(w:World)(R:Value→World→Prop):Prop:=
 ∀(rd:Option Nat) (o:Oper) (a:Act) (x:Operand) (aa:Array Operand) (ts:Array TypeId) (K:Act→World→Prop) (Q:Exit→Act→World→Prop),
  o.op=.call {callee:=.value x,args:=aa,argTypes:=ts}→a.eval x=v→aa.toList.map a.eval=args→(∀u w',R u w'→K (a.put o.dst u) w')→o.wpIn (FR rd) 0 P a w K Q
def lW:Nat:=1000000009
def nU (C:Ctx)(Φ:aK)(w0:World)(σ0:Base):Prop:=∀J ys,C.yl=some (J,ys)→σ0.B=0∧(∀t fx cx w,σ0.F t fx cx w→∃xs,t=.list xs)∧
 ∀(xs ds':List D) (d:D),Φ lW [.list (xs++[.tup ds'])]=some d→∀(fx cx:Nat→Prop) (w1:World) (σ1:Im) (args:List Value),σ0.F (.list xs) fx cx w1→σ1.ok w1→nL C σ1 ys args ds'→
  (∀k o x,σ1.c k o=some x→¬cx k)→(∀k x,σ1.m k=some x→¬cx k)→
  (∀k o x,σ1.c k o=some x→σ0.c k o=some x∨w0.heap.size≤k)→(∀k x,σ1.m k=some x→σ0.m k=some x∨w0.heap.size≤k)→
  S5 C.P C.yv args w1 fun u w2=>∃b,d=.v (.bool b)∧u=.bool b∧Below 0 w1 w2∧(∀k,k<w1.heap.size→¬cx k→w2.heap[k]?=w1.heap[k]?)∧
   ∃ma jL,σ0.F (.list (xs++[.tup ds'])) ma jL w2∧(∀k,ma k→k<w1.heap.size→fx k∨(∃o x,σ1.c k o=some x)∨(∃x,σ1.m k=some x∧x≠cr))∧(∀k,jL k→k<w1.heap.size→cx k)
def Jm (gs:List (Nat×Bool))(J:Nat)(x:PE):PE:=
 match gs with
 |[]=>.app (.o J) (.lst [x])
 |_=>.pick (.nt (.imp gs (.con (.v (.bool false))))) (.app (.o J) (.lst [x])) (.o J)
def yq (C:Ctx)(S:St)(ops:Array Oper)(o:Oper):Option (St×List PI):=
 match o.dst,o.op,C.yl with
 |some dst,.call {callee:=.value (.tmp t),args:=args,..},some (J,ys)=>
  (ot S ops o).bind fun gs=>
    match j1 S gs t with
    |.yv=>
     match(S.fzs (bJ S gs args.toList)).o J with
     |.tr=>
      (j2 C (S.fzs (bJ S gs args.toList)) gs args.toList).bind fun u=>
        bif Ty.subs u.1 ys then some ((S.fzs (bJ S gs args.toList)).setR dst (iX gs (.dat .bool)),[.setO J (Jm gs J (.tup u.2)),.call gs dst lW [.o J]]) else none
     |_=>none
    |_=>none
 |_,_,_=>none
def oc (C:Ctx)(S:St)(ops:Array Oper)(o:Oper):Option (St×List PI):=
 match yq C S ops o with
 |some r=>some r
 |none=>yp C S ops o
section
variable {C:Ctx} {S:St} {ρ:Env} {σ:Im} {own:Nat→Option Nat} {hv:Nat→Value} {w0:World} {σ0:Base} {A:Nat→Prop} {a:Act} {w:World} {gs:List (Nat×Bool)} {Φ:aK} {dst:Nat}
theorem aor (gs:List (Nat×Bool))(J:Nat)(x:PE)(ρ:Env):(Jm gs J x).ev ρ=if holds gs ρ=true then .list ((ρ.o J).l++[x.ev ρ]) else ρ.o J:=by
 cases gs with
 |nil=>simp[Jm,PE.ev,PE.evs,holds,D.l_list]
 |cons g gs=>
  simp only[Jm,PE.ev,PE.evs,D.b_bool,D.l_list,sD,Bool.not_not];cases holds (g::gs) ρ<;>rfl
theorem Inv.yielded (h:Inv C S ρ σ own hv w0 σ0 A a w)(hB:σ0.B=0){J:Nat}{ys:List Ty}(hJ:C.yl=some (J,ys))(GK:S.o J=.tr){w2:World}(hb:Below 0 w w2){t:D}{fx cx:Nat→Prop}(hf:FrOK σ own w0.heap.size σ0 w t fx cx)
 (hs:∀k,k<w.heap.size→¬cx k→w2.heap[k]?=w.heap[k]?) {t':D} {ma jL:Nat→Prop} (hF:σ0.F t' ma jL w2)
 (h1:∀k,ma k→k<w.heap.size→fx k∨(∃o x,σ.c k o=some x)∨(∃x,σ.m k=some x∧x≠cr)) (h2:∀k,jL k→k<w.heap.size→cx k):Inv C S (ρ.setO J t') σ own hv w0 σ0 A a w2:=by
 have bM:=σ0.sub _ _ _ _ hf.F;have dg:∀k o x,σ.c k o=some x→w2.heap[k]?=w.heap[k]?:=fun k o x e=>hs k (h.lt e) (hf.c k o x e);have y4:∀k x,σ.m k=some x→w2.heap[k]?=w.heap[k]?:=fun k x e=>hs k (h.ltm e) (hf.m k x e);have Mu:∀k j,own k=some j→w2.heap[k]?=w.heap[k]?:=fun k j e=>hs k (h.owns k j e).2.1 fun hc=>hf.own k j e (bM k hc)
 refine⟨h.defers,⟨fun k o v e=>by rw[World.cell?_of_block (dg k o v e)];exact h.ok.c k o v e,fun k x e=>(h.ok.m k x e).keep (y4 k x e),h.ok.fz dg⟩,h.le,h.old,h.newc,h.newm,h.below.trans (hb.mono (by omega)),h.bw,
  fun k j e=>let⟨g1,g2,g3⟩:=h.owns k j e;⟨g1,qO g2 hb.size,g3⟩,fun u=>aD.mono (S:=S) (ρ:=ρ) (ρ':=ρ.setO J t') (.refl σ) (.refl S hv) (d:=ρ.r u) (fun _ _ _=>rfl) (fun gs s e=>(h.opts u gs s e).2) (h.regs u),fun j=>?_,h.opts,
  t',ma,jL,⟨hF,fun k j e hk=>?_,fun k o x e hc=>hf.c k o x e (h2 k hc (h.lt e)),fun k x e hc=>hf.m k x e (h2 k hc (h.ltm e)),fun k e Ls hk=>?_⟩,fun j hj=>?_⟩
 ·by_cases y1:j=J
  ·subst y1;rw[GK];trivial
  ·exact(h.objs j).mono (.refl σ) (.refl S hv) rfl (by simp[Env.setO,bf _ _ y1]) (fun k e=>⟨e,Mu k j e⟩)
 ·obtain⟨_,g2,g3,g4⟩:=h.owns k j e;rcases h1 k hk g2 with e1|⟨o,x,e1⟩|⟨x,e1,_⟩
  ·exact hf.own k j e e1
  ·rw[g3 o] at e1;cases e1
  ·rw[g4] at e1;cases e1
 ·rcases h1 k hk (h.ltm e) with e1|⟨o,x,e1⟩|⟨x,e1,e2⟩
  ·exact hf.d k e Ls e1
  ·have c1:=h.ok.c k o x e1;rcases h.ok.m k _ e with⟨m1,_⟩|⟨_,m2⟩|⟨m3,_⟩
   ·exact m1 rfl
   ·simp[World.cell?,m2] at c1
   ·exact sn m3.symm
  ·rw[e] at e1;cases e1;exact e2 rfl
 ·obtain⟨_,_,_,_,ht⟩:=h.frame;obtain⟨⟨ys',e1⟩,_⟩:=ht j hj;rw[hJ] at e1;cases e1;exact⟨⟨_,hJ⟩,aJ _ _ _⟩
theorem ad2 {rd:Option Nat}(h:Good C w0 σ0 S ρ A a w)(hC:CtxOK C σ0)(hY:nU C Φ w0 σ0){ops:Array Oper}{o:Oper}(ht:∀d,o.dst=some d→¬A d∧d<a.tmps.size)
 (hj:∀j want t,o.guard=some (j,want)→(ops[j]?).bind (·.dst)=some t→A t) {r:St×List PI} (hr:yq C S ops o=some r) {ρ':Env} (ah:PI.runs Φ r.2 ρ=some ρ')
 {K:Act→World→Prop} {Q:Exit→Act→World→Prop} (hK:∀a' w',Good C w0 σ0 r.1 ρ' (fun u=>A u∨o.dst=some u) a' w'→SameBut (fun t=>o.dst=some t) a a'→K a' w'):
 if Region.wanted o (yielded ops a.tmps) then o.wpIn (FR rd) 0 C.P a w K Q else K (a.put o.dst undef) w:=by
 unfold yq at hr;split at hr
 case h_2=>cases hr
 rename_i _ _ dst t args ts J ys hd bK jT;simp only[aq] at hr;obtain⟨gs,dC,hr⟩:=hr;split at hr
 case h_2=>cases hr
 rename_i CV;split at hr
 case h_2=>cases hr
 rename_i GK;simp only[aq] at hr;obtain⟨u,hu,hr⟩:=hr;cases bM:Ty.subs u.1 ys<;>simp only[bM,cond_true,cond_false] at hr
 ·cases hr
 cases hr;have yY:=UL h dC hj;rw[UM h dC];obtain⟨σ,own,hv,i⟩:=h;obtain⟨σ1,dc,hle,i1⟩:=Inv.fzs (bJ S gs args.toList) i;obtain⟨t1,t2⟩:=ht dst hd;have gA:(fun u=>A u∨o.dst=some u)=(fun u=>A u∨u=dst):=by funext u;rw[hd];simp[eq_comm]
 rw[gA] at hK;simp only[PI.runs,PI.run,jG,aor,aq] at ah;cases hh:holds gs ρ with
 |false=>
  simp only[hh,uB,if_false] at ah ⊢;have e1:ρ.setO J (ρ.o J)=ρ:=by
   cases ρ with|mk r o=>simp only[Env.setO];congr 1;funext x;rw[eR];split<;>simp_all
  rw[e1,hh] at ah;obtain⟨ρ1,e2,e3⟩:=ah;cases e2;cases e3;cases gs with
  |nil=>simp[holds] at hh
  |cons g bI=>
   have CH:=i1.passed t1 t2 yY hh (s:=.dat .bool) (fun _ _ e=>by cases e) (ρ.r dst);have e4:ρ.setR dst (ρ.r dst)=ρ:=by
        cases ρ with|mk r o=>simp only[Env.setR];congr 1;funext x;rw[eR];split<;>simp_all
   rw[e4] at CH;rw[hd];exact hK _ _ ⟨_,_,_,CH⟩ (by rw[hd];exact SameBut.put a (some dst) undef a.defers)
 |true=>
  simp only[hh,if_true] at ah ⊢;have ix:=Ax i1 hC hh hu bM;obtain⟨tr,fx,cx,hf,rG⟩:=i1.frame;obtain⟨_,hρJ⟩:=rG J GK;obtain⟨hB,ah9,M6⟩:=hY J ys jT;obtain⟨xs,rfl⟩:=ah9 _ _ _ _ hf.F;rw[hρJ] at ah;simp only[D.l_list,PE.ev] at ah;obtain⟨ρ1,e2,e3⟩:=ah;cases e3;have Vu:holds gs (ρ.setO J (.list (xs++[.tup (PE.evs ρ u.2)])))=true:=hh;rw[Vu] at e2;simp only[cond_true,PE.evs,PE.ev,Env.setO,aJ,ax] at e2;obtain⟨d,e4,e5⟩:=e2;have hy:=M6 xs (PE.evs ρ u.2) d e4 fx cx w σ1 (args.toList.map a.eval) hf.F i1.ok ix hf.c hf.m i1.newc i1.newm;have bX:a.eval (.tmp t)=C.yv:=by
   have:=(lP i hh t).1;rw[CV] at this;have h9:a.tmps.getD t undef=C.yv:=this;simpa [Act.eval] using h9
  refine hy rd o a (.tmp t) args ts K Q bK bX rfl fun v w2 jQ=>?_;obtain⟨b,rfl,rfl,hb,hs,ma,jL,hF,h1,h2⟩:=jQ;have i2:=i1.yielded hB jT GK hb hf hs hF h1 h2;refine hK _ _ ?_ (SameBut.put a _ _ a.defers);rw[hd,←e5];change Good C w0 σ0 _ ((ρ.setO J (.list (xs++[.tup (PE.evs ρ u.2)]))).setR dst (.v (.bool b))) _ _ _;have hh3:holds gs ((ρ.setO J (.list (xs++[.tup (PE.evs ρ u.2)]))).setR dst (.v (.bool b)))=true:=by
   rw[CD (t:=dst) fun g hm e=>t1 (by rw[←e];exact yY g hm)];exact Vu
  cases gs with
  |nil=>exact⟨_,_,_,i2.setReg t1 (s:=.dat .bool) (.bool b) t2 (fun _ _ e=>by cases e)⟩
  |cons g bI=>
   refine⟨_,_,_,i2.setReg t1 (s:=.opt (g::bI) (.dat .bool)) ⟨fun _=>.bool b,fun e=>absurd (hh3.symm.trans e) (by decide)⟩ t2 (fun gs s e=>?_)⟩;cases e;exact⟨yY,fun _ _ e=>by cases e⟩
theorem Gj {rd:Option Nat}(h:Good C w0 σ0 S ρ A a w)(hC:CtxOK C σ0)(aV:de C)(hΦ:cL C Φ)(hY:nU C Φ w0 σ0){ops:Array Oper}{o:Oper}(ba:nu o.op=true)(ht:∀d,o.dst=some d→¬A d∧d<a.tmps.size)
 (hj:∀j want t,o.guard=some (j,want)→(ops[j]?).bind (·.dst)=some t→A t) {r:St×List PI} (hr:oc C S ops o=some r) {ρ':Env} (ah:PI.runs Φ r.2 ρ=some ρ')
 {K:Act→World→Prop} {Q:Exit→Act→World→Prop} (hK:∀a' w',Good C w0 σ0 r.1 ρ' (fun u=>A u∨o.dst=some u) a' w'→SameBut (fun t=>o.dst=some t) a a'→K a' w'):
 if Region.wanted o (yielded ops a.tmps) then o.wpIn (FR rd) 0 C.P a w K Q else K (a.put o.dst undef) w:=by
 unfold oc at hr;split at hr
 ·rename_i q hq;cases hr;exact ad2 h hC hY ht hj hq ah hK
 ·have:=ad1 (K:=fun a' w'=>SameBut (fun t=>o.dst=some t) a a'→K a' w') (Q:=Q) h hC aV hΦ ht hj hr ah (fun a' w' g _ hs=>hK a' w' g hs);split
  ·rename_i hw;rw[if_pos hw] at this;exact YU ba (Oper.wp_same this)
  ·rename_i hw;rw[if_neg hw] at this;exact this (SameBut.put a _ _ a.defers)
end
def mU (C:Ctx)(ops:Array Oper):List Nat→St→Option (St×List PI)
 |[],S=>some (S,[])
 |i::l,S=>
  match ops[i]? with
  |some o=>(oc C S ops o).bind fun r=>(mU C ops l r.1).map fun q=>(q.1,r.2++q.2)
  |none=>none
def qy (n:Nat)(ops:Array Oper):Bool:=
 gj (ops.toList.filterMap (·.dst))&&ops.toList.all fun o=>nu o.op&&match o.dst with|some d=>Nat.blt d n|none=>true
section
variable {C:Ctx} {S:St} {ρ:Env} {σ:Im} {own:Nat→Option Nat} {hv:Nat→Value} {w0:World} {σ0:Base} {A:Nat→Prop} {a:Act} {w:World} {gs:List (Nat×Bool)} {Φ:aK} {dst:Nat}
def la (ops:Array Oper)(done:List Nat):Nat→Prop:=fun t=>∃i o,i∈done∧ops[i]?=some o∧o.dst=some t
theorem uZ.dst_once {ops:Array Oper}(ba:(ops.toList.filterMap (·.dst)).Nodup){i j:Nat}{o o':Oper}{d:Nat}(hi:ops[i]?=some o)(hj:ops[j]?=some o')(hd:o.dst=some d)(fp:o'.dst=some d)(ay:i≠j):False:=by
 have key:∀(l:List Oper),(l.filterMap (·.dst)).Nodup→∀(i j:Nat) (o o':Oper),l[i]?=some o→l[j]?=some o'→o.dst=some d→o'.dst=some d→i=j:=by
  intro l
  induction l with
  |nil=>intro _ i j o o' hi;simp at hi
  |cons x l ih=>
   intro ba i j o o' hi hj hd fp;have cV:∀(k:Nat) (y:Oper),l[k]?=some y→y.dst=some d→d∈l.filterMap (·.dst):=fun k y hk hy=>sI.2 ⟨y,jn hk,hy⟩;cases hx:x.dst with
   |none=>
    rw[List.filterMap_cons_none hx] at ba;cases i with
    |zero=>simp at hi;subst hi;rw[hx] at hd;cases hd
    |succ i=>
     cases j with
     |zero=>simp at hj;subst hj;rw[hx] at fp;cases fp
     |succ j=>simp at hi hj;rw[ih ba i j o o' hi hj hd fp]
   |some y=>
    rw[List.filterMap_cons_some hx,l0] at ba;cases i with
    |zero=>
     simp at hi;subst hi;rw[hx] at hd;cases hd;cases j with
     |zero=>rfl
     |succ j=>simp at hj;exact absurd (cV j o' hj fp) ba.1
    |succ i=>
     cases j with
     |zero=>
      simp at hj;subst hj;rw[hx] at fp;cases fp;simp at hi;exact absurd (cV i o hi hd) ba.1
     |succ j=>simp at hi hj;rw[ih ba.2 i j o o' hi hj hd fp]
 exact ay (key ops.toList ba i j o o' (by simpa using hi) (by simpa using hj) hd fp)
def pO (ops:Array Oper):Nat→Prop:=fun t=>∃o,o∈ops.toList∧o.dst=some t
theorem uZ (hC:CtxOK C σ0)(aV:de C)(hΦ:cL C Φ)(hY:nU C Φ w0 σ0){ops:Array Oper}{n:Nat}(au:qy n ops=true){rd:Option Nat}{Q:Exit→Act→World→Prop}:
 ∀(l done:List Nat) {S:St} {ρ ρ':Env} {a:Act} {w:World} {r:St×List PI},(done++l).Nodup→(∀p i q o j want,l=p++i::q→ops[i]?=some o→o.guard=some (j,want)→j∈done++p)→
  a.tmps.size=n→Good C w0 σ0 S ρ (la ops done) a w→mU C ops l S=some r→PI.runs Φ r.2 ρ=some ρ'→
  (∀a' w',SameBut (pO ops) a a'→Good C w0 σ0 r.1 ρ' (la ops (done++l)) a' w'→Q .normal a' w')→wpOpsIn (FR rd) 0 C.P ops Q l a w:=by
 simp only[qy,aj] at au;have ba:=kQ au.1;intro l
 induction l with
 |nil=>
  intro done S ρ ρ' a w r _ _ aC h hr ah hQ;simp only[mU,aQ] at hr;subst hr;rw[mI ah] at hQ;simp only[wpOpsIn];exact hQ a w (.refl _ _) (by simpa using h)
 |cons i l ih=>
  intro done S ρ ρ' a w r LN jO aC h hr ah hQ;simp only[mU] at hr;split at hr
  case h_2=>cases hr
  rename_i o ho;simp only[aq,ax] at hr;obtain⟨r1,iJ,q,hq,rfl⟩:=hr;simp only[nE,aq] at ah;obtain⟨ρ1,hρ1,hρ2⟩:=ah;have p5:∀d,o.dst=some d→¬la ops done d∧d<a.tmps.size:=by
   intro d hd;refine⟨fun⟨i',o',cU,dQ,fp⟩=>?_,?_⟩
   ·
        have ay:i'≠i:=by
         intro e;subst e;rw[AL] at LN;exact LN.2.2 i' cU i' (dp ..) rfl
        exact uZ.dst_once ba dQ ho fp hd ay
   ·have:=bz.1 au.2 o (by
     have:=gI ho;simpa using this)
    simp only[hd,aj] at this;rw[aC];simpa [ic] using this.2
  have hj:∀j want t,o.guard=some (j,want)→(ops[j]?).bind (·.dst)=some t→la ops done t:=by
   intro j want t hg ht;have:=jO [] i l o j want rfl ho hg;simp only[lZ] at this;rw[aq] at ht;obtain⟨oj,h1,h2⟩:=ht;exact⟨j,oj,this,h1,h2⟩
  have jv:nu o.op=true:=by
   have:=bz.1 au.2 o (by simpa using gI ho);simp only[aj] at this;exact this.1
  have main:=Gj (rd:=rd) (K:=wpOpsIn (FR rd) 0 C.P ops Q l) (Q:=Q) h hC aV hΦ hY jv p5 hj iJ hρ1 (fun a' w' fq iK=>by
   have qf:=iK.size;refine ih (done++[i]) (by simpa using LN) (fun p i' q' o' j want e dQ ahM=>?_) (qf.trans aC) ?_ hq hρ2 (fun a2 w2 s2 g2=>hQ a2 w2 ((iK.mono fun t e=>⟨o,by simpa using gI ho,e⟩).trans s2) (by simpa using g2))
   ·have:=jO (i::p) i' q' o' j want (by rw[e];rfl) dQ ahM;simpa using this
   ·have:(fun u=>la ops done u∨o.dst=some u)=la ops (done++[i]):=by
     funext u;apply propext;constructor
     ·rintro(⟨i',o',h1,h2,h3⟩|h1)
      ·exact⟨i',o',by simp[h1],h2,h3⟩
      ·exact⟨i,o,by simp,ho,h1⟩
     ·rintro⟨i',o',h1,h2,h3⟩;rcases dy.1 h1 with h4|h4
      ·exact .inl ⟨i',o',h4,h2,h3⟩
      ·simp at h4;subst h4;rw[ho] at h2;cases h2;exact .inr h3
    rw[←this];exact fq)
  simp only[wpOpsIn,ho];split
  ·rename_i hw;rw[if_pos hw] at main;exact main
  ·rename_i hw;rw[if_neg hw] at main;exact⟨fun _ _=>trivial,main⟩
end
end Cx
namespace Cx
open Go Go.RowKit
def S7 (S:St):AgC→Bool
 |.dat _=>true
 |.obj j ver=>Nat.beq ver (S.ver j)
def AgC.zero:AgC→AgC
 |.dat t=>.dat t
 |.obj j _=>.obj j 0
def eM (S:St):Sh→Sh
 |.none=>.none
 |.dat t=>.dat t
 |.obj j ver=>bif Nat.beq ver (S.ver j) then .obj j 0 else .none
 |.ptr j ver off=>bif Nat.beq ver (S.ver j) then .ptr j 0 off else .none
 |.eptr j ver size off=>bif Nat.beq ver (S.ver j) then .eptr j 0 size off else .none
 |.opt _ _=>.none
 |.yv=>.yv
 |.fclo f caps=>bif caps.all (fun c=>Nat.beq c.2 (S.ver c.1)) then .fclo f (caps.map fun c=>(c.1,0)) else .none
 |.agg l=>bif l.all (S7 S) then .agg (l.map AgC.zero) else .none
def gX (S:St):Ob→Ob
 |.box ag shs=>.box ag (shs.map (eM S))
 |ob=>ob
def St.norm (S:St):St:=⟨fun t=>eM S (S.r t),fun j=>gX S (S.o j),fun _=>0⟩
def jf:Sh→Sh→Sh
 |.dat a,.dat b=>bif Ty.sub a b then .dat b else bif Ty.sub b a then .dat a else .none
 |.obj j v,.obj k u=>bif Nat.beq j k&&Nat.beq v u then .obj j v else .none
 |.ptr j v o,.ptr k u p=>bif Nat.beq j k&&Nat.beq v u&&Nat.beq o p then .ptr j v o else .none
 |.eptr j v s o,.eptr k u t p=>bif Nat.beq j k&&Nat.beq v u&&Nat.beq s t&&Nat.beq o p then .eptr j v s o else .none
 |.yv,.yv=>.yv
 |.fclo f a,.fclo g b=>bif Nat.beq f g&&uT a b then .fclo f a else .none
 |_,_=>.none
def wc:List Sh→List Sh→Option (List Sh)
 |[],[]=>some []
 |a::aa,b::bs=>(wc aa bs).map (jf a b::·)
 |_,_=>none
def mB:Ob→Ob→Ob
 |.fz a,.fz b=>bif Ty.beq a b then .fz a else .dead
 |.fbox a,.fbox b=>bif Ty.beq a b then .fbox a else .dead
 |.box ag aa,.box bg bs=>bif ag==bg then(match wc aa bs with|some cs=>.box ag cs|none=>.dead) else .dead
 |.row T e,.row U f=>bif Nat.beq T U&&Ty.beq e f then .row T e else .dead
 |.mp k e,.mp l f=>bif Ty.beq k l&&Ty.beq e f then .mp k e else .dead
 |.it k e,.it l f=>bif Ty.beq k l&&Ty.beq e f then .it k e else .dead
 |.tr,.tr=>.tr
 |_,_=>.dead
section
variable {C:Ctx} {S:St} {ρ:Env} {σ:Im} {own:Nat→Option Nat} {hv:Nat→Value} {w0:World} {σ0:Base} {A:Nat→Prop} {a:Act} {w:World} {gs:List (Nat×Bool)} {Φ:aK} {dst:Nat}
theorem HO {s:Sh}{v:Value}{d:D}(h:aD C S ρ σ hv s v d):aD C S.norm ρ σ hv (eM S s) v d∧∀gs s',eM S s≠.opt gs s':=by
 cases s with
 |none=>exact⟨trivial,fun _ _ e=>by cases e⟩
 |dat t=>exact⟨h,fun _ _ e=>by cases e⟩
 |obj j ver=>
  simp only[eM];cases hb:Nat.beq ver (S.ver j)
  ·exact⟨trivial,fun _ _ e=>by cases e⟩
  ·exact⟨⟨aW _,fun _=>h.2 (av hb)⟩,fun _ _ e=>by cases e⟩
 |ptr j ver off=>
  simp only[eM];cases hb:Nat.beq ver (S.ver j)
  ·exact⟨trivial,fun _ _ e=>by cases e⟩
  ·exact⟨⟨aW _,fun _=>h.2 (av hb)⟩,fun _ _ e=>by cases e⟩
 |eptr j ver size off=>
  simp only[eM];cases hb:Nat.beq ver (S.ver j)
  ·exact⟨trivial,fun _ _ e=>by cases e⟩
  ·exact⟨⟨aW _,fun _=>h.2 (av hb)⟩,fun _ _ e=>by cases e⟩
 |opt gs s=>exact⟨trivial,fun _ _ e=>by cases e⟩
 |yv=>exact⟨h,fun _ _ e=>by cases e⟩
 |agg l=>
  simp only[eM];cases hb:l.all (S7 S)
  ·exact⟨trivial,fun _ _ e=>by cases e⟩
  ·refine⟨?_,fun _ _ e=>by cases e⟩;obtain⟨vs,ds,h1,h2,h3,h4,h5⟩:=h;refine⟨vs,ds,h1,h2,by simpa using h3,by simpa using h4,fun i c hi=>?_⟩;simp only[cg,ax] at hi;obtain⟨c0,hc,rfl⟩:=hi;have:=bz.1 hb _ (jn hc);have h6:=h5 i c0 hc;cases c0 with
   |dat t=>exact h6
   |obj j ver=>exact⟨aW _,fun _=>h6.2 (av this)⟩
 |fclo f caps=>
  simp only[eM];cases hb:caps.all (fun c=>Nat.beq c.2 (S.ver c.1))
  ·exact⟨trivial,fun _ _ e=>by cases e⟩
  ·refine⟨?_,fun _ _ e=>by cases e⟩;obtain⟨vs,h1,h2,h3⟩:=h;refine⟨vs,h1,by simpa using h2,fun i j ver hi=>?_⟩;simp only[cg,ax] at hi;obtain⟨⟨j',v'⟩,hc,e⟩:=hi;cases e;have:=bz.1 hb _ (jn hc);exact⟨aW _,fun _=>(h3 i _ _ hc).2 (av this)⟩
theorem Inv.weaken (h:Inv C S ρ σ own hv w0 σ0 A a w){S':St}{ρ':Env}(hr:∀t,aD C S' ρ' σ hv (S'.r t) (a.tmps.getD t undef) (ρ'.r t))(ho:∀j,bS C S' ρ' σ own hv w w0.heap.size j (S'.o j))
 (hn:∀t gs s,S'.r t≠.opt gs s) (ht:∀j,S'.o j=.tr→S.o j=.tr∧ρ'.o j=ρ.o j):Inv C S' ρ' σ own hv w0 σ0 (fun _=>False) a w:=
 ⟨h.defers,h.ok,h.le,h.old,h.newc,h.newm,h.below,h.bw,h.owns,hr,ho,fun t gs s e=>absurd e (hn t gs s),by
   obtain⟨t,fx,cx,h1,h5⟩:=h.frame;exact⟨t,fx,cx,h1,fun j hj=>by rw[(ht j hj).2];exact h5 j (ht j hj).1⟩⟩
theorem Xw {ob:Ob}(h:gX S ob=.tr):ob=.tr:=by
 cases ob<;>simp only[gX] at h<;>first|rfl|cases h
theorem ald {x y:Ob}(h:mB x y=.tr):x=.tr∧y=.tr:=by
 cases x<;>cases y<;>simp only[mB] at h<;>first
  |exact⟨rfl,rfl⟩
  |(cases h;done)
  |skip
 ·rename_i a b;cases hb:Ty.beq a b<;>rw[hb] at h<;>cases h
 ·rename_i a b;cases hb:Ty.beq a b<;>rw[hb] at h<;>cases h
 ·rename_i ag aa bg bs;cases hb:ag==bg<;>rw[hb] at h
  ·cases h
  ·simp only[cond_true] at h;split at h<;>cases h
 ·rename_i T e U f;cases hb:(Nat.beq T U&&Ty.beq e f)<;>rw[hb] at h<;>cases h
 ·rename_i T e U f;cases hb:(Ty.beq T U&&Ty.beq e f)<;>rw[hb] at h<;>cases h
 ·rename_i T e U f;cases hb:(Ty.beq T U&&Ty.beq e f)<;>rw[hb] at h<;>cases h
theorem Inv.norm (h:Inv C S ρ σ own hv w0 σ0 A a w):Inv C S.norm ρ σ own hv w0 σ0 (fun _=>False) a w:=by
 refine h.weaken (fun t=>(HO (h.regs t)).1) (fun j=>?_) (fun t=>(HO (h.regs t)).2) (fun j hj=>⟨Xw hj,rfl⟩);have aU:=h.objs j;show bS C S.norm ρ σ own hv w w0.heap.size j (gX S (S.o j));cases cu:S.o j with
 |box ag shs=>
  rw[cu] at aU;obtain⟨k,cs,T,ds,h1,h2,h3,h4,h5,h6,h7⟩:=aU;refine⟨k,cs,T,ds,h1,h2,h3,by simpa using h4,h5,by simpa using h6,fun i s hi=>?_⟩;simp only[cg,ax] at hi;obtain⟨s0,MF,rfl⟩:=hi;have:=HO (h7 i s0 MF).2;exact⟨this.2,this.1⟩
 |_=>rw[cu] at aU;exact aU
theorem Fb {b:Bool}{s:Sh}{v:Value}{d:D}(hs:∀gs s',s≠.opt gs s')(h:b=true→aD C S ρ σ hv s v d):aD C S ρ σ hv (bif b then s else .none) v d∧∀gs s',(bif b then s else Sh.none)≠.opt gs s':=by
 cases b with
 |true=>exact⟨h rfl,hs⟩
 |false=>exact⟨trivial,fun _ _ e=>by cases e⟩
theorem Xo {s u:Sh}{v:Value}{d:D}(h:aD C S ρ σ hv s v d):aD C S ρ σ hv (jf s u) v d∧∀gs s',jf s u≠.opt gs s':=by
 cases s<;>cases u<;>simp only[jf]<;>first
  |exact⟨trivial,fun _ _ e=>by cases e⟩
  |exact Fb (fun _ _ e=>by cases e) (fun _=>h)
  |exact⟨h,fun _ _ e=>by cases e⟩
  |skip
 rename_i a b;cases h1:Ty.sub a b
 ·exact Fb (fun _ _ e=>by cases e) (fun _=>h)
 ·exact⟨Rep.sub h h1,fun _ _ e=>by cases e⟩
theorem Xp {s u:Sh}{v:Value}{d:D}(h:aD C S ρ σ hv u v d):aD C S ρ σ hv (jf s u) v d∧∀gs s',jf s u≠.opt gs s':=by
 cases s<;>cases u<;>simp only[jf]<;>first
  |exact⟨trivial,fun _ _ e=>by cases e⟩
  |exact⟨h,fun _ _ e=>by cases e⟩
  |skip
 ·rename_i a b;cases h1:Ty.sub a b
  ·exact Fb (fun _ _ e=>by cases e) (fun h2=>Rep.sub h h2)
  ·exact⟨h,fun _ _ e=>by cases e⟩
 all_goals
  refine Fb (fun _ _ e=>by cases e) (fun hb=>?_);simp only[aj] at hb
  first
   |(obtain⟨⟨⟨h1,h2⟩,h3⟩,h4⟩:=hb;rw[av h1,av h2,av h3,av h4];exact h)
   |(obtain⟨⟨h1,h2⟩,h3⟩:=hb;rw[av h1,av h2,av h3];exact h)
   |(obtain⟨h1,h2⟩:=hb;rw[av h1,av h2];exact h)
   |(obtain⟨h1,h2⟩:=hb;rw[av h1,KK _ _ h2];exact h)
theorem Ny:∀(aa bs cs:List Sh),wc aa bs=some cs→cs.length=aa.length∧cs.length=bs.length∧∀(i:Nat) (c:Sh),cs[i]?=some c→∃x y,aa[i]?=some x∧bs[i]?=some y∧c=jf x y
 |[],[],cs,h=>by simp[wc] at h;subst h;simp
 |[],b::bs,cs,h=>by simp[wc] at h
 |a::aa,[],cs,h=>by simp[wc] at h
 |a::aa,b::bs,cs,h=>by
  simp only[wc,ax] at h;obtain⟨ds,hd,rfl⟩:=h;obtain⟨h1,h2,h3⟩:=Ny aa bs ds hd;refine⟨by simp[h1],by simp[h2],fun i c hi=>?_⟩;cases i with
  |zero=>simp at hi;exact⟨a,b,rfl,rfl,hi.symm⟩
  |succ i=>simp at hi;simpa using h3 i c hi
theorem alb {j B:Nat}{x y:Ob}(h:bS C S ρ σ own hv w B j x):bS C S ρ σ own hv w B j (mB x y):=by
 cases x<;>cases y<;>simp only[mB]<;>first
  |trivial
  |(rename_i a b;cases Ty.beq a b;·trivial
    ·exact h)
  |skip
 ·rename_i ag aa bg bs;cases ag==bg
  ·trivial
  ·simp only[cond_true];split
   ·rename_i cs dg;obtain⟨l1,l2,oB⟩:=Ny aa bs cs dg;obtain⟨k,cells,T,ds,h1,h2,h3,h4,h5,h6,h7⟩:=h;refine⟨k,cells,T,ds,h1,h2,h3,by omega,h5,by omega,fun i s hi=>?_⟩;obtain⟨x,y,hx,hy,rfl⟩:=oB i s hi;have:=Xo (u:=y) (h7 i x hx).2;exact⟨this.2,this.1⟩
   ·trivial
 ·rename_i T e U f;cases Nat.beq T U&&Ty.beq e f
  ·trivial
  ·exact h
 ·rename_i T e U f;cases Ty.beq T U&&Ty.beq e f
  ·trivial
  ·exact h
 ·rename_i T e U f;cases Ty.beq T U&&Ty.beq e f
  ·trivial
  ·exact h
theorem alc {j B:Nat}{x y:Ob}(h:bS C S ρ σ own hv w B j y):bS C S ρ σ own hv w B j (mB x y):=by
 cases x<;>cases y<;>simp only[mB]<;>first
  |trivial
  |skip
 ·rename_i a b;cases hb:Ty.beq a b
  ·trivial
  ·rw[Ty.beq_eq _ _ hb];exact h
 ·rename_i a b;cases hb:Ty.beq a b
  ·trivial
  ·rw[Ty.beq_eq _ _ hb];exact h
 ·rename_i ag aa bg bs;cases ag==bg
  ·trivial
  ·simp only[cond_true];split
   ·rename_i cs dg;obtain⟨l1,l2,oB⟩:=Ny aa bs cs dg;obtain⟨k,cells,T,ds,h1,h2,h3,h4,h5,h6,h7⟩:=h;refine⟨k,cells,T,ds,h1,h2,h3,by omega,h5,by omega,fun i s hi=>?_⟩;obtain⟨x,y,hx,hy,rfl⟩:=oB i s hi;have:=Xp (s:=x) (h7 i y hy).2;exact⟨this.2,this.1⟩
   ·trivial
 ·rename_i T e U f;cases hb:(Nat.beq T U&&Ty.beq e f)
  ·trivial
  ·simp only[aj] at hb;rw[av hb.1,Ty.beq_eq _ _ hb.2];exact h
 ·rename_i T e U f;cases hb:(Ty.beq T U&&Ty.beq e f)
  ·trivial
  ·simp only[aj] at hb;rw[Ty.beq_eq _ _ hb.1,Ty.beq_eq _ _ hb.2];exact h
 ·rename_i T e U f;cases hb:(Ty.beq T U&&Ty.beq e f)
  ·trivial
  ·simp only[aj] at hb;rw[Ty.beq_eq _ _ hb.1,Ty.beq_eq _ _ hb.2];exact h
end
end Cx
namespace Cx
open Go Go.RowKit
section
variable {C:Ctx} {S T:St} {ρ ρ':Env} {σ:Im} {own:Nat→Option Nat} {hv:Nat→Value} {w0:World} {σ0:Base} {A:Nat→Prop} {a:Act} {w:World} {gs:List (Nat×Bool)} {Φ:aK} {dst:Nat}
theorem Inv.env (h:Inv C S ρ σ own hv w0 σ0 (fun _=>False) a w)(hn:∀t gs s,S.r t≠.opt gs s)(hr:∀t,isNone (S.r t)=false→ρ'.r t=ρ.r t)(ho:∀j,nm (S.o j)=false→ρ'.o j=ρ.o j):
 Inv C S ρ' σ own hv w0 σ0 (fun _=>False) a w:=by
 refine h.weaken (fun t=>?_) (fun j=>?_) hn (fun j hj=>⟨hj,ho j (by rw[hj];rfl)⟩)
 ·cases hs:isNone (S.r t) with
  |true=>cases hc:S.r t<;>rw[hc] at hs<;>simp[isNone] at hs;trivial
  |false=>
   rw[hr t hs];exact aD.mono' (.refl σ) (.refl S hv) (hn t) (h.regs t)
 ·cases hs:nm (S.o j) with
  |true=>cases hc:S.o j<;>rw[hc] at hs<;>simp[nm] at hs;trivial
  |false=>exact(h.objs j).mono (.refl σ) (.refl S hv) rfl (ho j hs) (fun k hk=>⟨hk,rfl⟩)
end
end Cx
namespace Cx
open Go Go.RowKit
structure Snap where
 rs:List Sh
 os:List Ob
 deriving Inhabited
def di:List Nat→List Ob→Nat→Ob
 |i::is,o::os,j=>bif Nat.beq i j then o else di is os j
 |_,_,_=>.dead
def cn:Sh→Sh
 |.opt _ _=>.none
 |s=>s
def Snap.st (ids:List Nat)(s:Snap):St:=⟨fun t=>cn (s.rs.getD t .none),fun j=>di ids s.os j,fun _=>0⟩
def St.snap (n:Nat)(ids:List Nat)(S:St):Snap:=⟨(List.range n).map fun t=>eM S (S.r t),ids.map fun j=>gX S (S.o j)⟩
def Snap.beq (a b:Snap):Bool:=wU a.rs b.rs&&zt a.os b.os
theorem Snap.beq_eq (a b:Snap)(h:a.beq b=true):a=b:=by
 cases a;cases b;simp only[Snap.beq,aj] at h;rw[P6 _ _ h.1,XD _ _ h.2]
def Snap.meet (a b:Snap):Snap:=⟨List.zipWith jf a.rs b.rs,List.zipWith mB a.os b.os⟩
theorem aqm (s:Sh):∀gs s',cn s≠.opt gs s':=by
 intro gs s' e;cases s<;>simp[cn] at e
theorem Snap.noOpt (ids:List Nat)(s:Snap):∀t gs s',(s.st ids).r t≠.opt gs s':=fun t=>aqm _
section
variable {C:Ctx} {S:St} {ρ:Env} {σ:Im} {own:Nat→Option Nat} {hv:Nat→Value} {w0:World} {σ0:Base} {A:Nat→Prop} {a:Act} {w:World} {n:Nat} {ids:List Nat}
theorem vX (f:Nat→Ob)(P:Ob→Prop)(hd:P .dead)(j:Nat)(hf:P (f j)):∀ids:List Nat,P (di ids (ids.map f) j)
 |[]=>hd
 |i::is=>by
  simp only[gr,di];cases hb:Nat.beq i j
  ·exact vX f P hd j hf is
  ·rw[av hb];exact hf
theorem Jz {s:Sh}{v:Value}{d:D}(h:aD C S ρ σ hv s v d):aD C S ρ σ hv (cn s) v d:=by
 cases s<;>first|exact h|trivial
theorem Inv.snap (h:Inv C S ρ σ own hv w0 σ0 A a w)(n:Nat)(ids:List Nat):Inv C ((S.snap n ids).st ids) ρ σ own hv w0 σ0 (fun _=>False) a w:=by
 have h1:=h.norm;have hc:Compat S.norm hv ((S.snap n ids).st ids) hv:=⟨fun _=>aW _,fun _ _=>rfl⟩
 refine h1.weaken (fun t=>?_) (fun j=>?_) (Snap.noOpt _ _) (fun j hj=>⟨vX (fun j=>gX S (S.o j)) (fun ob=>ob=.tr→gX S (S.o j)=.tr) (fun e=>by cases e) j id ids hj,rfl⟩)
 ·refine aD.mono' (ρ:=ρ) (.refl σ) hc (Snap.noOpt _ _ t) ?_;show aD C S.norm ρ σ hv (cn (((List.range n).map fun t=>eM S (S.r t)).getD t .none)) _ _;refine Jz ?_;rw[aG,cg];by_cases ht:t<n
  ·rw[pD ht];exact h1.regs t
  ·rw[qM (by simpa using ht)];trivial
 ·have ho:=(h1.objs j).mono (.refl σ) hc (w:=w) (w':=w) rfl rfl (fun k hk=>⟨hk,rfl⟩);exact vX (fun j=>gX S (S.o j)) (fun ob=>bS C _ ρ σ own hv w w0.heap.size j ob) trivial j ho ids
theorem JE {f:Sh→Sh→Sh}:∀(x y:List Sh) (t:Nat),(List.zipWith f x y).getD t .none=.none∨∃s u,x.getD t .none=s∧y.getD t .none=u∧(List.zipWith f x y).getD t .none=f s u
 |[],_,t=>.inl (by simp)
 |_::_,[],t=>.inl (by simp)
 |a::aa,b::bs,0=>.inr ⟨a,b,rfl,rfl,rfl⟩
 |a::aa,b::bs,t+1=>by simpa using JE (f:=f) aa bs t
theorem HE {f:Ob→Ob→Ob}:∀(ids:List Nat) (x y:List Ob) (j:Nat),di ids (List.zipWith f x y) j=.dead∨di ids (List.zipWith f x y) j=f (di ids x j) (di ids y j)
 |[],_,_,_=>.inl rfl
 |_::_,[],_,_=>.inl rfl
 |_::_,_::_,[],_=>.inl rfl
 |i::is,a::aa,b::bs,j=>by
  simp only[List.zipWith_cons_cons,di];cases Nat.beq i j
  ·exact HE is aa bs j
  ·exact .inr rfl
theorem aqk {s u:Sh}{v:Value}{d:D}(h:aD C S ρ σ hv (cn s) v d):aD C S ρ σ hv (cn (jf s u)) v d:=by
 cases hs:s with
 |opt gs s'=>cases u<;>simp[jf,cn,aD]
 |_=>rw[hs] at h;exact Jz (Xo h).1
theorem aql {s u:Sh}{v:Value}{d:D}(h:aD C S ρ σ hv (cn u) v d):aD C S ρ σ hv (cn (jf s u)) v d:=by
 cases hs:u with
 |opt gs s'=>cases s<;>simp[jf,cn,aD]
 |_=>rw[hs] at h;exact Jz (Xp h).1
theorem Xq {x y:Snap}{j:Nat}(h:((x.meet y).st ids).o j=.tr):(x.st ids).o j=.tr∧(y.st ids).o j=.tr:=by
 change di ids (List.zipWith mB x.os y.os) j=.tr at h;rcases HE (f:=mB) ids x.os y.os j with h0|h0
 ·rw[h0] at h;cases h
 ·rw[h0] at h;exact ald h
theorem Snap.meet_ok1 {x y:Snap}(h:Inv C (x.st ids) ρ σ own hv w0 σ0 A a w):Inv C ((x.meet y).st ids) ρ σ own hv w0 σ0 (fun _=>False) a w:=by
 have hc:Compat (x.st ids) hv ((x.meet y).st ids) hv:=⟨fun _=>aW _,fun _ _=>rfl⟩
 refine h.weaken (fun t=>?_) (fun j=>?_) (Snap.noOpt _ _) (fun j hj=>⟨(Xq hj).1,rfl⟩)
 ·refine aD.mono' (ρ:=ρ) (.refl σ) hc (Snap.noOpt _ _ t) ?_;show aD C (x.st ids) ρ σ hv (cn ((List.zipWith jf x.rs y.rs).getD t .none)) _ _;rcases JE (f:=jf) x.rs y.rs t with h0|⟨s,u,h1,h2,h3⟩
  ·rw[h0];trivial
  ·rw[h3];exact aqk (by rw[←h1];exact h.regs t)
 ·refine bS.mono (S:=x.st ids) (ρ:=ρ) (own:=own) (hv:=hv) (.refl σ) hc (w:=w) rfl rfl (fun k hk=>⟨hk,rfl⟩) ?_;show bS C _ ρ σ own hv w w0.heap.size j (di ids (List.zipWith mB x.os y.os) j);rcases HE (f:=mB) ids x.os y.os j with h0|h0
  ·rw[h0];trivial
  ·rw[h0];exact alb (h.objs j)
theorem Snap.meet_ok2 {x y:Snap}(h:Inv C (y.st ids) ρ σ own hv w0 σ0 A a w):Inv C ((x.meet y).st ids) ρ σ own hv w0 σ0 (fun _=>False) a w:=by
 have hc:Compat (y.st ids) hv ((x.meet y).st ids) hv:=⟨fun _=>aW _,fun _ _=>rfl⟩
 refine h.weaken (fun t=>?_) (fun j=>?_) (Snap.noOpt _ _) (fun j hj=>⟨(Xq hj).2,rfl⟩)
 ·refine aD.mono' (ρ:=ρ) (.refl σ) hc (Snap.noOpt _ _ t) ?_;show aD C (y.st ids) ρ σ hv (cn ((List.zipWith jf x.rs y.rs).getD t .none)) _ _;rcases JE (f:=jf) x.rs y.rs t with h0|⟨s,u,h1,h2,h3⟩
  ·rw[h0];trivial
  ·rw[h3];exact aql (by rw[←h2];exact h.regs t)
 ·refine bS.mono (S:=y.st ids) (ρ:=ρ) (own:=own) (hv:=hv) (.refl σ) hc (w:=w) rfl rfl (fun k hk=>⟨hk,rfl⟩) ?_;show bS C _ ρ σ own hv w w0.heap.size j (di ids (List.zipWith mB x.os y.os) j);rcases HE (f:=mB) ids x.os y.os j with h0|h0
  ·rw[h0];trivial
  ·rw[h0];exact alc (h.objs j)
end
end Cx
namespace Cx
open Go Go.RowKit
def tL (C:Ctx)(S:St)(T:TypeId)(x:Operand):List Nat:=
 match eE S [] x,oK C.P T,C.P.info? T with
 |.ptr j _ off,some true,some inf=>(match S.o j with|.box _ shs=>Bb ((shs.drop off).take inf.size)|_=>[])
 |_,_,_=>[]
def Ah (C:Ctx)(S:St):ResultVar→Option (St×Ty×PE)
 |.tmp t=>(use C (S.fzs (bJ S [] [.tmp t])) [] (.tmp t)).map fun x=>(S.fzs (bJ S [] [.tmp t]),x.1,x.2)
 |.cell b T=>
  match rQ C (S.fzs (tL C S T (.tmp b))) [] 0 T (.tmp b) with
  |some (.dat ty,[.setR 0 e])=>some (S.fzs (tL C S T (.tmp b)),ty,e)
  |some (.obj j ver,[.setR _ _])=>
   bif Nat.beq ver (((S.fzs (tL C S T (.tmp b))).fz j).ver j) then
    match((S.fzs (tL C S T (.tmp b))).fz j).o j with
    |.fz ty=>some ((S.fzs (tL C S T (.tmp b))).fz j,ty,.o j)
    |_=>none
   else none
  |_=>none
def sm (C:Ctx):List ResultVar→St→Option (St×List Ty×List PE)
 |[],S=>some (S,[],[])
 |x::xs,S=>(Ah C S x).bind fun r=>(sm C xs r.1).map fun q=>(q.1,r.2.1::q.2.1,r.2.2::q.2.2)
def aas (C:Ctx)(fn:Func)(S:St)(res:Ty):Option PE:=
 (sm C fn.results.toList S).bind fun r=>
    match r.2.1,r.2.2 with
    |[ty],[e]=>bif Ty.sub ty res then some e else none
    |fi,es=>bif Ty.sub (.tup fi) res then some (.tup es) else none
def aau (C:Ctx)(fn:Func)(S:St)(T:TypeId)(e:Ty):Option PE:=
 match fn.results.toList with
 |[.tmp t]=>
  match j1 S [] t with
  |.obj j ver=>bif Nat.beq ver (S.ver j) then(match S.o j with|.row U f=>bif Nat.beq U T&&Ty.beq f e then some (.o j) else none|_=>none) else none
  |_=>none
 |[.cell b U]=>
  match rQ C S [] 0 U (.tmp b) with
  |some (.obj j ver,[.setR _ _])=>bif Nat.beq ver (S.ver j) then(match S.o j with|.row U f=>bif Nat.beq U T&&Ty.beq f e then some (.o j) else none|_=>none) else none
  |_=>none
 |_=>none
def Hy (S:St):Nat→List Sh→Bool
 |_,[]=>true
 |t,s::l=>rT s&&((mu s||isNone s||Sh.beq (S.r t) s)&&Hy S (t+1) l)
def Nf (S:St)(shs:List Sh)(obs:List (Nat×Ob)):Bool:=Hy S 0 shs&&obs.all fun x=>Ob.beq (S.o x.1) x.2
def PV (fi:List Ty)(es:List PE)(res:Ty):Option PE:=
 match fi,es with
 |[ty],[e]=>bif Ty.sub ty res then some e else none
 |fi,es=>bif Ty.sub (.tup fi) res then some (.tup es) else none
def aat (C:Ctx)(fn:Func)(S:St)(res:Ty)(shs:List Sh)(obs:List (Nat×Ob)):Option PE:=
 (sm C fn.results.toList S).bind fun r=>bif Nf r.1 shs obs then(PV r.2.1 r.2.2 res).map fun e=>.tup (e::obs.map fun x=>.o x.1) else none
def kX (S:St):List AgC→List RC→Bool
 |[],[]=>true
 |.dat t::a,.dat u::l=>Ty.sub t u&&t.one&&kX S a l
 |.obj j ver::a,.row T e::l=>Nat.beq ver (S.ver j)&&(match S.o j with|.row U f=>Nat.beq U T&&Ty.beq f e|_=>false)&&kX S a l
 |_,_=>false
def mS:List AgC→List Nat
 |[]=>[]
 |.dat _::l=>mS l
 |.obj j _::l=>j::mS l
def lh (x:PE):List AgC→Nat→List PE
 |[],_=>[]
 |.dat _::l,i=>.cell x i::lh x l (i+1)
 |.obj j _::l,i=>.o j::lh x l (i+1)
def aaw (C:Ctx)(fn:Func)(S:St)(l:List RC):Option PE:=
 match fn.results.toList with
 |[.tmp t]=>
  match j1 S [] t with
  |.agg a=>bif kX S a l&&gj (mS a) then some (.mk (lh (.r t) a 0)) else none
  |_=>none
 |[.cell b U]=>
  match rQ C S [] 0 U (.tmp b) with
  |some (.agg a,[.setR t0 e])=>bif (kX S a l&&gj (mS a))&&Nat.beq t0 0 then some (.mk (lh e a 0)) else none
  |_=>none
 |_=>none
def qq:List AgC→Nat→Option Nat
 |[],_=>none
 |.dat _::l,j=>(qq l j).map (·+1)
 |.obj i _::l,j=>bif Nat.beq i j then some 0 else(qq l j).map (·+1)
def wR (C:Ctx)(fn:Func)(s:Sig)(S:St):Option PE:=
 match s.mode with
 |.ob shs obs=>aat C fn S s.res shs obs
 |.dat=>aas C fn S s.res
 |.rows l=>aaw C fn S l
 |.it J=>match fn.results.toList,S.o J with|[],.tr=>some (.o J)|_,_=>none
 |.row T e=>aau C fn S T e
def I3 (P:Program)(tmps:Array Value)(w:World):ResultVar→Value→Prop
 |.tmp t,v=>v=tmps.getD t undef
 |.cell a T,v=>∃k,tmps.getD a undef=.pointer (some k)∧(loadVar T k).run P w=.ok v w
def I4 (P:Program)(tmps:Array Value)(w:World):List ResultVar→List Value→Prop
 |[],[]=>True
 |x::xs,v::vs=>I3 P tmps w x v∧I4 P tmps w xs vs
 |_,_=>False
def tQ:List Value→Value
 |[v]=>v
 |vs=>.tuple vs.toArray
section
variable {C:Ctx} {S:St} {ρ:Env} {σ:Im} {own:Nat→Option Nat} {hv:Nat→Value} {w0:World} {σ0:Base} {A:Nat→Prop} {a:Act} {w:World} {gs:List (Nat×Bool)} {Φ:aK} {dst:Nat}
theorem W9 {P:Program}{tmps:Array Value}{w:World}(f:ResultVar→Sem Value)(Vk:∀t,f (.tmp t)=pure (tmps.getD t undef))(Vl:∀b T,f (.cell b T)=(do loadVar T (←asAddr (tmps.getD b undef)))):
 ∀(l:List ResultVar) (vs:List Value),I4 P tmps w l vs→(l.mapM f).run P w=.ok vs w
 |[],[],_=>by simp[Sem.run_pure]
 |x::l,v::vs,h=>by
  obtain⟨hx,M5⟩:=h;have ih:=W9 f Vk Vl l vs M5;rw[SR];have h1:(f x).run P w=.ok v w:=by
   cases x with
   |tmp t=>rw[Vk];simp only[I3] at hx;subst hx;simp[Sem.run_pure]
   |cell b T=>
    obtain⟨k,h1,h2⟩:=hx;rw[Vl,h1];simp[asAddr,h2]
  simp[Sem.run_bind,h1,ih,Sem.run_pure,Result.andThen_ok]
theorem wQ {P:Program}{fn:Func}{tmps:Array Value}{w:World}{vs:List Value}(h:I4 P tmps w fn.results.toList vs):
 (results fn tmps).run P w=.ok (tQ vs) w:=by
 unfold results;rw[Array.mapM_eq_mapM_toList];simp only[Sem.run_bind];simp only[bind_map_left,map_eq_pure_bind,Sem.run_bind,bind_assoc,pure_bind];rw[W9 (tmps:=tmps) _ (fun t=>rfl) (fun b T=>rfl) _ _ h];simp only[Result.andThen_ok,Sem.run_pure];rcases vs with _|⟨v,_|⟨u,vs⟩⟩<;>simp[Sem.run_pure,tQ]
theorem HB {o:Oper}{T:TypeId}{b:Nat}{v:Value}(ho:o.op=.load T (.tmp b))(hx:(execOp a.eval o).run C.P w=.ok (.value v) w):I3 C.P a.tmps w (.cell b T) v:=by
 have he:a.eval (.tmp b)=a.tmps.getD b undef:=by simp[Act.eval]
 simp only[execOp,ho,Instr.loadAt,he] at hx;cases hp:a.tmps.getD b undef with
 |pointer p=>
  cases p with
  |none=>rw[hp] at hx;simp[Instr.sureAddr] at hx
  |some k=>
   rw[hp] at hx;refine⟨k,hp,?_⟩;simp[Instr.sureAddr] at hx;cases hr:(loadVar T k).run C.P w with
   |ok u w'=>rw[hr] at hx;simp at hx;rw[hx.1,hx.2]
   |halt u w'=>rw[hr] at hx;simp at hx
 |_=>rw[hp] at hx;simp[Instr.sureAddr] at hx
theorem anA (h:Inv C S ρ σ own hv w0 σ0 A a w)(hC:CtxOK C σ0){x:ResultVar}{r:St×Ty×PE}(hr:Ah C S x=some r):
 ∃σ' own' v,σ.le σ'∧Inv C r.1 ρ σ' own' hv w0 σ0 A a w∧I3 C.P a.tmps w x v∧Rep C.cap σ' r.2.1 v (r.2.2.ev ρ):=by
 cases x with
 |tmp t=>
  simp only[Ah,ax] at hr;obtain⟨y,hy,rfl⟩:=hr;obtain⟨σ1,dc,hle,h1⟩:=Inv.fzs (bJ S [] [.tmp t]) h;refine⟨σ1,dc,a.tmps.getD t undef,hle,h1,rfl,?_⟩;have:=cf (gs:=[]) h1 hC rfl hy;simpa [Act.eval] using this
 |cell b T=>
  simp only[Ah] at hr;obtain⟨σ1,dc,hle,h1⟩:=Inv.fzs (tL C S T (.tmp b)) h;generalize U0:S.fzs (tL C S T (.tmp b))=S1 at hr h1
  let o:Oper:={(default:Oper) with op:=.load T (.tmp b)}
  split at hr
  ·rename_i ty e hl;cases hr;have hq:=Di (Φ:=fun _ _=>none) (dst:=0) (gs:=[]) h1 hC rfl hl (o:=o) rfl;obtain⟨v,d,e1,e2,e3,e4⟩:=hq _ rfl;have hd:d=e.ev ρ:=by
        have:=congrArg (fun x:Env=>x.r 0) e1;simpa [Env.setR,aJ] using this.symm
   subst hd;exact⟨σ1,dc,v,hle,h1,HB rfl e2,e3⟩
  ·rename_i j ver t0 e0 hl;have hq:=Di (Φ:=fun _ _=>none) (dst:=0) (gs:=[]) h1 hC rfl hl (o:=o) rfl;obtain⟨v,d,e1,e2,e3,e4⟩:=hq _ rfl;cases hb:Nat.beq ver ((S1.fz j).ver j)<;>simp only[hb,cond_true,cond_false] at hr
   ·cases hr
   split at hr
   case h_2=>cases hr
   rename_i ty aX;cases hr;obtain⟨σ2,iN,ju,h2⟩:=h1.fz j;refine⟨σ2,iN,v,hle.trans ju,h2,HB rfl e2,?_⟩;have ho:=h2.objs j;rw[aX] at ho;have dm:ver=S1.ver j:=by rw[av hb,(Gx S1 j).1]
   rw[e3.2 dm];exact ho.2
  ·cases hr
theorem PU (hC:CtxOK C σ0):∀(l:List ResultVar) {S:St} {σ:Im} {own:Nat→Option Nat} {r:St×List Ty×List PE},Inv C S ρ σ own hv w0 σ0 A a w→sm C l S=some r→
 ∃σ' own' vs,σ.le σ'∧Inv C r.1 ρ σ' own' hv w0 σ0 A a w∧I4 C.P a.tmps w l vs∧vs.length=r.2.1.length∧r.2.2.length=r.2.1.length∧
  ∀(i:Nat) (t:Ty),r.2.1[i]?=some t→Rep C.cap σ' t (vs.getD i undef) ((PE.evs ρ r.2.2).getD i .none)
 |[],S,σ,own,r,h,hr=>by
  simp only[sm,aQ] at hr;subst hr;exact⟨σ,own,[],.refl σ,h,trivial,rfl,rfl,fun i t e=>by simp at e⟩
 |x::l,S,σ,own,r,h,hr=>by
  simp only[sm,aq,ax] at hr;obtain⟨r1,h1,q,h2,rfl⟩:=hr;obtain⟨σ1,dc,v,hle,i1,hx,bH⟩:=anA h hC h1;obtain⟨σ2,iN,vs,ju,i2,M5,m8,rD,mm⟩:=PU hC l i1 h2;refine⟨σ2,iN,v::vs,hle.trans ju,i2,⟨hx,M5⟩,by simp[m8],by simp[rD],fun i t e=>?_⟩;cases i with
  |zero=>simp at e;subst e;simpa [PE.evs] using bH.mono ju
  |succ i=>simp at e;simpa [PE.evs] using mm i t e
def E2 (C:Ctx)(s:Sig)(σ:Im)(own:Nat→Option Nat)(w0 w:World)(tmps:Array Value)(d:D)(v:Value):Prop:=
 ∀shs obs,s.mode=.ob shs obs→∃hv dr os,d=.tup (dr::os)∧os.length=obs.length∧(∀k j,own k=some j→w0.heap.size≤k∧k<w.heap.size∧(∀o,σ.c k o=none)∧σ.m k=none)∧
  (∀(t:Nat) (sh:Sh),shs[t]?=some sh→mu sh=false→∀d,aD C (fC shs obs) (lJ obs [] os) σ hv sh (tmps.getD t undef) d)∧(∀j,bS C (fC shs obs) (lJ obs [] os) σ own hv w w0.heap.size j (dT obs j))∧Rep C.cap σ s.res v dr
theorem E2.no {C:Ctx}{s:Sig}{σ:Im}{own:Nat→Option Nat}{w0 w:World}{tmps:Array Value}{d:D}{v:Value}(h:np s.mode=false):E2 C s σ own w0 w tmps d v:=fun shs obs e=>by rw[e] at h;cases h
def JY (C:Ctx)(w0:World)(σ0:Base)(fn:Func)(s:Sig)(d:D)(a:Act)(w:World):Prop:=
 ∃v σ,(∃own t fx cx,FrOK σ own w0.heap.size σ0 w t fx cx∧(∀J,s.mode=.it J→d=t)∧E2 C s σ own w0 w a.tmps d v)∧(results fn a.tmps).run C.P w=.ok v w∧σ0.le σ∧σ.ok w∧Below σ0.B w0 w∧
  (∀k o x,σ.c k o=some x→σ0.c k o=some x∨w0.heap.size≤k)∧(∀k x,σ.m k=some x→σ0.m k=some x∨w0.heap.size≤k)∧lf C s σ w0 w v d
theorem Inv.fr (h:Inv C S ρ σ own hv w0 σ0 A a w){s:Sig}{d:D}{v:Value}(hm:∀J,s.mode≠.it J)(ho:np s.mode=false):∃own t fx cx,FrOK σ own w0.heap.size σ0 w t fx cx∧(∀J,s.mode=.it J→d=t)∧E2 C s σ own w0 w a.tmps d v:=by
 obtain⟨t,fx,cx,h1,_⟩:=h.frame;exact⟨own,t,fx,cx,h1,fun J e=>absurd e (hm J),.no ho⟩
theorem anz {cap:Nat→Option CSig}{fi:List Ty}{es:List PE}{res:Ty}{pe:PE}{vs:List Value}(hr:PV fi es res=some pe)(m8:vs.length=fi.length)(rD:es.length=fi.length)
 (mm:∀(i:Nat) (t:Ty),fi[i]?=some t→Rep cap σ t (vs.getD i undef) ((PE.evs ρ es).getD i .none)):Rep cap σ res (tQ vs) (pe.ev ρ):=by
 have many:fi.length≠1→(bif Ty.sub (.tup fi) res then some (PE.tup es) else none)=some pe→Rep cap σ res (tQ vs) (pe.ev ρ):=by
  intro ay hr;cases hb:Ty.sub (.tup fi) res<;>simp only[hb,cond_true,cond_false] at hr
  ·cases hr
  cases hr;have bX:tQ vs=Value.tuple vs.toArray:=by
   match vs,m8 with
   |[],_=>rfl
   |[v],hl=>exact absurd hl.symm ay
   |_::_::_,_=>rfl
  rw[bX];exact Rep.sub (Rep.tup _ _ _ (by rw[m8]) (by rw[PE.evs_eq,ed,rD]) mm) hb
 match fi,es,vs,m8,rD,mm,many,hr with
 |[ty],[e],[v],_,_,mm,_,hr=>
  simp only[PV] at hr;cases hb:Ty.sub ty res<;>simp only[hb,cond_true,cond_false] at hr
  ·cases hr
  cases hr;have:=mm 0 ty rfl;exact Rep.sub (by simpa [PE.evs,tQ] using this) hb
 |[],[],_,_,_,_,many,hr=>exact many (by simp) hr
 |_::_::_,_::_::_,_,_,_,_,many,hr=>exact many (by simp) hr
theorem WG:∀{l:List Sh} {k:Nat},Hy S k l=true→∀(t:Nat) (s:Sh),l[t]?=some s→mu s=false→rT s=true∧(s=.none∨S.r (k+t)=s)
 |[],k,_,t,s,h,_=>by simp at h
 |x::l,k,hk,t,s,h,hd=>by
  simp only[Hy,aj,fG] at hk;cases t with
  |zero=>
   simp at h;subst h;refine⟨hk.1,?_⟩;rcases hk.2.1 with(h1|h1)|h1
   ·rw[hd] at h1;cases h1
   ·left;cases x<;>first|rfl|cases h1
   ·exact .inr (Sh.beq_eq _ _ h1)
  |succ t=>
   simp at h;have:=WG hk.2.2 t s h hd
   rwa [sK,AN 1 t] at this
theorem WV:∀{obs:List (Nat×Ob)},(obs.all fun x=>Ob.beq (S.o x.1) x.2)=true→∀j,dT obs j=.dead∨(S.o j=dT obs j∧mA obs (obs.map fun x=>ρ.o x.1) j=ρ.o j)
 |[],_,j=>.inl rfl
 |x::obs,h,j=>by
  simp only[pB,aj] at h;simp only[dT,gr,mA];cases hb:Nat.beq x.1 j<;>simp only[cond_true,cond_false]
  ·exact WV h.2 j
  ·rw[←av hb];exact .inr ⟨Ob.beq_eq _ _ h.1,rfl⟩
theorem aqi {ty:Ty}{fi:List Ty}{es:List PE}(h:∀ty e,fi=[ty]→es=[e]→False)(hl:es.length=fi.length):fi.length≠1:=by
 intro h1
 match fi,es with
 |[ty],[e]=>exact h ty e rfl rfl
 |[],_=>simp at h1
 |_::_::_,_=>simp at h1
 |[_],[]=>simp at hl
 |[_],_::_::_=>simp at hl
theorem aav (h:Inv C S ρ σ own hv w0 σ0 A a w){T:TypeId}{e:Ty}{j ver:Nat}{v:Value}{d:D}(hc:aD C S ρ σ hv (.obj j ver) v d){pe:PE}
 (hr:(bif Nat.beq ver (S.ver j) then(match S.o j with|.row U f=>bif Nat.beq U T&&Ty.beq f e then some (PE.o j) else none|_=>none) else none)=some pe):
 ∃cells xs,pe.ev ρ=.list xs∧w.ownsRow w0.heap.size T e.size v xs.length cells∧dV C.cap σ e cells xs∧∀k,v.ownBlock=some k→(∀o,σ.c k o=none)∧σ.m k=none:=by
 cases hb:Nat.beq ver (S.ver j)<;>simp only[hb,cond_true,cond_false] at hr
 ·cases hr
 split at hr
 case h_2=>cases hr
 rename_i U f ho;cases bT:Nat.beq U T&&Ty.beq f e<;>simp only[bT,cond_true,cond_false] at hr
 ·cases hr
 cases hr;simp only[aj] at bT;have hU:=av bT.1;have hf:=Ty.beq_eq _ _ bT.2;subst hU hf;have hj:=h.objs j;rw[ho] at hj;obtain⟨cells,xs,h1,h2,h3,h4⟩:=hj;have hv':=hc.2 (av hb);subst hv';exact⟨cells,xs,h1,h2,h3,fun k hk=>(h.owns k j (h4 k hk)).2.2⟩
theorem aar:∀(l:List ResultVar) {S:St} {r:St×List Ty×List PE},sm C l S=some r→r.1.ver=S.ver
 |[],S,r,h=>by simp only[sm,aQ] at h;subst h;rfl
 |x::l,S,r,h=>by
  simp only[sm,aq,ax] at h;obtain⟨r1,h1,q,h2,rfl⟩:=h;rw[aar l h2];cases x with
  |tmp t=>
   simp only[Ah,ax] at h1;obtain⟨y,_,rfl⟩:=h1;exact(mY _ _).1
  |cell b T=>
   simp only[Ah] at h1;split at h1
   ·cases h1;exact(mY _ _).1
   ·rename_i j ver t0 e0 _;cases hb:Nat.beq ver (((S.fzs (tL C S T (.tmp b))).fz j).ver j)<;>simp only[hb,cond_true,cond_false] at h1
    ·cases h1
    ·split at h1
     ·cases h1;rw[(Gx _ _).1];exact(mY _ _).1
     ·cases h1
   ·cases h1
theorem Om:∀{a:List AgC} {i j ver:Nat},(mS a).Nodup→a[i]?=some (.obj j ver)→qq a j=some i
 |[],i,j,ver,_,h=>by simp at h
 |.dat t::a,i,j,ver,hn,h=>by
  cases i with
  |zero=>simp at h
  |succ i=>simp at h;simp only[qq];rw[Om (a:=a) hn h];rfl
 |.obj k u::a,i,j,ver,hn,h=>by
  simp only[mS,l0] at hn;cases i with
  |zero=>simp at h;obtain⟨rfl,_⟩:=h;simp only[qq,gu];rfl
  |succ i=>
   simp at h;have hm:∀{a:List AgC} {i:Nat},a[i]?=some (.obj j ver)→j∈mS a:=by
        intro a
        induction a with
        |nil=>intro i h;simp at h
        |cons x a ih=>
         intro i h;cases i with
         |zero=>simp at h;subst h;simp[mS]
         |succ i=>simp at h;have:=ih h;cases x<;>simp[mS,this]
   have ay:k≠j:=fun e=>hn.1 (e▸hm h);simp only[qq];rw[dY ay,cond_false,Om hn.2 h];rfl
theorem OW (h:Inv C S ρ σ own hv w0 σ0 A a w){x0:PE}{vs:List Value}{ds:List D}(hd:x0.ev ρ=.agg ds)(ow:Nat→Option Nat):∀(a:List AgC) (l:List RC) (i:Nat),kX S a l=true→(∀(n:Nat) (c:AgC),a[n]?=some c→lX C S σ hv c (vs.getD (i+n) undef) (ds.getD (i+n) .none))→
 (∀(n j ver k:Nat),a[n]?=some (.obj j ver)→own k=some j→ow k=some (i+n))→
 a.length=l.length∧(PE.evc ρ (lh x0 a i)).length=l.length∧∀(n:Nat) (c:RC),l[n]?=some c→SW C σ w0.heap.size w ow (i+n) c (vs.getD (i+n) undef) ((PE.evc ρ (lh x0 a i)).getD n .none)
 |[],[],i,_,_,_=>⟨rfl,rfl,fun n c hc=>by simp at hc⟩
 |[],_::_,i,hf,_,_=>by simp[kX] at hf
 |x::a,l,i,hf,GN,oF=>by
  have e:∀n,i+1+n=i+(n+1):=fun n=>by omega
  have B8:∀(n:Nat) (c:AgC),a[n]?=some c→lX C S σ hv c (vs.getD (i+1+n) undef) (ds.getD (i+1+n) .none):=fun n c hc=>by rw[e];exact GN (n+1) c (by simpa using hc)
  have VT:∀(n j ver k:Nat),a[n]?=some (.obj j ver)→own k=some j→ow k=some (i+1+n):=fun n j ver k hc hk=>by rw[e];exact oF (n+1) j ver k (by simpa using hc) hk
  have h0:=GN 0 x rfl;rw[ib] at h0;cases x with
  |dat ty=>
   cases l with
   |nil=>simp[kX] at hf
   |cons y l=>
    cases y with
    |row T e=>simp[kX] at hf
    |dat u=>
     simp only[kX,aj] at hf;obtain⟨g1,g2,g3⟩:=OW h hd ow a l (i+1) hf.2 B8 VT;have e1:PE.evc ρ (lh x0 (.dat ty::a) i)=ds.getD i .none::PE.evc ρ (lh x0 a (i+1)):=by
       simp only[lh,PE.evc,PE.ev,hd,D.c];have:=h0.2.dcells h0.1;simp only[D.cells] at this ⊢;rw[this];rfl
     rw[e1];refine⟨by simp[g1],by simp[g2],fun n c hc=>?_⟩;cases n with
     |zero=>simp at hc;subst hc;exact⟨by rw[←(Ty.sub_one _ _ hf.1.1).1];exact h0.1,h0.2.sub hf.1.1⟩
     |succ n=>simp at hc;have:=g3 n c hc;rw[e] at this;simpa using this
  |obj j ver=>
   cases l with
   |nil=>simp[kX] at hf
   |cons y l=>
    cases y with
    |dat u=>simp[kX] at hf
    |row T ty=>
     simp only[kX,aj] at hf;obtain⟨⟨f1,f2⟩,f3⟩:=hf;obtain⟨g1,g2,g3⟩:=OW h hd ow a l (i+1) f3 B8 VT;have aU:=h.objs j;split at f2
     case h_2=>cases f2
     rename_i U f eo;rw[eo] at aU;simp only[aj] at f2;have q1:=av f2.1;have q2:=Ty.beq_eq _ _ f2.2;subst q1 q2;obtain⟨cells,xs,k1,k2,k3,k4⟩:=aU;have rH:=h0.2 (av f1);have e1:PE.evc ρ (lh x0 (.obj j ver::a) i)=.list xs::PE.evc ρ (lh x0 a (i+1)):=by
         simp only[lh,PE.evc,PE.ev,k1,D.cells];rfl
     rw[e1];refine⟨by simp[g1],by simp[g2],fun n c hc=>?_⟩;cases n with
     |zero=>
      simp at hc;subst hc;rw[ib,rH];exact⟨cells,xs,rfl,k2,k3,fun k hk=>by have:=oF 0 j ver k rfl (k4 k hk);rwa [ib] at this⟩
     |succ n=>simp at hc;have:=g3 n c hc;rw[e] at this;simpa using this
theorem anB (h:Inv C S ρ σ own hv w0 σ0 A a w)(hC:CtxOK C σ0)(dm:∀j,S.ver j=0){fn:Func}{s:Sig}{pe:PE}(hr:wR C fn s S=some pe):JY C w0 σ0 fn s (pe.ev ρ) a w:=by
 unfold wR at hr;split at hr
 ·rename_i shs obs hm;simp only[aat,aq] at hr;obtain⟨r,aN,hr⟩:=hr;obtain⟨σ1,dc,vs,hle,h1,vG,m8,rD,mm⟩:=PU hC _ h aN;cases hb:Nf r.1 shs obs<;>simp only[hb,cond_true,cond_false] at hr
  ·cases hr
  simp only[ax] at hr;obtain⟨e,he,rfl⟩:=hr;simp only[Nf,aj] at hb;have bH:=anz he m8 rD mm;obtain⟨t,fx,cx,hf,_⟩:=h1.frame;have pZ:Compat r.1 hv (fC shs obs) hv:=⟨fun j=>by rw[aar _ aN,dm];exact nS _,fun _ _=>rfl⟩
  have Mu:(PE.evs ρ (e::obs.map fun x=>.o x.1))=e.ev ρ::obs.map (fun x=>ρ.o x.1):=by simp[PE.evs_eq,ET,PE.ev]
  refine⟨_,σ1,⟨dc,t,fx,cx,hf,(fun J e=>by rw[hm] at e;cases e),fun P5 awc e'=>?_⟩,wQ vG,h1.le,h1.ok,h1.below,h1.newc,h1.newm,by unfold lf;rw[hm];trivial⟩;rw[hm] at e';cases e';refine⟨hv,e.ev ρ,obs.map fun x=>ρ.o x.1,by simp only[PE.ev];rw[Mu],by simp,h1.owns,fun t sh hs hd d=>?_,fun j=>?_,bH⟩
  ·obtain⟨fa,e1⟩:=WG hb.1 t sh hs hd;rcases e1 with e1|e1
   ·subst e1;trivial
   ·rw[gw] at e1;have:=h1.regs t;rw[e1] at this;have eZ:∀gs s',sh≠.opt gs s':=fun gs s' e=>by subst e;cases fa
    have:=aD.mono' (S':=fC shs obs) (ρ':=lJ obs [] (obs.map fun x=>ρ.o x.1)) (.refl σ1) pZ eZ this;cases sh with
    |dat t=>cases hd
    |opt gs s=>cases fa
    |eptr j v o q=>cases fa
    |agg l=>cases fa
    |_=>exact this
  ·rcases WV (ρ:=ρ) hb.2 j with e1|⟨e1,e2⟩
   ·rw[e1];trivial
   ·rw[←e1];exact(h1.objs j).mono (.refl σ1) pZ rfl e2 (fun k hk=>⟨hk,rfl⟩)
 ·rename_i hm;simp only[aas,aq] at hr;obtain⟨r,aN,hr⟩:=hr;obtain⟨σ1,dc,vs,hle,h1,vG,m8,rD,mm⟩:=PU hC _ h aN;refine⟨_,σ1,h1.fr (fun J e=>by rw[hm] at e;cases e) (by rw[hm];rfl),wQ vG,h.le.trans hle,h1.ok,h1.below,h1.newc,h1.newm,?_⟩;unfold lf;rw[hm];simp only;split at hr
  ·rename_i ty e e1 e2;rw[e1] at m8 mm;rw[e2] at mm;cases hb:Ty.sub ty s.res<;>simp only[hb,cond_true,cond_false] at hr
   ·cases hr
   cases hr;obtain⟨v,rfl⟩:∃v,vs=[v]:=by
        match vs,m8 with
        |[v],_=>exact⟨v,rfl⟩
   have:=mm 0 ty rfl;exact Rep.sub (by simpa [PE.evs,tQ] using this) hb
  ·rename_i ay;cases hb:Ty.sub (.tup r.2.1) s.res<;>simp only[hb,cond_true,cond_false] at hr
   ·cases hr
   cases hr;have VO:=aqi (ty:=.bool) ay rD;have bX:tQ vs=Value.tuple vs.toArray:=by
        match vs,m8 with
        |[],_=>rfl
        |[v],hl=>rw[←hl] at VO;exact absurd rfl VO
        |_::_::_,_=>rfl
   rw[bX];refine Rep.sub (Rep.tup _ _ _ (by rw[m8]) (by rw[PE.evs_eq,ed,rD]) mm) hb
 ·rename_i l hm;have key:∃(v:Value) (x0:PE) (vs:List Value) (ds:List D) (ag:List AgC),(results fn a.tmps).run C.P w=.ok v w∧pe=.mk (lh x0 ag 0)∧x0.ev ρ=.agg ds∧v=.agg vs.toArray∧kX S ag l=true∧gj (mS ag)=true∧
        vs.length=ag.length∧ds.length=ag.length∧∀(i:Nat) (c:AgC),ag[i]?=some c→lX C S σ hv c (vs.getD i undef) (ds.getD i .none):=by
   unfold aaw at hr;split at hr
   ·rename_i t du;split at hr
    case h_2=>cases hr
    rename_i ag fw;cases hb:(kX S ag l&&gj (mS ag))<;>simp only[hb,cond_true,cond_false] at hr
    ·cases hr
    cases hr;simp only[aj] at hb;have fO:=(lP (gs:=[]) h rfl t).1;rw[fw] at fO;obtain⟨vs,ds,e1,e2,e3,e4,e5⟩:=fO;exact⟨_,.r t,vs,ds,ag,wQ (vs:=[a.tmps.getD t undef]) (by rw[du];exact⟨rfl,trivial⟩),rfl,e2,e1,hb.1,hb.2,e3,e4,e5⟩
   ·rename_i b U du;split at hr
    case h_2=>cases hr
    rename_i ag t0 x0 hl;cases hb:((kX S ag l&&gj (mS ag))&&Nat.beq t0 0)<;>simp only[hb,cond_true,cond_false] at hr
    ·cases hr
    cases hr;simp only[aj] at hb;obtain⟨hb,MM⟩:=hb;obtain rfl:=av MM;have hq:=Di (Φ:=fun _ _=>none) (dst:=0) (gs:=[]) h hC rfl hl (o:={(default:Oper) with op:=.load U (.tmp b)}) rfl;obtain⟨v,d,q1,q2,q3,_⟩:=hq _ rfl;obtain⟨vs,ds,e1,e2,e3,e4,e5⟩:=q3;have hd:x0.ev ρ=d:=by
     have:=congrArg (fun e:Env=>e.r 0) q1;simpa [Env.setR,bN] using this
    exact⟨_,x0,vs,ds,ag,wQ (vs:=[v]) (by rw[du];exact⟨HB rfl q2,trivial⟩),rfl,by rw[hd,e2],e1,hb.1,hb.2,e3,e4,e5⟩
   ·cases hr
  obtain⟨v,x0,vs,ds,ag,ah,rfl,e2,e1,b1,b2,e3,e4,e5⟩:=key
  obtain⟨g1,g2,g3⟩:=OW h (x0:=x0) (vs:=vs) (ds:=ds) e2 (fun k=>(own k).bind (qq ag)) ag l 0 b1 (fun n c hc=>by rw[gw];exact e5 n c hc) (fun n j ver k hc hk=>by
   show(own k).bind (qq ag)=some (0+n);rw[hk,jG,Om (kQ b2) hc,gw])
  simp only[gw] at g3;refine⟨_,σ,h.fr (fun J e=>by rw[hm] at e;cases e) (by rw[hm];rfl),ah,h.le,h.ok,h.below,h.newc,h.newm,?_⟩;unfold lf;rw[hm];refine⟨vs,PE.evc ρ (lh x0 ag 0),fun k=>(own k).bind (qq ag),e1,by simp only[PE.ev],by omega,g2,g3,fun k i hk=>?_⟩;cases ho:own k with
  |none=>
   have hk:(own k).bind (qq ag)=some i:=hk;rw[ho] at hk;cases hk
  |some j=>exact h.owns k j ho
 ·rename_i J hm;split at hr
  case h_2=>cases hr
  rename_i du hJ;cases hr;obtain⟨t,fx,cx,h1,h2⟩:=h.frame;refine⟨_,σ,⟨own,t,fx,cx,h1,fun J' e=>?_,.no (by rw[hm];rfl)⟩,wQ (vs:=[]) (by rw[du];trivial),h.le,h.ok,h.below,h.newc,h.newm,by unfold lf;rw[hm];trivial⟩;exact(h2 J hJ).2
 ·rename_i T e hm;have key:∃v,(results fn a.tmps).run C.P w=.ok v w∧∃cells xs,pe.ev ρ=.list xs∧w.ownsRow w0.heap.size T e.size v xs.length cells∧dV C.cap σ e cells xs∧∀k,v.ownBlock=some k→(∀o,σ.c k o=none)∧σ.m k=none:=by
   unfold aau at hr;split at hr
   ·rename_i t ht;split at hr
    case h_2=>cases hr
    rename_i j ver hs;have hc:=(lP (gs:=[]) h rfl t).1;rw[hs] at hc;exact⟨_,wQ (vs:=[a.tmps.getD t undef]) (by rw[ht];exact⟨rfl,trivial⟩),aav h hc hr⟩
   ·rename_i b U hb;split at hr
    case h_2=>cases hr
    rename_i j ver t0 e0 hl;have hq:=Di (Φ:=fun _ _=>none) (dst:=0) (gs:=[]) h hC rfl hl (o:={(default:Oper) with op:=.load U (.tmp b)}) rfl;obtain⟨v,d,e1,e2,e3,e4⟩:=hq _ rfl;exact⟨_,wQ (vs:=[v]) (by rw[hb];exact⟨HB rfl e2,trivial⟩),aav h e3 hr⟩
   ·cases hr
  obtain⟨v,h1,h2⟩:=key;refine⟨v,σ,h.fr (fun J e=>by rw[hm] at e;cases e) (by rw[hm];rfl),h1,h.le,h.ok,h.below,h.newc,h.newm,?_⟩;unfold lf;rw[hm];exact h2
theorem j6.drop {σ:Im}{B D:Nat}:∀{ds:List Deferred},({target:=.collected D,args:=#[]}:Deferred)∉ds→j6 σ B ds→j6 (σ.drop D) B ds
 |[],_,_=>trivial
 |x::ds,hn,⟨⟨D',h1,h2,h3⟩,h⟩=>by
  simp only[cM,not_or] at hn;refine⟨⟨D',h1,?_,h3⟩,j6.drop hn.2 h⟩;have:D'≠D:=fun e=>hn.1 (by rw[h1,e]);simp[Im.drop,this,h2]
theorem Inv.shut (h:Inv C S ρ σ own hv w0 σ0 A a w)(me:σ0.fin){x:Deferred}{ds:List Deferred}(hd:a.defers=x::ds):
 ∃D,x.target=.collected D∧w.heap[D]?=some (.deferred (some []))∧Inv C S ρ (σ.drop D) own hv w0 σ0 A {a with defers:=ds} (w.putObj D (.deferred none)):=by
 have m0:=h.defers;rw[hd] at m0;obtain⟨⟨D,rfl,hm,hB,Mi⟩,vp⟩:=m0;have hD:w.heap[D]?=some (.deferred (some [])):=by
  rcases h.ok.m D _ hm with⟨h1,_⟩|⟨_,h2⟩|⟨h3,_⟩
  ·exact absurd rfl h1
  ·exact h2
  ·exact absurd h3.symm sn
 have iK:∀k,k≠D→(w.putObj D (.deferred none)).heap[k]?=w.heap[k]?:=fun k hk=>World.putObj_heap_other hk;have bR:∀k j,own k=some j→k≠D:=fun k j hk e=>by subst e;rw[(h.owns k j hk).2.2.2] at hm;cases hm
 have hR:Im.leR C.cap σ (σ.drop D):=⟨fun r=>r.drop hm,fun _ _ _ e=>e⟩
 have Cf:∀k x,(σ.drop D).m k=some x→k≠D∧σ.m k=some x:=by
  intro k x hx;simp only[Im.drop] at hx;split at hx
  ·cases hx
  ·rename_i ay;exact⟨ay,hx⟩
 refine⟨D,rfl,hD,vp.drop Mi,⟨fun k o v hc=>?_,fun k es hc=>?_,h.ok.fz fun k o v hc=>iK k fun e=>by subst e;have h1:=h.ok.c k o v hc;simp[World.cell?,hD] at h1⟩,⟨h.le.c,fun k es hc=>?_⟩,h.old,h.newc,fun k es hc=>h.newm k es (Cf k es hc).2,h.below.trans ⟨rfl,rfl,rfl,by simp,fun k hk=>iK k (by have:=h.bw;omega)⟩,h.bw,fun k j hk=>?_,fun t=>?_,fun j=>?_,h.opts,?_⟩
 ·have h1:=h.ok.c k o v hc;have ay:k≠D:=fun e=>by subst e;simp[World.cell?,hD] at h1
  rw[World.cell?_of_block (iK k ay)];exact h1
 ·exact(h.ok.m k es (Cf k es hc).2).keep (iK k (Cf k es hc).1)
 ·have ay:k≠D:=fun e=>by
   subst e;have:=h.le.m _ _ hc;rw[hm] at this;cases this;have:=h.old me _ hc;omega
  simp[Im.drop,ay,h.le.m k es hc]
 ·obtain⟨g1,g2,g3,g4⟩:=h.owns k j hk;exact⟨g1,by simpa using g2,g3,by simp only[Im.drop];split<;>first|rfl|exact g4⟩
 ·exact aD.monoR hR (.refl S hv) (fun _ _ _=>rfl) (fun gs s e=>(h.opts t gs s e).2) (h.regs t)
 ·exact(h.objs j).monoR hR (.refl S hv) rfl rfl (fun k hk=>⟨hk,iK k (bR k j hk)⟩)
 ·obtain⟨t,fx,cx,hf,ht⟩:=h.frame;exact⟨t,fx,cx,⟨σ0.keep _ _ _ _ _ hf.F ⟨rfl,rfl,rfl,by simp,fun k hk=>by omega⟩ (fun k hk=>iK k fun e=>by subst e;exact hf.d k hm hB hk),hf.own,hf.c,fun k x hx=>hf.m k x (Cf k x hx).2,fun k hx=>hf.d k (Cf k _ hx).2⟩,ht⟩
def pG (C:Ctx)(w0:World)(σ0:Base)(fn:Func)(s:Sig)(d:D)(tmps:Array Value):List Deferred→World→Prop
 |[],w=>JY C w0 σ0 fn s d {tmps:=tmps,defers:=[]} w
 |x::ds,w=>∃D,x.target=.collected D∧w.heap[D]?=some (.deferred (some []))∧pG C w0 σ0 fn s d tmps ds (w.putObj D (.deferred none))
theorem Inv.retD (hC:CtxOK C σ0)(dm:∀j,S.ver j=0)(me:σ0.fin){fn:Func}{s:Sig}{pe:PE}(hr:wR C fn s S=some pe):∀(ds:List Deferred) {σ:Im} {a:Act} {w:World},Inv C S ρ σ own hv w0 σ0 A a w→a.defers=ds→pG C w0 σ0 fn s (pe.ev ρ) a.tmps ds w
 |[],σ,a,w,h,hd=>by
  have e:a={tmps:=a.tmps,defers:=[]}:=by cases a;simp only at hd;subst hd;rfl
  rw[e] at h;exact anB h hC dm hr
 |x::ds,σ,a,w,h,hd=>by
  obtain⟨D,h1,h2,h3⟩:=h.shut me hd;exact⟨D,h1,h2,Inv.retD hC dm me hr ds (a:={a with defers:=ds}) h3 rfl⟩
end
end Cx
namespace Cx
open Go Go.RowKit
def kD (C:Ctx)(f:Nat)(cts ys:List Ty)(ds xs:List D):Prop:=
 ∀(σ:Im) (w:World) (yv:Value) (vs:List Value) (F:D→(Nat→Prop)→(Nat→Prop)→World→Prop) (fx cx:Nat→Prop) (m:Nat),σ.ok w→CtxOK C σ→nL C σ cts vs ds→m≤xs.length→
  (∀t fx cx w,F t fx cx w→∀k,fx k→k<w.heap.size)→(∀t fx cx w,F t fx cx w→∀k,cx k→fx k)→
  (∀t fx cx w w',F t fx cx w→Below 0 w w'→(∀k,fx k→w'.heap[k]?=w.heap[k]?)→F t fx cx w')→
  F (.list []) fx cx w→(∀k o x,σ.c k o=some x→¬cx k)→(∀k x,σ.m k=some x→¬cx k)→
  (∀(i:Nat) (fx cx:Nat→Prop) (w1:World) (σ1:Im) (args:List Value) (ds':List D),i≤m→xs[i]?=some (.tup ds')→F (.list (xs.take i)) fx cx w1→σ1.ok w1→nL C σ1 ys args ds'→
    (∀k o x,σ1.c k o=some x→¬cx k)→(∀k x,σ1.m k=some x→¬cx k)→
    (∀k o x,σ1.c k o=some x→σ.c k o=some x∨w.heap.size≤k)→(∀k x,σ1.m k=some x→σ.m k=some x∨w.heap.size≤k)→
    S5 C.P yv args w1 fun u w2=>u=.bool (decide (i<m))∧Below 0 w1 w2∧(∀k,k<w1.heap.size→¬cx k→w2.heap[k]?=w1.heap[k]?)∧
     ∃ma jL,F (.list (xs.take (i+1))) ma jL w2∧(∀k,ma k→k<w1.heap.size→fx k∨(∃o x,σ1.c k o=some x)∨(∃x,σ1.m k=some x∧x≠cr))∧(∀k,jL k→k<w1.heap.size→cx k))→
  Calls C.P f (#[yv]++vs.toArray) w fun e w'=>(∃v,e=.returned v)∧∃fx cx,F (.list (xs.take (m+1))) fx cx w'
def fI (C:Ctx)(Φ:aK):Prop:=∀f cs ys,C.cap f=some cs→jA cs.args cs.res=some ys→(∃fn,C.P.funcs[f]?=some fn∧fn.body.isSome=true∧(fn.name== "runtime.NumGoroutine")=false)∧
 ∀ds d,Φ f ds=some d→∃xs,d=.list xs∧(∀x,x∈xs→∃ds',x=.tup ds'∧ds'.length=ys.length)∧kD C f cs.caps ys ds xs
section
variable {C:Ctx} {S:St} {ρ:Env} {σ:Im} {own:Nat→Option Nat} {hv:Nat→Value} {w0:World} {σ0:Base} {A:Nat→Prop} {a:Act} {w:World}
theorem Inv.mono_regs (h:Inv C S ρ σ own hv w0 σ0 A a w){τ:Im}(hle:σ.le τ)(t:Nat):aD C S ρ τ hv (S.r t) (a.tmps.getD t undef) (ρ.r t):=
 aD.mono hle (.refl S hv) (fun _ _ _=>rfl) (fun gs s e=>(h.opts t gs s e).2) (h.regs t)
theorem Inv.joinIm (h:Inv C S ρ σ own hv w0 σ0 A a w){τ:Im}(hτ:τ.ok w)(hd:∀k,τ.m k≠some cr)(hoc:∀k o v,τ.c k o=some v→own k=none)(hom:∀k v,τ.m k=some v→own k=none)
 (cO:∀k o v,τ.c k o=some v→σ.c k o=some v∨w0.heap.size≤k) (cE:∀k v,τ.m k=some v→σ.m k=some v∨w0.heap.size≤k)
 (cQ:∀t fx cx,FrOK σ own w0.heap.size σ0 w t fx cx→(∀k o v,τ.c k o=some v→¬cx k)∧∀k v,τ.m k=some v→¬cx k):Inv C S ρ (σ.plus τ) own hv w0 σ0 A a w where
 defers:=h.defers.mono (Im.plus_le1 σ τ)
 ok:=Im.plus_ok h.ok hτ
 le:=h.le.trans (Im.plus_le1 σ τ)
 old:=h.old
 newc:=fun k o x e=>(Im.plus_c e).elim (h.newc k o x) fun e=>(cO k o x e).elim (h.newc k o x) .inr
 newm:=fun k x e=>(Im.plus_m e).elim (h.newm k x) fun e=>(cE k x e).elim (h.newm k x) .inr
 below:=h.below
 bw:=h.bw
 owns:=fun k j hk=>by
  obtain⟨g1,g2,g3,g4⟩:=h.owns k j hk;refine⟨g1,g2,fun o=>?_,?_⟩
  ·cases e:(σ.plus τ).c k o with
   |none=>rfl
   |some x=>
    rcases Im.plus_c e with e|e
    ·rw[g3 o] at e;cases e
    ·rw[hoc k o x e] at hk;cases hk
  ·cases e:(σ.plus τ).m k with
   |none=>rfl
   |some x=>
    rcases Im.plus_m e with e|e
    ·rw[g4] at e;cases e
    ·rw[hom k x e] at hk;cases hk
 regs:=h.mono_regs (Im.plus_le1 σ τ)
 objs:=fun j=>(h.objs j).mono (Im.plus_le1 σ τ) (.refl S hv) rfl rfl fun k hk=>⟨hk,rfl⟩
 opts:=h.opts
 frame:=by
  obtain⟨t,fx,cx,hf,ht⟩:=h.frame;obtain⟨h1,h2⟩:=cQ t fx cx hf;exact⟨t,fx,cx,⟨hf.F,hf.own,fun k o x e=>(Im.plus_c e).elim (hf.c k o x) (h1 k o x),fun k x e=>(Im.plus_m e).elim (hf.m k x) (h2 k x),fun k e=>(Im.plus_m e).elim (hf.d k) fun e=>absurd e (hd k)⟩,ht⟩
theorem Inv.keep (h:Inv C S ρ σ own hv w0 σ0 A a w){w':World}{X:Nat→Prop}(hb:Below 0 w w')(hX:∀k,X k→w'.heap[k]?=w.heap[k]?)(h0:∀k,k<w0.heap.size→X k)(ho:∀k j,own k=some j→X k)(hc:∀k o v,σ.c k o=some v→X k)(hm:∀k v,σ.m k=some v→X k)
 (cQ:∀t fx cx,FrOK σ own w0.heap.size σ0 w t fx cx→∀k,fx k→X k):Inv C S ρ σ own hv w0 σ0 A a w' where
 defers:=h.defers
 ok:=⟨fun k o v e=>by rw[World.cell?_of_block (hX k (hc k o v e))];exact h.ok.c k o v e,fun k v e=>(h.ok.m k v e).keep (hX k (hm k v e)),h.ok.fz fun k o v e=>hX k (hc k o v e)⟩
 le:=h.le
 old:=h.old
 newc:=h.newc
 newm:=h.newm
 below:=h.below.trans ⟨hb.os,hb.tape,hb.output,hb.size,fun k hk=>hX k (h0 k (qO hk h.bw))⟩
 bw:=h.bw
 owns:=fun k j hk=>let⟨g1,g2,g3⟩:=h.owns k j hk;⟨g1,qO g2 hb.size,g3⟩
 regs:=h.regs
 objs:=fun j=>(h.objs j).mono (.refl σ) (.refl S hv) rfl rfl fun k hk=>⟨hk,hX k (ho k j hk)⟩
 opts:=h.opts
 frame:=by
  obtain⟨t,fx,cx,hf,ht⟩:=h.frame;exact⟨t,fx,cx,⟨σ0.keep _ _ _ _ _ hf.F hb fun k hk=>hX k (cQ t fx cx hf k hk),hf.own,hf.c,hf.m,hf.d⟩,ht⟩
end
def Base.rnd (σ0:Base)(σ:Im)(own:Nat→Option Nat)(w:World)(t:D)(X:Nat→Prop):Base:=
 {σ with
  B:=σ0.B
  fin:=False
  F:=fun t' fx cx w'=>t'=t∧(∀k,fx k↔(k<w.heap.size∧own k=none∧σ.m k≠some cr∧¬X k))∧(∀k,cx k↔(fx k∧(∀o,σ.c k o=none)∧σ.m k=none))∧w.heap.size≤w'.heap.size∧∀k,fx k→w'.heap[k]?=w.heap[k]?
  lt:=fun t' fx cx w' h k hk=>qO ((h.2.1 k).1 hk).1 h.2.2.2.1
  sub:=fun t' fx cx w' h k hk=>((h.2.2.1 k).1 hk).1
  keep:=fun t' fx cx w' j4 h hb hs=>⟨h.1,h.2.1,h.2.2.1,ij h.2.2.2.1 hb.size,fun k hk=>(hs k hk).trans (h.2.2.2.2 k hk)⟩}
section
variable {C:Ctx} {S S':St} {ρ ρ':Env} {σ σ':Im} {own own':Nat→Option Nat} {hv hv':Nat→Value} {w0:World} {σ0:Base} {A A':Nat→Prop} {a a':Act} {w w':World} {X:Nat→Prop}
theorem Inv.toRnd (h:Inv C S ρ σ own hv w0 σ0 A a w){t:D}(ht:∀j,S.o j=.tr→(∃ys,C.yl=some (j,ys))∧ρ.o j=t):Inv C S ρ σ own hv w0 (σ0.rnd σ own w t X) A a w:=by
 refine⟨h.defers,h.ok,.refl σ,(fun hf=>hf.elim),(fun _ _ _ e=>.inl e),(fun _ _ e=>.inl e),h.below,h.bw,h.owns,h.regs,h.objs,h.opts,t,fun k=>k<w.heap.size∧own k=none∧σ.m k≠some cr∧¬X k,fun k=>(k<w.heap.size∧own k=none∧σ.m k≠some cr∧¬X k)∧(∀o,σ.c k o=none)∧σ.m k=none,
  ⟨⟨rfl,fun _=>.rfl,fun _=>.rfl,aW _,fun _ _=>rfl⟩,fun k j hk hf=>?_,fun k o x e hc=>?_,fun k x e hc=>?_,fun k e _ hf=>hf.2.2.1 e⟩,ht⟩
 ·have:=hf.2.1;rw[hk] at this;cases this
 ·have:=hc.2.1 o;rw[e] at this;cases this
 ·have:=hc.2.2;rw[e] at this;cases this
theorem Inv.markSame {w1:World}(h:σ.ok w1)(h':σ'.ok w')(hle:σ.le σ'){k:Nat}(hk:σ.m k=some cr):w'.heap[k]?=w1.heap[k]?:=by
 have e1:w1.heap[k]?=some (.deferred (some [])):=by
  rcases h.m k _ hk with⟨h1,_⟩|⟨_,h2⟩|⟨h3,_⟩
  ·exact absurd rfl h1
  ·exact h2
  ·exact absurd h3.symm sn
 have e2:w'.heap[k]?=some (.deferred (some [])):=by
  rcases h'.m k _ (hle.m k _ hk) with⟨h1,_⟩|⟨_,h2⟩|⟨h3,_⟩
  ·exact absurd rfl h1
  ·exact h2
  ·exact absurd h3.symm sn
 rw[e1,e2]
theorem Inv.rndSame {w1:World}{t:D}(au:σ.ok w1)(h':Inv C S' ρ' σ' own' hv' w0 (σ0.rnd σ own w1 t X) A' a' w'){k:Nat}(hk:k<w1.heap.size)(ho:own k=none)(hX:¬X k):w'.heap[k]?=w1.heap[k]?:=by
 by_cases hd:σ.m k=some cr
 ·exact Inv.markSame au h'.ok h'.le hd
 ·obtain⟨t',fx,cx,hf,_⟩:=h'.frame;obtain⟨_,f2,_,_,f5⟩:=hf.F;exact f5 k ((f2 k).2 ⟨hk,ho,hd,hX⟩)
theorem Inv.rndBelow {w1:World}{t:D}(h:Inv C S ρ σ own hv w0 σ0 A a w1)(h':Inv C S' ρ' σ' own' hv' w0 (σ0.rnd σ own w1 t X) A' a' w'):Below 0 w1 w':=by
 obtain⟨t',fx,cx,hf,_⟩:=h'.frame;obtain⟨_,_,_,f4,_⟩:=hf.F;exact⟨h'.below.os.trans h.below.os.symm,h'.below.tape.trans h.below.tape.symm,h'.below.output.trans h.below.output.symm,f4,fun k hk=>by omega⟩
theorem Inv.rndOwn {w1:World}{t:D}(h':Inv C S' ρ' σ' own' hv' w0 (σ0.rnd σ own w1 t X) A' a' w'){k j:Nat}(hk:own' k=some j)(hX:¬X k):(∃i,own k=some i)∨w1.heap.size≤k:=by
 obtain⟨t',fx,cx,hf,_⟩:=h'.frame;obtain⟨_,f2,_,_,_⟩:=hf.F;cases e:own k with
 |some i=>exact .inl ⟨i,rfl⟩
 |none=>
  refine .inr (Nat.le_of_not_lt fun af=>?_);by_cases hd:σ.m k=some cr
  ·have:=(h'.owns k j hk).2.2.2;rw[h'.le.m k _ hd] at this;cases this
  ·exact hf.own k j hk ((f2 k).2 ⟨af,e,hd,hX⟩)
theorem Inv.rndC {w1:World}{t:D}(h':Inv C S' ρ' σ' own' hv' w0 (σ0.rnd σ own w1 t X) A' a' w'){k:Nat}(hk:(∃o x,σ'.c k o=some x)∨∃x,σ'.m k=some x)(hX:¬X k):(∃o x,σ.c k o=some x)∨(∃x,σ.m k=some x)∨(∃i,own k=some i)∨w1.heap.size≤k:=by
 obtain⟨t',fx,cx,hf,_⟩:=h'.frame;obtain⟨_,f2,f3,_,_⟩:=hf.F;cases e:own k with
 |some i=>exact .inr (.inr (.inl ⟨i,rfl⟩))
 |none=>
  by_cases hm:∃x,σ.m k=some x
  ·exact .inr (.inl hm)
  by_cases hc:∃o x,σ.c k o=some x
  ·exact .inl hc
  refine .inr (.inr (.inr (Nat.le_of_not_lt fun af=>?_)));have VJ:σ.m k=none:=by
   cases e2:σ.m k with
   |none=>rfl
   |some x=>exact absurd ⟨x,e2⟩ hm
  have ke:cx k:=(f3 k).2 ⟨(f2 k).2 ⟨af,e,by rw[VJ];simp,hX⟩,fun o=>by
   cases e2:σ.c k o with
   |none=>rfl
   |some x=>exact absurd ⟨o,x,e2⟩ hc,VJ⟩
  rcases hk with⟨o,x,hk⟩|⟨x,hk⟩
  ·exact hf.c k o x hk ke
  ·exact hf.m k x hk ke
theorem Inv.ofRnd {w1:World}(h:Inv C S ρ σ own hv w0 σ0 A a w1){t:D}{fx cx:Nat→Prop}(cQ:FrOK σ own w0.heap.size σ0 w1 t fx cx)(hX:∀k,fx k→¬X k)(h':Inv C S' ρ' σ' own' hv' w0 (σ0.rnd σ own w1 t X) A' a' w'):
 Inv C S' ρ' σ' own' hv' w0 σ0 A' a' w':=by
 have hb:=h.rndBelow h';have kc:=h';obtain⟨t',ma,jL,hf,ht⟩:=kc.frame;obtain⟨f1,f2,f3,f4,f5⟩:=hf.F;have af:=σ0.lt _ _ _ _ cQ.F;have bM:=σ0.sub _ _ _ _ cQ.F
 have oE:∀k,fx k→own k=none:=fun k hk=>by
  cases e:own k with
  |none=>rfl
  |some j=>exact absurd hk (cQ.own k j e)
 have kN:∀k,cx k→¬((∃o x,σ'.c k o=some x)∨∃x,σ'.m k=some x):=fun k hk hc=>by
  have h1:=bM k hk;rcases Inv.rndC h' hc (hX k h1) with⟨o,x,e⟩|⟨x,e⟩|⟨j,e⟩|e
  ·exact cQ.c k o x e hk
  ·exact cQ.m k x e hk
  ·exact cQ.own k j e h1
  ·have:=af k h1;omega
 refine⟨h'.defers,h'.ok,h.le.trans h'.le,h.old,fun k o x e=>(h'.newc k o x e).elim (h.newc k o x) .inr,fun k x e=>(h'.newm k x e).elim (h.newm k x) .inr,h'.below,h'.bw,h'.owns,h'.regs,h'.objs,h'.opts,t,fx,cx,
  ⟨σ0.keep _ _ _ _ _ cQ.F hb fun k hk=>Inv.rndSame h.ok h' (af k hk) (oE k hk) (hX k hk),fun k j hk kg=>?_,fun k o x e hc=>kN k hc (.inl ⟨o,x,e⟩),fun k x e hc=>kN k hc (.inr ⟨x,e⟩),fun k e hB kg=>?_⟩,fun j hj=>⟨(ht j hj).1,by rw[(ht j hj).2,f1]⟩⟩
 ·rcases Inv.rndOwn h' hk (hX k kg) with⟨i,e⟩|e
  ·exact cQ.own k i e kg
  ·have:=af k kg;omega
 ·by_cases hd:σ.m k=some cr
  ·exact cQ.d k hd hB kg
  ·exact hf.d k e hB ((f2 k).2 ⟨af k kg,oE k kg,hd,hX k kg⟩)
theorem Inv.restore (h:Inv C S ρ σ own hv w0 σ0 A a w)(hn:∀t gs s,S.r t≠.opt gs s)(hd:j6 σ w0.heap.size a'.defers)(hr:∀t,isNone (S.r t)=false→a'.tmps.getD t undef=a.tmps.getD t undef∧ρ'.r t=ρ.r t)(ho:∀j,nm (S.o j)=false→ρ'.o j=ρ.o j):
 Inv C S ρ' σ own hv w0 σ0 (fun _=>False) a' w:=by
 refine⟨hd,h.ok,h.le,h.old,h.newc,h.newm,h.below,h.bw,h.owns,fun t=>?_,fun j=>?_,fun t gs s e=>absurd e (hn t gs s),?_⟩
 ·cases hs:isNone (S.r t) with
  |true=>cases hc:S.r t<;>rw[hc] at hs<;>simp[isNone] at hs;trivial
  |false=>
   rw[(hr t hs).1,(hr t hs).2];exact aD.mono' (.refl σ) (.refl S hv) (hn t) (h.regs t)
 ·cases hs:nm (S.o j) with
  |true=>cases hc:S.o j<;>rw[hc] at hs<;>simp[nm] at hs;trivial
  |false=>exact(h.objs j).mono (.refl σ) (.refl S hv) rfl (ho j hs) (fun k hk=>⟨hk,rfl⟩)
 ·obtain⟨t,fx,cx,h1,h2⟩:=h.frame;exact⟨t,fx,cx,h1,fun j hj=>⟨(h2 j hj).1,by rw[ho j (by rw[hj];rfl)];exact(h2 j hj).2⟩⟩
theorem j6.mem {σ:Im}{B:Nat}:∀{ds:List Deferred} {d:Deferred},d∈ds→j6 σ B ds→∃D,d={target:=.collected D,args:=#[]}∧σ.m D=some cr
 |x::ds,d,hm,⟨⟨D,h1,h2,_⟩,h⟩=>by
  rcases cM.1 hm with e|e
  ·subst e;exact⟨D,h1,h2⟩
  ·exact j6.mem e h
def Im.mark (σ:Im)(D:Nat):Im:=⟨σ.c,fun k=>if k=D then some cr else σ.m k⟩
theorem Ud (w:World)(o1 o2:Obj):Below w.heap.size w ((w.alloc o1).alloc o2):=(((Below.refl _ w).alloc (aW _) o1).alloc (by simp) o2)
theorem Inv.enter (h:Inv C S ρ σ own hv w0 σ0 A a w)(r:Loop):
 Inv C S ρ (σ.mark w.heap.size) own hv w0 σ0 A {a with defers:={target:=.collected w.heap.size,args:=#[]}::a.defers} ((w.alloc (.deferred (some []))).alloc (.loop r)):=by
 have hD:((w.alloc (.deferred (some []))).alloc (.loop r)).heap[w.heap.size]?=some (.deferred (some [])):=(Below.heap_alloc _ _ _ (by simp)).trans (World.alloc_heap_new w _);have hle:σ.le (σ.mark w.heap.size):=by
  refine⟨fun _ _ _ e=>e,fun k x e=>?_⟩;have:k≠w.heap.size:=by have:=h.ltm e;omega
  simp[Im.mark,this,e]
 have vD:∀k x,(σ.mark w.heap.size).m k=some x→σ.m k=some x∨(k=w.heap.size∧x=cr):=by
  intro k x e;simp only[Im.mark] at e;split at e
  ·rename_i e2;cases e;exact .inr ⟨e2,rfl⟩
  ·exact .inl e
 have hb:=Ud w (.deferred (some [])) (.loop r);have au:(σ.mark w.heap.size).ok ((w.alloc (.deferred (some []))).alloc (.loop r)):=by
  have h1:=h.ok.below hb;refine⟨h1.c,fun k x e=>?_,h1.f⟩;rcases vD k x e with e|⟨rfl,rfl⟩
  ·exact h1.m k x e
  ·exact .inr (.inl ⟨rfl,hD⟩)
 have hw:=h.world hle au hb (fun _ _ _ e=>.inl e) (fun k x e=>(vD k x e).imp id fun e=>by omega);have m0:=hw.defers;refine⟨⟨⟨_,rfl,by simp[Im.mark],h.below.size,fun hm=>?_⟩,m0⟩,hw.ok,hw.le,hw.old,hw.newc,hw.newm,hw.below,hw.bw,hw.owns,hw.regs,hw.objs,hw.opts,hw.frame⟩;obtain⟨D,e1,e2⟩:=j6.mem hm h.defers;have:D=w.heap.size:=by cases e1;rfl
 subst this;have:=h.ltm e2;omega
end
end Cx
