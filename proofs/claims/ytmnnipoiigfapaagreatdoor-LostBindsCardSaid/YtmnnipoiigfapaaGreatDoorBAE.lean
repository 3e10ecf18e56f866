/-
  Shared texts of this claim.
-/
import Derived.Test.YtmnnipoiigfapaaGreatDoorBAD
import Derived.Tactics
import Derived.RangeFuncIn
import Derived.OrdersIn
import Derived.RangeFuncRecord
set_option linter.unusedSimpArgs false
set_option linter.unusedVariables false
namespace Cx
open Go Go.RowKit
inductive Gh where
 |fz (j:Nat)|fbox (b:Nat)|rereg (t j:Nat)|recell (b i j:Nat)|home (b i j:Nat) (T:TypeId)
def Gh.run (C:Ctx)(S:St):Gh→Option (St×List PI)
 |.fz j=>some (S.fz j,[])
 |.fbox b=>DJ S b
 |.rereg t j=>yo S t j
 |.recell b i j=>Gq S b i j
 |.home b i j T=>Er C S b i j T
def jQ (C:Ctx):List Gh→St→Option (St×List PI)
 |[],S=>some (S,[])
 |g::gs,S=>(g.run C S).bind fun r=>(jQ C gs r.1).map fun q=>(q.1,r.2++q.2)
theorem oY {Φ:aR}:∀{a b:List PI} {ρ:Env},PI.runs Φ (a++b) ρ=(PI.runs Φ a ρ).bind (PI.runs Φ b)
 |[],b,ρ=>by simp[PI.runs]
 |x::a,b,ρ=>by
  simp only[GY,PI.runs];cases x.run Φ ρ with
  |none=>rfl
  |some ρ1=>simp[oY (a:=a) (b:=b)]
def qd (S:St)(ops:Array Oper)(o:Oper):Option (List (Nat×Bool)):=
 match o.guard with
 |none=>some []
 |some (j,want)=>
  match(ops[j]?).bind (·.dst) with
  |some t=>
   match S.r t with
   |.dat .bool=>some [(t,want)]
   |.opt gs (.dat .bool)=>some ((t,want)::gs)
   |_=>none
  |none=>none
def vz (S:St)(gs:List (Nat×Bool)):Op→List Nat
 |.build _ ps=>bP S gs (ps.toList.map (·.2))
 |.buildSlice _ _ ps=>bP S gs (ps.toList.map (·.2))
 |.box _ x=>match fC S gs x with|.agg _=>[]|_=>bP S gs [x]
 |.pick _ x y=>bP S gs [x,y]
 |.slice _ x _ _ _=>bP S gs [x]
 |.mapUpdate _ _ k v=>bP S gs [k,v]
 |.insert _ _ k v=>bP S gs [k,v]
 |.store _ x v=>match fC S gs x with|.eptr ..=>bP S gs [v]|_=>[]
 |_=>[]
def CZ:List Sh→List Nat
 |[]=>[]
 |.obj j _::r=>j::CZ r
 |_::r=>CZ r
def Hm (S:St)(gs:List (Nat×Bool)):List Operand→List Nat
 |[]=>[]
 |x::xs=>
  match fC S gs x with
  |.ptr j ver off=>bif Nat.beq ver (S.ver j)&&(match S.o j with|.box ..=>true|_=>false) then j::Hm S gs xs else Hm S gs xs
  |_=>Hm S gs xs
def abM (C:Ctx):Fn→Bool
 |.func f=>(match C.sig f with|some s=>qq s.mode|none=>false)
 |_=>false
theorem aqo {α:Type}{b:Bool}{x:α}{l:List α}(h:x∈bif b then[] else l):x∈l:=by
 cases b with
 |true=>cases h
 |false=>exact h
def pre (C:Ctx)(S:St)(gs:List (Nat×Bool))(op:Op):List Gh:=
 match op with
 |.makeFunc fn _ caps=>
  bif abM C fn then[] else(Hm S gs caps.toList).flatMap fun b=>(match S.o b with|.box _ shs=>(CZ shs).map .fz|_=>[])++[.fbox b]
 |.load T x=>
  match fC S gs x,qp C.P T,C.P.info? T with
  |.ptr j _ off,some true,some inf=>bif MN C j then[] else(match S.o j with|.box _ shs=>((CZ ((shs.drop off).take inf.size)).filter fun j=>lb (S.o j)).map .fz|_=>[])
  |_,_,_=>[]
 |op=>(vz S gs op).map .fz
def qB (C:Ctx)(S:St)(gs:List (Nat×Bool))(o:Oper):List Gh:=
 match o.op,o.dst with
 |.assign x,some t=>bif C.fr.any (Nat.beq t) then(bP S gs [x]).map .fz else[]
 |_,_=>[]
def NR (P:Program):Nat→TypeId→List (Option TypeId)
 |0,_=>[]
 |n+1,t=>
  match P.underlying t with
  |some (.struct fs)=>fs.toList.flatMap fun f=>NR P n f.type
  |some (.array len e)=>(List.replicate len (NR P n e)).flatten
  |some (.slice e)=>[some e]
  |_=>[none]
def homes (P:Program)(b off:Nat)(T:TypeId):List Gh:=
 ((NR P 12 T).zipIdx).filterMap fun x=>x.1.map fun e=>.home b (off+x.2) (gy b (off+x.2)) e
def J6 (nh:List Nat)(l:List Gh):List Gh:=l.filter fun g=>match g with|.home _ _ j _=> !(nh.any (Nat.beq j))|_=>true
def aeW (b off n:Nat):List Gh:=(List.range n).map fun i=>.recell b (off+i) (gy b (off+i))
def post (C:Ctx)(S:St)(o:Oper):List Gh:=
 match o.op,o.dst with
 |.assign _,some t=>[.rereg t t]
 |.alloc T,some t=>J6 C.nh (homes C.P t 0 T)
 |.store T x _,_=>
  match fC S [] x with
  |.ptr j _ off=>J6 C.nh (homes C.P j off T)++aeW j off (match C.P.info? T with|some i=>i.size|none=>0)
  |_=>[]
 |_,_=>[]
def rQ:Sh→Bool
 |.opt ..=>false
 |_=>true
def uJ (C:Ctx)(S:St)(dst:Nat)(T:TypeId)(x:Operand):kM:=
 match x with
 |.const v=>(pk C.P T).bind fun t=>(po t).bind fun z=>bif jH t v then some (S.setR dst (.dat z.1),[.setR dst (.con z.2)]) else none
 |_=>none
def core (C:Ctx)(S:St)(gs:List (Nat×Bool))(o:Oper):Option (St×List PI):=
 match o.dst with
 |some dst=>
  match oM C S gs dst o.op with
  |some r=>bif rQ r.1 then some (S.setR dst (ji gs r.1),r.2) else none
  |none=>
   match o.op,gs with
   |.assign x,[]=>
    bif C.fr.any (Nat.beq dst) then
          match qy C S [] dst x with
          |some r=>some (S.setR dst r.1,r.2)
          |none=>uJ C S dst o.type x
    else
    match Dr C S dst o.type x with
    |some r=>some r
    |none=>
     match qy C S [] dst x with
     |some r=>some (S.setR dst r.1,r.2)
     |none=>uJ C S dst o.type x
   |.alloc T,[]=>Dg C S dst T
   |.box T x,[]=>Di C S dst T x
   |.buildSlice T n ps,gs=>
    match gs with
    |[]=>wF C S [] dst T n ps.toList
    |_=>Ah C S gs dst T n ps.toList
   |.makeSlice T l c,[]=>Dp C S dst T l c
   |.makeMap T r,[]=>Dn C S dst T r
   |.range T x,[]=>Ds C S dst T x
   |.convert T U x,[]=>Dj C S dst T U x
   |.call c,gs=>
    match c.callee,gs with
    |.builtin .append,[]=>
     match c.args.toList,c.argTypes.toList with
     |[s,x],[T,T']=>bif Nat.beq T T' then Dh C S dst T s x else none
     |_,_=>none
    |.value (.func f),gs=>
     match pZ C S gs dst f c.args.toList with
     |some r=>some (r.1.setR dst (ji gs r.2.1),r.2.2)
     |none=>
      match gs with
      |[]=>
       match Dl C S dst f c.args.toList with
       |some r=>some r
       |none=>
        match Dm C S dst f c.args.toList with
        |some r=>some r
        |none=>
        match Dk C S dst f c.args.toList with
        |some r=>some r
        |none=>(rj C S f c.args.toList []).map (qx S (some dst))
      |_=>none
    |.value x,gs=>
     match om C S gs dst x c.args.toList with
     |some r=>some (r.1.setR dst (ji gs r.2.1),r.2.2)
     |none=>
      match x,gs with
      |.tmp t,[]=>(Ag C S t c.args.toList).map (qx S (some dst))
      |_,_=>none
    |_,_=>none
   |.makeFunc fn first caps,[]=>Dq C S dst fn first caps
   |_,_=>none
 |none=>
  match o.op,gs with
  |.store T x v,[]=>uI C S T x v
  |.mapUpdate T m k v,[]=>sX C S T m k v
  |.insert T m k v,[]=>sX C S T m k v
  |.panic _,[]=>some (S,[.chk (.nt (.con (.bool true)))])
  |.call c,[]=>
   match c.callee with
   |.value (.func f)=>(rj C S f c.args.toList []).map (qx S none)
   |.value (.tmp t)=>(Ag C S t c.args.toList).map (qx S none)
   |_=>none
  |_,_=>none
def adm (dst:Nat)(l:List PI):Bool:=l.all fun p=>p.modR.all (Nat.beq dst)&&p.modO.isEmpty
def jk (gs:List (Nat×Bool))(dst:Option Nat)(l:List PI):Bool:=
 match gs,dst with
 |[],_=>true
 |_,some d=>adm d l
 |_,none=>false
def C9 (C:Ctx)(S:St)(ops:Array Oper)(o:Oper):Option (St×List PI):=
 (qd S ops o).bind fun gs=>
 (jQ C (pre C S gs o.op++qB C S gs o) S).bind fun r1=>
 (core C r1.1 gs o).bind fun r2=>
 (jQ C (post C r2.1 o) r2.1).bind fun r3=>
 bif jk gs o.dst r2.2 then some (r3.1,r1.2++r2.2++r3.2) else none
def GG:PI:=.chk (.con (.v (.bool false)))
def Ac (C:Ctx)(S:St)(ops:Array Oper)(o:Oper):Option (St×List PI):=
 match C9 C S ops o with
 |some r=>some r
 |none=>some (match o.dst with|some d=>S.setR d .none|none=>S,[GG])
section
variable {C:Ctx} {S:St} {ρ:Env} {σ:Im} {own:Nat→Option Nat} {hv:Nat→Value} {w0:World} {σ0:Base} {A:Nat→Prop} {a:Act} {w:World} {gs:List (Nat×Bool)} {Φ:aR} {dst:Nat}
theorem Gh.sound {g:Gh}{r:St×List PI}(h:Good C w0 σ0 S ρ A a w)(hr:g.run C S=some r):Cr C w0 σ0 Φ S ρ A a w r:=by
 obtain⟨σ,own,hv,h⟩:=h;cases g with
 |fz j=>
  simp only[Gh.run,aT] at hr;subst hr;intro ρ' ak;rw[nQ ak];obtain⟨σ',own',_,h'⟩:=h.fz j;exact⟨σ',own',hv,h'⟩
 |fbox b=>exact akM h hr
 |rereg t j=>exact asW h hr
 |recell b i j=>exact asV h hr
 |home b i j T=>exact am2 h hr
theorem Ou:∀(l:List Gh) {S:St} {ρ ρ':Env} {r:St×List PI},Good C w0 σ0 S ρ A a w→jQ C l S=some r→PI.runs Φ r.2 ρ=some ρ'→Good C w0 σ0 r.1 ρ' A a w
 |[],S,ρ,ρ',r,h,hr,ak=>by
  simp only[jQ,aT] at hr;subst hr;rw[nQ ak];exact h
 |g::l,S,ρ,ρ',r,h,hr,ak=>by
  simp only[jQ,av,aC] at hr;obtain⟨q,hq,q2,jr,rfl⟩:=hr;simp only[oY,av] at ak;obtain⟨ρ1,h1,h2⟩:=ak;exact Ou (r:=q2) l (Gh.sound (Φ:=Φ) h hq ρ1 h1) jr h2
theorem YK (h:Good C w0 σ0 S ρ A a w){ops:Array Oper}{o:Oper}(hg:qd S ops o=some gs):Region.wanted o (yielded ops a.tmps)=holds gs ρ:=by
 obtain⟨σ,own,hv,h⟩:=h;unfold qd at hg;unfold Region.wanted;split at hg
 ·rename_i e;cases hg;simp[e,holds]
 ·rename_i j want e;simp only[e];split at hg
  case h_2=>cases hg
  rename_i t ht;have gg:=h.regs t;have hy:∀v,a.tmps.getD t undef=v→(∀b,v=.bool b→yielded ops a.tmps j=some b)∧(v=undef→yielded ops a.tmps j=none):=by
   intro v hv';unfold yielded;rw[ht];simp only[kl];rw[dT] at hv';cases rC:a.tmps[t]? with
   |none=>rw[rC] at hv';simp at hv';subst hv';exact⟨fun b e=>absurd e (by simp[undef]),fun _=>rfl⟩
   |some u=>rw[rC] at hv';simp at hv';subst hv';exact⟨fun b e=>by subst e;rfl,fun e=>by subst e;rfl⟩
  split at hg
  ·rename_i es;cases hg;rw[es] at gg;obtain⟨b,gL,de⟩:=Rep.bool_inv gg;rw[(hy _ gL).1 b rfl];simp[holds,de,D.b_bool]
  ·rename_i bM es;cases hg;rw[es] at gg;simp only[holds,qV];cases hh:holds bM ρ with
   |true=>
    obtain⟨b,gL,de⟩:=Rep.bool_inv (gg.1 hh);rw[(hy _ gL).1 b rfl];unfold holds at hh;rw[hh,de];simp[D.b_bool]
   |false=>
    rw[(hy _ (gg.2 hh)).2 rfl];unfold holds at hh;rw[hh];simp
  ·cases hg
theorem YJ (h:Good C w0 σ0 S ρ A a w){ops:Array Oper}{o:Oper}(hg:qd S ops o=some gs)(hj:∀j want t,o.guard=some (j,want)→(ops[j]?).bind (·.dst)=some t→A t):∀g,g∈gs→A g.1:=by
 obtain⟨σ,own,hv,h⟩:=h;unfold qd at hg;split at hg
 ·cases hg;simp
 ·rename_i j want e;split at hg
  case h_2=>cases hg
  rename_i t ht;have hA:=hj j want t e ht;split at hg
  ·cases hg;intro g hm;simp at hm;subst hm;exact hA
  ·rename_i bM es;cases hg;intro g hm;rcases cC.1 hm with e'|fm
   ·subst e';exact hA
   ·exact(h.opts t bM _ es).1 g fm
  ·cases hg
theorem arn (h:Inv C S ρ σ own hv w0 σ0 A a w)(hC:CtxOK C σ0)(hg:holds gs ρ=true){o:Oper}{r:Sh×List PI}(hr:oM C S gs dst o.op=some r):eu C S ρ σ hv Φ dst a w o r:=by
 unfold oM at hr;split at hr
 ·rename_i x e;exact adq h hC hg hr (.inl e)
 ·rename_i c x y e;exact arl h hC hg hr e
 ·rename_i op T x y T' e;exact aqU h hC hg hr e
 ·rename_i op T x e;exact ars h hC hg hr e
 ·rename_i s d x e;exact aqY h hC hg hr e
 ·rename_i T x e;exact E2 h hC hg hr e
 ·rename_i T x i e;exact aq2 h hC hg hr e
 ·rename_i T x i e;exact aq4 h hC hg hr e
 ·rename_i T x i e;exact aq7 h hC hg hr e
 ·rename_i T x i e;exact aq9 h hC hg hr e
 ·rename_i x i e;exact aq0 h hC hg hr e
 ·rename_i T m k ok e;exact arh h hC hg hr e
 ·rename_i T x lo hi mx e;exact arp h hC hg hr e
 ·rename_i f a b e;exact aq5 h hC hg hr e
 ·rename_i T ps e;exact aqW h hC hg hr e
 ·rename_i x e;exact arj h hC hg hr e
 ·cases hr;intro ρ' ak;have:=(Tw hg ak).1;cases this
 ·rename_i c e;split at hr
  ·rename_i x T hc ha ht;refine arb h hC hg hr ?_;rw[e];cases c with|mk callee args argTypes=>
   simp only at hc ha ht;have h1:args=#[x]:=by rw[←ur];exact ha
   have h2:argTypes=#[T]:=by rw[←ur];exact ht
   rw[hc,h1,h2]
  ·rename_i x y hc ha;refine ado (ts:=c.argTypes) h hC hg hr ?_;rw[e];cases c with|mk callee args argTypes=>
   simp only at hc ha;have h1:args=#[x,y]:=by rw[←ur];exact ha
   rw[hc,h1];rfl
  ·rename_i x y hc ha;refine ado (ts:=c.argTypes) h hC hg hr ?_;rw[e];cases c with|mk callee args argTypes=>
   simp only at hc ha;have h1:args=#[x,y]:=by rw[←ur];exact ha
   rw[hc,h1];rfl
  ·cases hr
 ·cases hr
theorem aiW (h:Inv C S ρ σ own hv w0 σ0 A a w)(ht:¬A dst)(af:dst<a.tmps.size){T:TypeId}{x:Operand}{r:St×List PI}(hr:uJ C S dst T x=some r){o:Oper}(hd:o.dst=some dst)(ho:o.op=.assign x):bW C w0 σ0 Φ S ρ A a w o r:=by
 unfold uJ at hr;split at hr
 case h_2=>cases hr
 rename_i v;simp only[av] at hr;obtain⟨t,_,z,hz,hr⟩:=hr;cases hc:jH t v<;>simp only[hc,cond_true,cond_false] at hr
 ·cases hr
 cases hr;have bS:=(yG (cap:=C.cap) (σ:=σ) hz hc).1;refine bW.value hd fun ρ' ak=>⟨v,w,by simp[execOp,ho,Act.eval],?_⟩
 have hρ:ρ'=ρ.setR dst z.2:=by simp[PI.runs,PI.run,PE.ev] at ak;exact ak.symm
 subst hρ;exact⟨_,_,_,h.setReg ht (s:=.dat z.1) bS af (fun _ _ e=>by cases e)⟩
theorem ah4 (h:Inv C S ρ σ own hv w0 σ0 A a w)(hC:CtxOK C σ0)(ba:dp C)(hΦ:dc C Φ){o:Oper}(ht:∀d,o.dst=some d→¬A d∧d<a.tmps.size)(dN:∀g,g∈gs→A g.1)(hg:holds gs ρ=true){r:St×List PI}
 (hr:core C S gs o=some r):bW C w0 σ0 Φ S ρ A a w o r:=by
 unfold core at hr;split at hr
 ·rename_i dst hd;obtain⟨gh,gi⟩:=ht dst hd;split at hr
  ·rename_i q hq;cases dD:rQ q.1<;>simp only[dD,cond_true,cond_false] at hr
   ·cases hr
   cases hr;have Z3:=arn (Φ:=Φ) h hC hg hq;cases gs with
   |nil=>exact Z3.eff h gh gi hd
   |cons g bM=>exact Z3.effG h gh gi dN hg hd
  ·rename_i Pk;clear Pk;split at hr
   ·rename_i x e
    have mv:∀r,(match qy C S [] dst x with|some r=>some (S.setR dst r.1,r.2)|none=>uJ C S dst o.type x)=some r→bW C w0 σ0 Φ S ρ A a w o r:=by
     intro r hr;split at hr
     ·rename_i q hq;cases hr;exact(adq (Φ:=Φ) h hC hg hq (.inr e)).eff h gh gi hd
     ·exact aiW h gh gi hr hd e
    cases da:C.fr.any (Nat.beq dst)<;>simp only[da,cond_true,cond_false] at hr
    ·split at hr
     ·rename_i q hq;cases hr;exact aiQ h hC gh gi hq hd e
     ·exact mv r hr
    ·exact mv r hr
   ·rename_i T e;exact aim h gh gi hr hd e
   ·rename_i T x e;exact aiq h hC gh gi hr hd e
   ·rename_i T n ps e;split at hr
    ·exact ais h hC gh gi hr hd e
    ·exact aiI h hC gh gi dN hg hr hd e
   ·rename_i T l c e;exact aiM h hC gh gi hr hd e
   ·rename_i T m e;exact aiK h gh gi hr hd e
   ·rename_i T x e;exact aiS h gh gi hr hd e
   ·rename_i T U x e;exact aiu h hC gh gi hr hd e
   ·rename_i c e;cases c with|mk callee args argTypes=>
    split at hr
    ·rename_i hc;simp only at hc;split at hr
     ·rename_i s x T T' ha PW;simp only at ha PW;cases hT:Nat.beq T T'<;>simp only[hT,cond_true,cond_false] at hr
      ·cases hr
      have At:=aB hT;subst At;refine aio h hC gh gi hr hd ?_;have h1:args=#[s,x]:=by rw[←ur];exact ha
      have h2:argTypes=#[T,T]:=by rw[←ur];exact PW
      rw[e,hc,h1,h2]
     ·cases hr
    ·rename_i f hc;simp only at hc;split at hr
     ·rename_i q hq;cases hr;exact aiG h hC ba hΦ gh gi dN hg hq hd (by rw[e,hc])
     ·split at hr
      ·split at hr
       ·rename_i q hq;cases hr;exact aiB h hC ba hΦ gh gi hq hd (by rw[e,hc])
       ·split at hr
        ·rename_i q hq;cases hr;exact aiD h hC ba hΦ gh gi hq hd (by rw[e,hc])
        split at hr
        ·rename_i q hq;cases hr;exact aiz h hC ba hΦ gh gi hq hd (by rw[e,hc])
        ·simp only[aC] at hr;obtain⟨q,hq,rfl⟩:=hr;rw[←hd];exact XZ h hC ba hΦ ht hq (by rw[e,hc])
      ·cases hr
    ·rename_i x JM hc;simp only at hc;split at hr
     ·rename_i q hq;cases hr;exact aix h hC ba hΦ gh gi dN hg hq hd (by rw[e,hc])
     ·split at hr
      ·simp only[aC] at hr;obtain⟨q,hq,rfl⟩:=hr;rw[←hd];exact XX h hC ba hΦ ht hq (by rw[e,hc])
      ·cases hr
    ·cases hr
   ·rename_i fn first caps e;exact aiO h gh gi hr hd e
   ·cases hr
 ·rename_i hd;split at hr
  ·rename_i T x v e;exact aiU h hC hr hd e
  ·rename_i T m k v e;exact X1 h hC hr hd (.inl e)
  ·rename_i T m k v e;exact X1 h hC hr hd (.inr e)
  ·cases hr;intro ρ' ak;simp[PI.runs,PI.run,PE.ev,D.bool,D.b] at ak
  ·rename_i c e;cases c with|mk callee args argTypes=>
   split at hr
   ·rename_i f hc;simp only at hc;simp only[aC] at hr;obtain⟨q,hq,rfl⟩:=hr;rw[←hd];exact XZ h hC ba hΦ ht hq (by rw[e,hc])
   ·rename_i t hc;simp only at hc;simp only[aC] at hr;obtain⟨q,hq,rfl⟩:=hr;rw[←hd];exact XX h hC ba hΦ ht hq (by rw[e,hc])
   ·cases hr
  ·cases hr
theorem ah2 {g:Nat×Bool}{bM:List (Nat×Bool)}{o:Oper}{r:St×List PI}(hr:core C S (g::bM) o=some r):
 ∃dst S2 s,o.dst=some dst∧r.1=S2.setR dst (.opt (g::bM) s)∧((∃js,S2=S.fzs js)∨∃j,S2=S.newO j .dead)∧(∀gs s',s≠.opt gs s')∧(∀x,o.op≠.assign x)∧(∀T,o.op≠.alloc T)∧∀T x v,o.op≠.store T x v:=by
 unfold core at hr;split at hr
 ·rename_i dst hd;split at hr
  ·rename_i q hq;cases dD:rQ q.1<;>simp only[dD,cond_true,cond_false] at hr
   ·cases hr
   cases hr;refine⟨dst,S,q.1,hd,rfl,.inl ⟨[],rfl⟩,(fun gs s' e=>by rw[e] at dD;cases dD),fun x e=>?_,fun T e=>?_,fun T x v e=>?_⟩<;>(rw[e] at hq;simp[oM] at hq)
  ·rename_i Pk;clear Pk;split at hr
   case h_4=>
        rename_i T n ps e;split at hr
        ·rename_i hx;cases hx
        ·unfold Ah at hr;split at hr
         case h_2=>cases hr
         simp only[av] at hr;obtain⟨e0,Zm,hr⟩:=hr;split at hr
         ·cases hr;exact⟨dst,_,.dat (.slice e0.rol),hd,rfl,.inr ⟨dst,rfl⟩,(fun _ _ e=>by cases e),(fun x e'=>by rw[e] at e';cases e'),(fun x e'=>by rw[e] at e';cases e'),(fun _ _ _ e'=>by rw[e] at e';cases e')⟩
         ·cases hr
   case h_9=>
        rename_i c e;split at hr
        ·rename_i hx;cases hx
        ·rename_i f hc;split at hr
         ·rename_i q hq;cases hr;simp only[pZ,av] at hq;obtain⟨s,hs,hq⟩:=hq;split at hq
          case h_2=>cases hq
          simp only[av] at hq;obtain⟨u,hu,hq⟩:=hq;cases bN:Ty.subs u.1 s.args<;>simp only[bN,cond_true,cond_false] at hq
          ·cases hq
          cases hq;refine⟨dst,_,.dat s.res,hd,rfl,?_,(fun _ _ e=>by cases e),(fun x e'=>by rw[e] at e';cases e'),(fun x e'=>by rw[e] at e';cases e'),(fun _ _ _ e'=>by rw[e] at e';cases e')⟩;left;cases s.res.pure
          ·exact⟨_,rfl⟩
          ·exact⟨[],rfl⟩
         ·cases hr
        ·rename_i x JM hc;have hr:∃q,om C S (g::bM) dst x c.args.toList=some q∧(q.1.setR dst (ji (g::bM) q.2.1),q.2.2)=r:=by
          split at hr
          ·rename_i q hq;cases hr;exact⟨q,hq,rfl⟩
          ·split at hr
           all_goals (first|(cases hr;done)|(rename_i hx;cases hx;done)|(rename_i hx _;cases hx;done)|(rename_i hx _ _;cases hx;done)|(rename_i hx;exact absurd hx (by simp)))
         obtain⟨q,hq,rfl⟩:=hr;unfold om at hq;split at hq
         case h_2=>cases hq
         rename_i aa r0 ee PY;split at hq
         case h_1=>cases hq
         simp only[av] at hq;obtain⟨u,hu,hq⟩:=hq;cases bN:Ty.subs u.1 aa<;>simp only[bN,cond_true,cond_false] at hq
         ·cases hq
         cases hq;refine⟨dst,_,.dat r0,hd,rfl,?_,(fun _ _ e=>by cases e),(fun x e'=>by rw[e] at e';cases e'),(fun x e'=>by rw[e] at e';cases e'),(fun _ _ _ e'=>by rw[e] at e';cases e')⟩;left;cases r0.pure
         ·exact⟨_,rfl⟩
         ·exact⟨[],rfl⟩
        ·cases hr
   all_goals (first|(cases hr;done)|(rename_i hx;cases hx;done)|(rename_i hx _;cases hx;done))
 ·split at hr
  all_goals (first|(cases hr;done)|(rename_i hx;cases hx;done)|(rename_i hx _;cases hx;done))
theorem ZW {ρ ρ1:Env}:∀{l:List (Nat×Bool)},(∀g,g∈l→ρ1.r g.1=ρ.r g.1)→holds l ρ1=holds l ρ
 |[],_=>rfl
 |x::l,h=>by
  have ih:=ZW (l:=l) fun y hy=>h y (di _ hy);unfold holds at ih ⊢;simp only[qV];rw[ih,h x (du ..)]
theorem YG:∀(l:List Gh) {S:St} {r:St×List PI},jQ C l S=some r→∀t,t∉r.2.flatMap PI.modR
 |[],S,r,hr=>by simp only[jQ,aT] at hr;subst hr;simp
 |g::l,S,r,hr=>by
  simp only[jQ,av,aC] at hr;obtain⟨q,hq,q2,jr,rfl⟩:=hr;have ih:=YG l jr;have hg:∀t,t∉q.2.flatMap PI.modR:=by
   cases g with
   |fz j=>simp only[Gh.run,aT] at hq;subst hq;simp
   |fbox b=>
    simp only[Gh.run,DJ] at hq;split at hq
    case h_2=>cases hq
    simp only[av] at hq;obtain⟨x,hx,hq⟩:=hq;rename_i ag shs eo;cases ag<;>simp only[cond_true,cond_false] at hq
    ·split at hq
     ·cases hq;simp[PI.modR]
     ·cases hq
    ·cases hq;simp[PI.modR]
   |rereg t j=>
    simp only[Gh.run,yo] at hq;split at hq
    ·rename_i j' ver es;cases hb:(Nat.beq ver (S.ver j')&&lb (S.o j')&& !Nat.beq j' j)<;>simp only[hb,cond_true,cond_false] at hq<;>cases hq<;>simp[PI.modR]
    ·cases hq;simp
   |recell b i j=>
    simp only[Gh.run,Gq] at hq;split at hq
    ·split at hq
     ·rename_i ag shs eo j' ver es;cases hb:(Nat.beq ver (S.ver j')&&lb (S.o j')&& !Nat.beq j' j&& !Nat.beq b j&& !Nat.beq b j')<;>simp only[hb,cond_true,cond_false] at hq<;>cases hq<;>simp[PI.modR]
     ·cases hq;simp
    ·cases hq;simp
   |home b i j T=>
    simp only[Gh.run,Er] at hq;split at hq
    ·split at hq
     ·cases hb:(!Nat.beq b j)<;>simp only[hb,cond_true,cond_false] at hq<;>cases hq<;>simp[PI.modR]
     ·cases hq;simp
    ·cases hq;simp
  intro t hm;rw[List.flatMap_append,dt] at hm;exact hm.elim (hg t) (ih t)
theorem ahV (h:Good C w0 σ0 S ρ A a w)(hC:CtxOK C σ0)(ba:dp C)(hΦ:dc C Φ){ops:Array Oper}{o:Oper}(ht:∀d,o.dst=some d→¬A d∧d<a.tmps.size)
 (hj:∀j want t,o.guard=some (j,want)→(ops[j]?).bind (·.dst)=some t→A t) {r:St×List PI} (hr:C9 C S ops o=some r) {ρ':Env} (ak:PI.runs Φ r.2 ρ=some ρ')
 {K:Act→World→Prop} {Q:Exit→Act→World→Prop} (hK:∀a' w',Good C w0 σ0 r.1 ρ' (fun u=>A u∨o.dst=some u) a' w'→a'.tmps.size=a.tmps.size→K a' w'):
 if Region.wanted o (yielded ops a.tmps) then o.wp C.P a w K Q else K (a.put o.dst undef) w:=by
 simp only[C9,av] at hr;obtain⟨gs,dN,r1,iS,r2,mz,r3,xl,hr⟩:=hr;have AG:=YJ h dN hj;rw[YK h dN];cases hc:jk gs o.dst r2.2<;>simp only[hc,cond_true,cond_false] at hr
 ·cases hr
 cases hr;simp only[oY,av] at ak;obtain⟨ρ2,⟨ρ1,hρ1,hρ2⟩,hρ3⟩:=ak;have h1:=Ou _ h iS hρ1;have cH:=h1;obtain⟨σ1,dh,aS,i1⟩:=cH;have Jw:holds gs ρ1=holds gs ρ:=by
  cases gs with
  |nil=>rfl
  |cons g bM=>
   have hb:=(PI.runs_but hρ1).r
   have:∀x,x∈(g::bM)→ρ1.r x.1=ρ.r x.1:=fun x hm=>hb x.1 (by
        intro cP;exact YG _ iS x.1 cP)
   exact ZW this
 cases hh:holds gs ρ with
 |true=>
  simp only[if_true];rw[hh] at Jw;refine ah4 i1 hC ba hΦ ht AG Jw mz ρ2 hρ2 K Q (fun a' w' fL aI=>?_);exact hK a' w' (Ou (r:=r3) _ fL xl hρ3) aI
 |false=>
  simp only[v5,if_false];rw[hh] at Jw;cases gs with
  |nil=>simp[holds] at hh
  |cons g bM=>
   obtain⟨dst,S2,s,hd,hS,wR,hns,n1,n2,n3⟩:=ah2 mz;obtain⟨t1,t2⟩:=ht dst hd;have kA:post C r2.1 o=[]:=by
        unfold post;split
        ·rename_i x t e _;exact absurd e (n1 x)
        ·rename_i T t e _;exact absurd e (n2 T)
        ·rename_i T x v e;exact absurd e (n3 T x v)
        ·rfl
   rw[kA] at xl;simp only[jQ,aT] at xl;subst xl;have:=nQ hρ3;subst this;obtain⟨σ2,iV,i2⟩:∃σ2 iV,Inv C S2 ρ1 σ2 iV aS w0 σ0 A a w:=by
        rcases wR with⟨js,rfl⟩|⟨j,rfl⟩
        ·obtain⟨σ2,iV,_,i2⟩:=Inv.fzs js i1;exact⟨σ2,iV,i2⟩
        ·exact⟨σ1,dh,i1.kill j⟩
   have Eu:=i2.passed t1 t2 AG Jw (s:=s) hns (ρ'.r dst);have hρe:ρ1.setR dst (ρ'.r dst)=ρ':=by
        have hb:=PI.runs_but hρ2;simp only[jk,hd] at hc;unfold adm at hc;rw[bK] at hc
        have e1:∀t,t≠dst→ρ'.r t=ρ1.r t:=fun t aE=>hb.r t (fun hm=>by
         obtain⟨p,hp,va⟩:=m5.1 hm;have:=hc p hp;simp only[aq] at this;have:=bK.1 this.1 t va;exact aE (aB this).symm)
        have e2:∀t,ρ'.o t=ρ1.o t:=fun t=>hb.o t (fun hm=>by
         obtain⟨p,hp,va⟩:=m5.1 hm;have:=hc p hp;simp only[aq] at this;have h9:=uy.1 this.2;rw[h9] at va;cases va)
        have r1:bV ρ1.r dst (ρ'.r dst)=ρ'.r:=by
         funext t;rw[eZ];split
         ·rename_i e;subst e;rfl
         ·rename_i aE;exact(e1 t aE).symm
        have r2:ρ1.o=ρ'.o:=funext fun t=>(e2 t).symm;cases ρ' with|mk a b=>simp only[Env.setR] at r1 r2 ⊢;rw[r1,r2]
   rw[hρe] at Eu;have gM:(fun u=>A u∨o.dst=some u)=(fun u=>A u∨u=dst):=by funext u;rw[hd];simp[eq_comm]
   rw[gM] at hK;rw[hd];refine hK _ _ ?_ (size_put _ _ _);simp only;rw[hS];exact⟨_,_,_,Eu⟩
theorem ahX (h:Good C w0 σ0 S ρ A a w)(hC:CtxOK C σ0)(ba:dp C)(hΦ:dc C Φ){ops:Array Oper}{o:Oper}(ht:∀d,o.dst=some d→¬A d∧d<a.tmps.size)
 (hj:∀j want t,o.guard=some (j,want)→(ops[j]?).bind (·.dst)=some t→A t) {r:St×List PI} (hr:Ac C S ops o=some r) {ρ':Env} (ak:PI.runs Φ r.2 ρ=some ρ')
 {K:Act→World→Prop} {Q:Exit→Act→World→Prop} (hK:∀a' w',Good C w0 σ0 r.1 ρ' (fun u=>A u∨o.dst=some u) a' w'→a'.tmps.size=a.tmps.size→K a' w'):
 if Region.wanted o (yielded ops a.tmps) then o.wp C.P a w K Q else K (a.put o.dst undef) w:=by
 unfold Ac at hr;split at hr
 ·rename_i q hq;cases hr;exact ahV h hC ba hΦ ht hj hq ak hK
 ·cases hr;simp[PI.runs,PI.run,GG,PE.ev,D.b_bool] at ak
end
end Cx
namespace Cx
open Go Go.RowKit
def oL:Op→Bool
 |.defer _=>false
 |_=>true
def FR (rd:Option Nat):Fence:={Fence.wide with round:=rd}
theorem XA {rd:Option Nat}{n:Nat}{P:Program}{f:FuncId}{args:Array Value}{w:World}{R:Ending→World→Prop}(h:Calls P f args w R):CallsIn (FR rd) n P f args w R:=
 (callsIn_wide (n:=n)).2 h
theorem ads {rd:Option Nat}{n:Nat}{P:Program}{o:Oper}{a:Act}{w:World}{K:Act→World→Prop}{Q:Exit→Act→World→Prop}(bq:oL o.op=true)(h:o.wp P a w K Q):o.wpIn (FR rd) n P a w K Q:=by
 refine⟨fun _ _=>trivial,?_⟩;rw[Oper.semAt_eq _ _ _ (fun c e=>by rw[e] at bq;cases bq)];unfold Oper.wp at h;generalize (execOp a.eval o).run P w=x at h;have dD:∀{p:Prop},((FR rd).depth.isSome=true→p):=fun e=>by cases e
 cases x with
 |ok v w'=>
  cases v with
  |value v=>exact h
  |skip=>exact h
  |defer d=>exact h
  |enter f args=>
   refine⟨dD,(XA h).mono fun e kK hh=>?_⟩;cases e<;>exact hh
  |row row args=>
   refine⟨dD,fun c cs _=>?_⟩;obtain⟨v,w2,h1,h2⟩:=h c cs;exact⟨v,w2,h1,stepsIn_wide.2 h2⟩
  |_=>exact h.elim
 |halt v w'=>
  cases v with
  |panic v=>exact h
  |_=>exact h.elim
structure SameBut (D:Nat→Prop) (a a':Act):Prop where
 size:a'.tmps.size=a.tmps.size
 get:∀t,¬D t→a'.tmps.getD t undef=a.tmps.getD t undef
theorem SameBut.refl (D:Nat→Prop)(a:Act):SameBut D a a:=⟨rfl,fun _ _=>rfl⟩
theorem SameBut.trans {D:Nat→Prop}{a b c:Act}(h:SameBut D a b)(k:SameBut D b c):SameBut D a c:=⟨k.size.trans h.size,fun t ht=>(k.get t ht).trans (h.get t ht)⟩
theorem SameBut.mono {D D':Nat→Prop}{a b:Act}(h:SameBut D a b)(hd:∀t,D t→D' t):SameBut D' a b:=⟨h.size,fun t ht=>h.get t fun e=>ht (hd t e)⟩
theorem SameBut.put (a:Act)(d:Option Tmp)(v:Value)(ds:List Deferred):SameBut (fun t=>d=some t) a ({a with defers:=ds}.put d v):=by
 refine⟨size_put _ _ _,fun t ht=>?_⟩;cases d with
 |none=>rfl
 |some u=>
  have:t≠u:=fun e=>ht (by rw[e]);rw[yy];simp[this]
theorem Oper.wp_same {P:Program}{o:Oper}{a:Act}{w:World}{K:Act→World→Prop}{Q:Exit→Act→World→Prop}(h:o.wp P a w (fun a' w'=>SameBut (fun t=>o.dst=some t) a a'→K a' w') Q):o.wp P a w K Q:=by
 unfold Oper.wp at h ⊢;generalize (execOp a.eval o).run P w=x at h ⊢;cases x with
 |ok v w'=>
  cases v with
  |value v=>exact h (SameBut.put a _ _ a.defers)
  |skip=>exact h (SameBut.put a _ _ a.defers)
  |defer d=>exact h (SameBut.put a _ _ _)
  |enter f args=>
   refine Calls.mono h fun e kK hh=>?_;cases e with
   |returned v=>exact hh (SameBut.put a _ _ a.defers)
   |panicked c=>exact hh
   |outgrown=>exact hh
  |row row args=>exact Rows.mono h fun v kK hh=>hh (SameBut.put a _ _ a.defers)
  |_=>exact h
 |halt v w'=>
  cases v with
  |panic v=>exact h
  |_=>exact h
def W7 (P:Program)(v:Value)(args:List Value)(w:World)(R:Value→World→Prop):Prop:=
 ∀(rd:Option Nat) (o:Oper) (a:Act) (x:Operand) (aa:Array Operand) (ts:Array TypeId) (K:Act→World→Prop) (Q:Exit→Act→World→Prop),
  o.op=.call {callee:=.value x,args:=aa,argTypes:=ts}→a.eval x=v→aa.toList.map a.eval=args→(∀u w',R u w'→K (a.put o.dst u) w')→o.wpIn (FR rd) 0 P a w K Q
def m0:Nat:=1000000009
def pD (C:Ctx)(Φ:aR)(w0:World)(σ0:Base):Prop:=∀J ys,C.yl=some (J,ys)→σ0.B=0∧(∀t fx cx w,σ0.F t fx cx w→∃xs,t=.list xs)∧
 ∀(xs ds':List D) (d:D),Φ m0 [.list (xs++[.tup ds'])]=some d→∀(fx cx:Nat→Prop) (w1:World) (σ1:Im) (args:List Value),σ0.F (.list xs) fx cx w1→σ1.ok w1→pq C σ1 ys args ds'→
  (∀k o x,σ1.c k o=some x→¬cx k)→(∀k x,σ1.m k=some x→¬cx k)→
  (∀k o x,σ1.c k o=some x→σ0.c k o=some x∨w0.heap.size≤k)→(∀k x,σ1.m k=some x→σ0.m k=some x∨w0.heap.size≤k)→
  W7 C.P C.yv args w1 fun u w2=>∃b,d=.v (.bool b)∧u=.bool b∧Below 0 w1 w2∧(∀k,k<w1.heap.size→¬cx k→w2.heap[k]?=w1.heap[k]?)∧
   ∃ni kp,σ0.F (.list (xs++[.tup ds'])) ni kp w2∧(∀k,ni k→k<w1.heap.size→fx k∨(∃o x,σ1.c k o=some x)∨(∃x,σ1.m k=some x∧x≠cW))∧(∀k,kp k→k<w1.heap.size→cx k)
def L9 (gs:List (Nat×Bool))(J:Nat)(x:PE):PE:=
 match gs with
 |[]=>.app (.o J) (.lst [x])
 |_=>.pick (.nt (.imp gs (.con (.v (.bool false))))) (.app (.o J) (.lst [x])) (.o J)
def Ad (C:Ctx)(S:St)(ops:Array Oper)(o:Oper):Option (St×List PI):=
 match o.dst,o.op,C.yl with
 |some dst,.call {callee:=.value (.tmp t),args:=args,..},some (J,ys)=>
  (qd S ops o).bind fun gs=>
    match kI S gs t with
    |.yv=>
     match(S.fzs (bP S gs args.toList)).o J with
     |.tr=>
      (kJ C (S.fzs (bP S gs args.toList)) gs args.toList).bind fun u=>
        bif Ty.subs u.1 ys then some ((S.fzs (bP S gs args.toList)).setR dst (ji gs (.dat .bool)),[.setO J (L9 gs J (.tup u.2)),.call gs dst m0 [.o J]]) else none
     |_=>none
    |_=>none
 |_,_,_=>none
def pV (C:Ctx)(S:St)(ops:Array Oper)(o:Oper):Option (St×List PI):=
 match Ad C S ops o with
 |some r=>some r
 |none=>Ac C S ops o
section
variable {C:Ctx} {S:St} {ρ:Env} {σ:Im} {own:Nat→Option Nat} {hv:Nat→Value} {w0:World} {σ0:Base} {A:Nat→Prop} {a:Act} {w:World} {gs:List (Nat×Bool)} {Φ:aR} {dst:Nat}
theorem at3 (gs:List (Nat×Bool))(J:Nat)(x:PE)(ρ:Env):(L9 gs J x).ev ρ=if holds gs ρ=true then .list ((ρ.o J).l++[x.ev ρ]) else ρ.o J:=by
 cases gs with
 |nil=>simp[L9,PE.ev,PE.evs,holds,D.l_list]
 |cons g gs=>
  simp only[L9,PE.ev,PE.evs,D.b_bool,D.l_list,sH,Bool.not_not];cases holds (g::gs) ρ<;>rfl
theorem Inv.yielded (h:Inv C S ρ σ own hv w0 σ0 A a w)(hB:σ0.B=0){J:Nat}{ys:List Ty}(hJ:C.yl=some (J,ys))(Jf:S.o J=.tr){w2:World}(hb:Below 0 w w2){t:D}{fx cx:Nat→Prop}(hf:FrOK σ own w0.heap.size σ0 w t fx cx)
 (hs:∀k,k<w.heap.size→¬cx k→w2.heap[k]?=w.heap[k]?) {t':D} {ni kp:Nat→Prop} (hF:σ0.F t' ni kp w2)
 (h1:∀k,ni k→k<w.heap.size→fx k∨(∃o x,σ.c k o=some x)∨(∃x,σ.m k=some x∧x≠cW)) (h2:∀k,kp k→k<w.heap.size→cx k):Inv C S (ρ.setO J t') σ own hv w0 σ0 A a w2:=by
 have bN:=σ0.sub _ _ _ _ hf.F;have dM:∀k o x,σ.c k o=some x→w2.heap[k]?=w.heap[k]?:=fun k o x e=>hs k (h.lt e) (hf.c k o x e);have AM:∀k x,σ.m k=some x→w2.heap[k]?=w.heap[k]?:=fun k x e=>hs k (h.ltm e) (hf.m k x e);have Pw:∀k j,own k=some j→w2.heap[k]?=w.heap[k]?:=fun k j e=>hs k (h.owns k j e).2.1 fun hc=>hf.own k j e (bN k hc)
 refine⟨h.defers,⟨fun k o v e=>by rw[World.cell?_of_block (dM k o v e)];exact h.ok.c k o v e,fun k x e=>(h.ok.m k x e).keep (AM k x e)⟩,h.le,h.old,h.newc,h.newm,h.below.trans (hb.mono (by omega)),h.bw,
  fun k j e=>let⟨g1,g2,g3⟩:=h.owns k j e;⟨g1,wj g2 hb.size,g3⟩,fun u=>aG.mono (S:=S) (ρ:=ρ) (ρ':=ρ.setO J t') (.refl σ) (.refl S hv) (d:=ρ.r u) (fun _ _ _=>rfl) (fun gs s e=>(h.opts u gs s e).2) (h.regs u),fun j=>?_,h.opts,
  t',ni,kp,⟨hF,fun k j e hk=>?_,fun k o x e hc=>hf.c k o x e (h2 k hc (h.lt e)),fun k x e hc=>hf.m k x e (h2 k hc (h.ltm e)),fun k e Oz hk=>?_⟩,fun j hj=>?_⟩
 ·by_cases AI:j=J
  ·subst AI;rw[Jf];trivial
  ·exact(h.objs j).mono (.refl σ) (.refl S hv) rfl (by simp[Env.setO,br _ _ AI]) (fun k e=>⟨e,Pw k j e⟩)
 ·obtain⟨_,g2,g3,g4⟩:=h.owns k j e;rcases h1 k hk g2 with e1|⟨o,x,e1⟩|⟨x,e1,_⟩
  ·exact hf.own k j e e1
  ·rw[g3 o] at e1;cases e1
  ·rw[g4] at e1;cases e1
 ·rcases h1 k hk (h.ltm e) with e1|⟨o,x,e1⟩|⟨x,e1,e2⟩
  ·exact hf.d k e Oz e1
  ·have c1:=h.ok.c k o x e1;rcases h.ok.m k _ e with⟨m1,_⟩|⟨_,m2⟩
   ·exact m1 rfl
   ·simp[World.cell?,m2] at c1
  ·rw[e] at e1;cases e1;exact e2 rfl
 ·obtain⟨_,_,_,_,ht⟩:=h.frame;obtain⟨⟨ys',e1⟩,_⟩:=ht j hj;rw[hJ] at e1;cases e1;exact⟨⟨_,hJ⟩,aK _ _ _⟩
theorem ahY {rd:Option Nat}(h:Good C w0 σ0 S ρ A a w)(hC:CtxOK C σ0)(hY:pD C Φ w0 σ0){ops:Array Oper}{o:Oper}(ht:∀d,o.dst=some d→¬A d∧d<a.tmps.size)
 (hj:∀j want t,o.guard=some (j,want)→(ops[j]?).bind (·.dst)=some t→A t) {r:St×List PI} (hr:Ad C S ops o=some r) {ρ':Env} (ak:PI.runs Φ r.2 ρ=some ρ')
 {K:Act→World→Prop} {Q:Exit→Act→World→Prop} (hK:∀a' w',Good C w0 σ0 r.1 ρ' (fun u=>A u∨o.dst=some u) a' w'→SameBut (fun t=>o.dst=some t) a a'→K a' w'):
 if Region.wanted o (yielded ops a.tmps) then o.wpIn (FR rd) 0 C.P a w K Q else K (a.put o.dst undef) w:=by
 unfold Ad at hr;split at hr
 case h_2=>cases hr
 rename_i _ _ dst t args ts J ys hd bR kD;simp only[av] at hr;obtain⟨gs,dN,hr⟩:=hr;split at hr
 case h_2=>cases hr
 rename_i EI;split at hr
 case h_2=>cases hr
 rename_i Jf;simp only[av] at hr;obtain⟨u,hu,hr⟩:=hr;cases bN:Ty.subs u.1 ys<;>simp only[bN,cond_true,cond_false] at hr
 ·cases hr
 cases hr;have AG:=YJ h dN hj;rw[YK h dN];obtain⟨σ,own,hv,i⟩:=h;obtain⟨σ1,dh,hle,i1⟩:=Inv.fzs (bP S gs args.toList) i;obtain⟨t1,t2⟩:=ht dst hd;have gM:(fun u=>A u∨o.dst=some u)=(fun u=>A u∨u=dst):=by funext u;rw[hd];simp[eq_comm]
 rw[gM] at hK;simp only[PI.runs,PI.run,kl,at3,av] at ak;cases hh:holds gs ρ with
 |false=>
  simp only[hh,v5,if_false] at ak ⊢;have e1:ρ.setO J (ρ.o J)=ρ:=by
   cases ρ with|mk r o=>simp only[Env.setO];congr 1;funext x;rw[eZ];split<;>simp_all
  rw[e1,hh] at ak;obtain⟨ρ1,e2,e3⟩:=ak;cases e2;cases e3;cases gs with
  |nil=>simp[holds] at hh
  |cons g bM=>
   have Eu:=i1.passed t1 t2 AG hh (s:=.dat .bool) (fun _ _ e=>by cases e) (ρ.r dst);have e4:ρ.setR dst (ρ.r dst)=ρ:=by
        cases ρ with|mk r o=>simp only[Env.setR];congr 1;funext x;rw[eZ];split<;>simp_all
   rw[e4] at Eu;rw[hd];exact hK _ _ ⟨_,_,_,Eu⟩ (by rw[hd];exact SameBut.put a (some dst) undef a.defers)
 |true=>
  simp only[hh,if_true] at ak ⊢;have iO:=Ch i1 hC hh hu bN;obtain⟨tr,fx,cx,hf,qo⟩:=i1.frame;obtain⟨_,hρJ⟩:=qo J Jf;obtain⟨hB,amC,Qc⟩:=hY J ys kD;obtain⟨xs,rfl⟩:=amC _ _ _ _ hf.F;rw[hρJ] at ak;simp only[D.l_list,PE.ev] at ak;obtain⟨ρ1,e2,e3⟩:=ak;cases e3;have ZA:holds gs (ρ.setO J (.list (xs++[.tup (PE.evs ρ u.2)])))=true:=hh;rw[ZA] at e2;simp only[cond_true,PE.evs,PE.ev,Env.setO,aK,aC] at e2;obtain⟨d,e4,e5⟩:=e2;have hy:=Qc xs (PE.evs ρ u.2) d e4 fx cx w σ1 (args.toList.map a.eval) hf.F i1.ok iO hf.c hf.m i1.newc i1.newm;have cq:a.eval (.tmp t)=C.yv:=by
   have:=(nS i hh t).1;rw[EI] at this;have h9:a.tmps.getD t undef=C.yv:=this;simpa [Act.eval] using h9
  refine hy rd o a (.tmp t) args ts K Q bR cq rfl fun v w2 kA=>?_;obtain⟨b,rfl,rfl,hb,hs,ni,kp,hF,h1,h2⟩:=kA;have i2:=i1.yielded hB kD Jf hb hf hs hF h1 h2;refine hK _ _ ?_ (SameBut.put a _ _ a.defers);rw[hd,←e5];change Good C w0 σ0 _ ((ρ.setO J (.list (xs++[.tup (PE.evs ρ u.2)]))).setR dst (.v (.bool b))) _ _ _;have hh3:holds gs ((ρ.setO J (.list (xs++[.tup (PE.evs ρ u.2)]))).setR dst (.v (.bool b)))=true:=by
   rw[Ep (t:=dst) fun g hm e=>t1 (by rw[←e];exact AG g hm)];exact ZA
  cases gs with
  |nil=>exact⟨_,_,_,i2.setReg t1 (s:=.dat .bool) (.bool b) t2 (fun _ _ e=>by cases e)⟩
  |cons g bM=>
   refine⟨_,_,_,i2.setReg t1 (s:=.opt (g::bM) (.dat .bool)) ⟨fun _=>.bool b,fun e=>absurd (hh3.symm.trans e) (by decide)⟩ t2 (fun gs s e=>?_)⟩;cases e;exact⟨AG,fun _ _ e=>by cases e⟩
theorem IN {rd:Option Nat}(h:Good C w0 σ0 S ρ A a w)(hC:CtxOK C σ0)(ba:dp C)(hΦ:dc C Φ)(hY:pD C Φ w0 σ0){ops:Array Oper}{o:Oper}(bq:oL o.op=true)(ht:∀d,o.dst=some d→¬A d∧d<a.tmps.size)
 (hj:∀j want t,o.guard=some (j,want)→(ops[j]?).bind (·.dst)=some t→A t) {r:St×List PI} (hr:pV C S ops o=some r) {ρ':Env} (ak:PI.runs Φ r.2 ρ=some ρ')
 {K:Act→World→Prop} {Q:Exit→Act→World→Prop} (hK:∀a' w',Good C w0 σ0 r.1 ρ' (fun u=>A u∨o.dst=some u) a' w'→SameBut (fun t=>o.dst=some t) a a'→K a' w'):
 if Region.wanted o (yielded ops a.tmps) then o.wpIn (FR rd) 0 C.P a w K Q else K (a.put o.dst undef) w:=by
 unfold pV at hr;split at hr
 ·rename_i q hq;cases hr;exact ahY h hC hY ht hj hq ak hK
 ·have:=ahX (K:=fun a' w'=>SameBut (fun t=>o.dst=some t) a a'→K a' w') (Q:=Q) h hC ba hΦ ht hj hr ak (fun a' w' g _ hs=>hK a' w' g hs);split
  ·rename_i hw;rw[if_pos hw] at this;exact ads bq (Oper.wp_same this)
  ·rename_i hw;rw[if_neg hw] at this;exact this (SameBut.put a _ _ a.defers)
end
def og (C:Ctx)(ops:Array Oper):List Nat→St→Option (St×List PI)
 |[],S=>some (S,[])
 |i::l,S=>
  match ops[i]? with
  |some o=>(pV C S ops o).bind fun r=>(og C ops l r.1).map fun q=>(q.1,r.2++q.2)
  |none=>none
def sl (n:Nat)(ops:Array Oper):Bool:=
 gA (ops.toList.filterMap (·.dst))&&ops.toList.all fun o=>oL o.op&&match o.dst with|some d=>Nat.blt d n|none=>true
section
variable {C:Ctx} {S:St} {ρ:Env} {σ:Im} {own:Nat→Option Nat} {hv:Nat→Value} {w0:World} {σ0:Base} {A:Nat→Prop} {a:Act} {w:World} {gs:List (Nat×Bool)} {Φ:aR} {dst:Nat}
def lZ (ops:Array Oper)(done:List Nat):Nat→Prop:=fun t=>∃i o,i∈done∧ops[i]?=some o∧o.dst=some t
theorem wD.dst_once {ops:Array Oper}(bq:(ops.toList.filterMap (·.dst)).Nodup){i j:Nat}{o o':Oper}{d:Nat}(hi:ops[i]?=some o)(hj:ops[j]?=some o')(hd:o.dst=some d)(ec:o'.dst=some d)(aE:i≠j):False:=by
 have key:∀(l:List Oper),(l.filterMap (·.dst)).Nodup→∀(i j:Nat) (o o':Oper),l[i]?=some o→l[j]?=some o'→o.dst=some d→o'.dst=some d→i=j:=by
  intro l
  induction l with
  |nil=>intro _ i j o o' hi;simp at hi
  |cons x l ih=>
   intro bq i j o o' hi hj hd ec;have cP:∀(k:Nat) (y:Oper),l[k]?=some y→y.dst=some d→d∈l.filterMap (·.dst):=fun k y hk hy=>uz.2 ⟨y,mc hk,hy⟩;cases hx:x.dst with
   |none=>
    rw[List.filterMap_cons_none hx] at bq;cases i with
    |zero=>simp at hi;subst hi;rw[hx] at hd;cases hd
    |succ i=>
     cases j with
     |zero=>simp at hj;subst hj;rw[hx] at ec;cases ec
     |succ j=>simp at hi hj;rw[ih bq i j o o' hi hj hd ec]
   |some y=>
    rw[List.filterMap_cons_some hx,m6] at bq;cases i with
    |zero=>
     simp at hi;subst hi;rw[hx] at hd;cases hd;cases j with
     |zero=>rfl
     |succ j=>simp at hj;exact absurd (cP j o' hj ec) bq.1
    |succ i=>
     cases j with
     |zero=>
      simp at hj;subst hj;rw[hx] at ec;cases ec;simp at hi;exact absurd (cP i o hi hd) bq.1
     |succ j=>simp at hi hj;rw[ih bq.2 i j o o' hi hj hd ec]
 exact aE (key ops.toList bq i j o o' (by simpa using hi) (by simpa using hj) hd ec)
def ri (ops:Array Oper):Nat→Prop:=fun t=>∃o,o∈ops.toList∧o.dst=some t
theorem wD (hC:CtxOK C σ0)(ba:dp C)(hΦ:dc C Φ)(hY:pD C Φ w0 σ0){ops:Array Oper}{n:Nat}(aD:sl n ops=true){rd:Option Nat}{Q:Exit→Act→World→Prop}:
 ∀(l done:List Nat) {S:St} {ρ ρ':Env} {a:Act} {w:World} {r:St×List PI},(done++l).Nodup→(∀p i q o j want,l=p++i::q→ops[i]?=some o→o.guard=some (j,want)→j∈done++p)→
  a.tmps.size=n→Good C w0 σ0 S ρ (lZ ops done) a w→og C ops l S=some r→PI.runs Φ r.2 ρ=some ρ'→
  (∀a' w',SameBut (ri ops) a a'→Good C w0 σ0 r.1 ρ' (lZ ops (done++l)) a' w'→Q .normal a' w')→wpOpsIn (FR rd) 0 C.P ops Q l a w:=by
 simp only[sl,aq] at aD;have bq:=mI aD.1;intro l
 induction l with
 |nil=>
  intro done S ρ ρ' a w r _ _ aI h hr ak hQ;simp only[og,aT] at hr;subst hr;rw[nQ ak] at hQ;simp only[wpOpsIn];exact hQ a w (.refl _ _) (by simpa using h)
 |cons i l ih=>
  intro done S ρ ρ' a w r OT ky aI h hr ak hQ;simp only[og] at hr;split at hr
  case h_2=>cases hr
  rename_i o ho;simp only[av,aC] at hr;obtain⟨r1,iS,q,hq,rfl⟩:=hr;simp only[oY,av] at ak;obtain⟨ρ1,hρ1,hρ2⟩:=ak;have rz:∀d,o.dst=some d→¬lZ ops done d∧d<a.tmps.size:=by
   intro d hd;refine⟨fun⟨i',o',df,ed,ec⟩=>?_,?_⟩
   ·
        have aE:i'≠i:=by
         intro e;subst e;rw[Cu] at OT;exact OT.2.2 i' df i' (du ..) rfl
        exact wD.dst_once bq ed ho ec hd aE
   ·have:=bK.1 aD.2 o (by
     have:=gT ho;simpa using this)
    simp only[hd,aq] at this;rw[aI];simpa [iJ] using this.2
  have hj:∀j want t,o.guard=some (j,want)→(ops[j]?).bind (·.dst)=some t→lZ ops done t:=by
   intro j want t hg ht;have:=ky [] i l o j want rfl ho hg;simp only[lx] at this;rw[av] at ht;obtain⟨oj,h1,h2⟩:=ht;exact⟨j,oj,this,h1,h2⟩
  have jV:oL o.op=true:=by
   have:=bK.1 aD.2 o (by simpa using gT ho);simp only[aq] at this;exact this.1
  have main:=IN (rd:=rd) (K:=wpOpsIn (FR rd) 0 C.P ops Q l) (Q:=Q) h hC ba hΦ hY jV rz hj iS hρ1 (fun a' w' fL ib=>by
   have rL:=ib.size;refine ih (done++[i]) (by simpa using OT) (fun p i' q' o' j want e ed amg=>?_) (rL.trans aI) ?_ hq hρ2 (fun a2 w2 s2 g2=>hQ a2 w2 ((ib.mono fun t e=>⟨o,by simpa using gT ho,e⟩).trans s2) (by simpa using g2))
   ·have:=ky (i::p) i' q' o' j want (by rw[e];rfl) ed amg;simpa using this
   ·have:(fun u=>lZ ops done u∨o.dst=some u)=lZ ops (done++[i]):=by
     funext u;apply propext;constructor
     ·rintro(⟨i',o',h1,h2,h3⟩|h1)
      ·exact⟨i',o',by simp[h1],h2,h3⟩
      ·exact⟨i,o,by simp,ho,h1⟩
     ·rintro⟨i',o',h1,h2,h3⟩;rcases dt.1 h1 with h4|h4
      ·exact .inl ⟨i',o',h4,h2,h3⟩
      ·simp at h4;subst h4;rw[ho] at h2;cases h2;exact .inr h3
    rw[←this];exact fL)
  simp only[wpOpsIn,ho];split
  ·rename_i hw;rw[if_pos hw] at main;exact main
  ·rename_i hw;rw[if_neg hw] at main;exact⟨fun _ _=>trivial,main⟩
end
end Cx
namespace Cx
open Go Go.RowKit
def Xa (S:St):AgC→Bool
 |.dat _=>true
 |.obj j ver=>Nat.beq ver (S.ver j)
def AgC.zero:AgC→AgC
 |.dat t=>.dat t
 |.obj j _=>.obj j 0
def eV (S:St):Sh→Sh
 |.none=>.none
 |.dat t=>.dat t
 |.obj j ver=>bif Nat.beq ver (S.ver j) then .obj j 0 else .none
 |.ptr j ver off=>bif Nat.beq ver (S.ver j) then .ptr j 0 off else .none
 |.eptr j ver size off=>bif Nat.beq ver (S.ver j) then .eptr j 0 size off else .none
 |.opt _ _=>.none
 |.yv=>.yv
 |.fclo f caps=>bif caps.all (fun c=>Nat.beq c.2 (S.ver c.1)) then .fclo f (caps.map fun c=>(c.1,0)) else .none
 |.agg l=>bif l.all (Xa S) then .agg (l.map AgC.zero) else .none
def ir (S:St):Ob→Ob
 |.box ag shs=>.box ag (shs.map (eV S))
 |ob=>ob
def St.norm (S:St):St:=⟨fun t=>eV S (S.r t),fun j=>ir S (S.o j),fun _=>0⟩
def jx:Sh→Sh→Sh
 |.dat a,.dat b=>bif Ty.sub a b then .dat b else bif Ty.sub b a then .dat a else .none
 |.obj j v,.obj k u=>bif Nat.beq j k&&Nat.beq v u then .obj j v else .none
 |.ptr j v o,.ptr k u p=>bif Nat.beq j k&&Nat.beq v u&&Nat.beq o p then .ptr j v o else .none
 |.eptr j v s o,.eptr k u t p=>bif Nat.beq j k&&Nat.beq v u&&Nat.beq s t&&Nat.beq o p then .eptr j v s o else .none
 |.yv,.yv=>.yv
 |.fclo f a,.fclo g b=>bif Nat.beq f g&&wy a b then .fclo f a else .none
 |_,_=>.none
def xK:List Sh→List Sh→Option (List Sh)
 |[],[]=>some []
 |a::aa,b::bs=>(xK aa bs).map (jx a b::·)
 |_,_=>none
def nF:Ob→Ob→Ob
 |.fz a,.fz b=>bif Ty.beq a b then .fz a else .dead
 |.fbox a,.fbox b=>bif Ty.beq a b then .fbox a else .dead
 |.box ag aa,.box bg bs=>bif ag==bg then(match xK aa bs with|some cs=>.box ag cs|none=>.dead) else .dead
 |.row T e,.row U f=>bif Nat.beq T U&&Ty.beq e f then .row T e else .dead
 |.mp k e,.mp l f=>bif Ty.beq k l&&Ty.beq e f then .mp k e else .dead
 |.it k e,.it l f=>bif Ty.beq k l&&Ty.beq e f then .it k e else .dead
 |.tr,.tr=>.tr
 |_,_=>.dead
section
variable {C:Ctx} {S:St} {ρ:Env} {σ:Im} {own:Nat→Option Nat} {hv:Nat→Value} {w0:World} {σ0:Base} {A:Nat→Prop} {a:Act} {w:World} {gs:List (Nat×Bool)} {Φ:aR} {dst:Nat}
theorem Kp {s:Sh}{v:Value}{d:D}(h:aG C S ρ σ hv s v d):aG C S.norm ρ σ hv (eV S s) v d∧∀gs s',eV S s≠.opt gs s':=by
 cases s with
 |none=>exact⟨trivial,fun _ _ e=>by cases e⟩
 |dat t=>exact⟨h,fun _ _ e=>by cases e⟩
 |obj j ver=>
  simp only[eV];cases hb:Nat.beq ver (S.ver j)
  ·exact⟨trivial,fun _ _ e=>by cases e⟩
  ·exact⟨⟨bl _,fun _=>h.2 (aB hb)⟩,fun _ _ e=>by cases e⟩
 |ptr j ver off=>
  simp only[eV];cases hb:Nat.beq ver (S.ver j)
  ·exact⟨trivial,fun _ _ e=>by cases e⟩
  ·exact⟨⟨bl _,fun _=>h.2 (aB hb)⟩,fun _ _ e=>by cases e⟩
 |eptr j ver size off=>
  simp only[eV];cases hb:Nat.beq ver (S.ver j)
  ·exact⟨trivial,fun _ _ e=>by cases e⟩
  ·exact⟨⟨bl _,fun _=>h.2 (aB hb)⟩,fun _ _ e=>by cases e⟩
 |opt gs s=>exact⟨trivial,fun _ _ e=>by cases e⟩
 |yv=>exact⟨h,fun _ _ e=>by cases e⟩
 |agg l=>
  simp only[eV];cases hb:l.all (Xa S)
  ·exact⟨trivial,fun _ _ e=>by cases e⟩
  ·refine⟨?_,fun _ _ e=>by cases e⟩;obtain⟨vs,ds,h1,h2,h3,h4,h5⟩:=h;refine⟨vs,ds,h1,h2,by simpa using h3,by simpa using h4,fun i c hi=>?_⟩;simp only[cB,aC] at hi;obtain⟨c0,hc,rfl⟩:=hi;have:=bK.1 hb _ (mc hc);have h6:=h5 i c0 hc;cases c0 with
   |dat t=>exact h6
   |obj j ver=>exact⟨bl _,fun _=>h6.2 (aB this)⟩
 |fclo f caps=>
  simp only[eV];cases hb:caps.all (fun c=>Nat.beq c.2 (S.ver c.1))
  ·exact⟨trivial,fun _ _ e=>by cases e⟩
  ·refine⟨?_,fun _ _ e=>by cases e⟩;obtain⟨vs,h1,h2,h3⟩:=h;refine⟨vs,h1,by simpa using h2,fun i j ver hi=>?_⟩;simp only[cB,aC] at hi;obtain⟨⟨j',v'⟩,hc,e⟩:=hi;cases e;have:=bK.1 hb _ (mc hc);exact⟨bl _,fun _=>(h3 i _ _ hc).2 (aB this)⟩
theorem Inv.weaken (h:Inv C S ρ σ own hv w0 σ0 A a w){S':St}{ρ':Env}(hr:∀t,aG C S' ρ' σ hv (S'.r t) (a.tmps.getD t undef) (ρ'.r t))(ho:∀j,cg C S' ρ' σ own hv w w0.heap.size j (S'.o j))
 (hn:∀t gs s,S'.r t≠.opt gs s) (ht:∀j,S'.o j=.tr→S.o j=.tr∧ρ'.o j=ρ.o j):Inv C S' ρ' σ own hv w0 σ0 (fun _=>False) a w:=
 ⟨h.defers,h.ok,h.le,h.old,h.newc,h.newm,h.below,h.bw,h.owns,hr,ho,fun t gs s e=>absurd e (hn t gs s),by
   obtain⟨t,fx,cx,h1,h5⟩:=h.frame;exact⟨t,fx,cx,h1,fun j hj=>by rw[(ht j hj).2];exact h5 j (ht j hj).1⟩⟩
theorem abI {ob:Ob}(h:ir S ob=.tr):ob=.tr:=by
 cases ob<;>simp only[ir] at h<;>first|rfl|cases h
theorem aqm {x y:Ob}(h:nF x y=.tr):x=.tr∧y=.tr:=by
 cases x<;>cases y<;>simp only[nF] at h<;>first
  |exact⟨rfl,rfl⟩
  |(cases h;done)
  |skip
 ·rename_i a b;cases hb:Ty.beq a b<;>rw[hb] at h<;>cases h
 ·rename_i a b;cases hb:Ty.beq a b<;>rw[hb] at h<;>cases h
 ·rename_i ag aa bg bs;cases hb:ag==bg<;>rw[hb] at h
  ·cases h
  ·simp only[cond_true] at h;split at h<;>cases h
 ·rename_i T e U f;cases hb:(Nat.beq T U&&Ty.beq e f)<;>rw[hb] at h<;>cases h
 ·rename_i T e U f;cases hb:(Ty.beq T U&&Ty.beq e f)<;>rw[hb] at h<;>cases h
 ·rename_i T e U f;cases hb:(Ty.beq T U&&Ty.beq e f)<;>rw[hb] at h<;>cases h
theorem Inv.norm (h:Inv C S ρ σ own hv w0 σ0 A a w):Inv C S.norm ρ σ own hv w0 σ0 (fun _=>False) a w:=by
 refine h.weaken (fun t=>(Kp (h.regs t)).1) (fun j=>?_) (fun t=>(Kp (h.regs t)).2) (fun j hj=>⟨abI hj,rfl⟩);have bh:=h.objs j;show cg C S.norm ρ σ own hv w w0.heap.size j (ir S (S.o j));cases cN:S.o j with
 |box ag shs=>
  rw[cN] at bh;obtain⟨k,cs,T,ds,h1,h2,h3,h4,h5,h6,h7⟩:=bh;refine⟨k,cs,T,ds,h1,h2,h3,by simpa using h4,h5,by simpa using h6,fun i s hi=>?_⟩;simp only[cB,aC] at hi;obtain⟨s0,hs0,rfl⟩:=hi;have:=Kp (h7 i s0 hs0).2;exact⟨this.2,this.1⟩
 |_=>rw[cN] at bh;exact bh
theorem Hj {b:Bool}{s:Sh}{v:Value}{d:D}(hs:∀gs s',s≠.opt gs s')(h:b=true→aG C S ρ σ hv s v d):aG C S ρ σ hv (bif b then s else .none) v d∧∀gs s',(bif b then s else Sh.none)≠.opt gs s':=by
 cases b with
 |true=>exact⟨h rfl,hs⟩
 |false=>exact⟨trivial,fun _ _ e=>by cases e⟩
theorem abA {s u:Sh}{v:Value}{d:D}(h:aG C S ρ σ hv s v d):aG C S ρ σ hv (jx s u) v d∧∀gs s',jx s u≠.opt gs s':=by
 cases s<;>cases u<;>simp only[jx]<;>first
  |exact⟨trivial,fun _ _ e=>by cases e⟩
  |exact Hj (fun _ _ e=>by cases e) (fun _=>h)
  |exact⟨h,fun _ _ e=>by cases e⟩
  |skip
 rename_i a b;cases h1:Ty.sub a b
 ·exact Hj (fun _ _ e=>by cases e) (fun _=>h)
 ·exact⟨Rep.sub h h1,fun _ _ e=>by cases e⟩
theorem abB {s u:Sh}{v:Value}{d:D}(h:aG C S ρ σ hv u v d):aG C S ρ σ hv (jx s u) v d∧∀gs s',jx s u≠.opt gs s':=by
 cases s<;>cases u<;>simp only[jx]<;>first
  |exact⟨trivial,fun _ _ e=>by cases e⟩
  |exact⟨h,fun _ _ e=>by cases e⟩
  |skip
 ·rename_i a b;cases h1:Ty.sub a b
  ·exact Hj (fun _ _ e=>by cases e) (fun h2=>Rep.sub h h2)
  ·exact⟨h,fun _ _ e=>by cases e⟩
 all_goals
  refine Hj (fun _ _ e=>by cases e) (fun hb=>?_);simp only[aq] at hb
  first
   |(obtain⟨⟨⟨h1,h2⟩,h3⟩,h4⟩:=hb;rw[aB h1,aB h2,aB h3,aB h4];exact h)
   |(obtain⟨⟨h1,h2⟩,h3⟩:=hb;rw[aB h1,aB h2,aB h3];exact h)
   |(obtain⟨h1,h2⟩:=hb;rw[aB h1,aB h2];exact h)
   |(obtain⟨h1,h2⟩:=hb;rw[aB h1,NL _ _ h2];exact h)
theorem QA:∀(aa bs cs:List Sh),xK aa bs=some cs→cs.length=aa.length∧cs.length=bs.length∧∀(i:Nat) (c:Sh),cs[i]?=some c→∃x y,aa[i]?=some x∧bs[i]?=some y∧c=jx x y
 |[],[],cs,h=>by simp[xK] at h;subst h;simp
 |[],b::bs,cs,h=>by simp[xK] at h
 |a::aa,[],cs,h=>by simp[xK] at h
 |a::aa,b::bs,cs,h=>by
  simp only[xK,aC] at h;obtain⟨ds,hd,rfl⟩:=h;obtain⟨h1,h2,h3⟩:=QA aa bs ds hd;refine⟨by simp[h1],by simp[h2],fun i c hi=>?_⟩;cases i with
  |zero=>simp at hi;exact⟨a,b,rfl,rfl,hi.symm⟩
  |succ i=>simp at hi;simpa using h3 i c hi
theorem aqk {j B:Nat}{x y:Ob}(h:cg C S ρ σ own hv w B j x):cg C S ρ σ own hv w B j (nF x y):=by
 cases x<;>cases y<;>simp only[nF]<;>first
  |trivial
  |(rename_i a b;cases Ty.beq a b;·trivial
    ·exact h)
  |skip
 ·rename_i ag aa bg bs;cases ag==bg
  ·trivial
  ·simp only[cond_true];split
   ·rename_i cs dM;obtain⟨l1,l2,rC⟩:=QA aa bs cs dM;obtain⟨k,cells,T,ds,h1,h2,h3,h4,h5,h6,h7⟩:=h;refine⟨k,cells,T,ds,h1,h2,h3,by omega,h5,by omega,fun i s hi=>?_⟩;obtain⟨x,y,hx,hy,rfl⟩:=rC i s hi;have:=abA (u:=y) (h7 i x hx).2;exact⟨this.2,this.1⟩
   ·trivial
 ·rename_i T e U f;cases Nat.beq T U&&Ty.beq e f
  ·trivial
  ·exact h
 ·rename_i T e U f;cases Ty.beq T U&&Ty.beq e f
  ·trivial
  ·exact h
 ·rename_i T e U f;cases Ty.beq T U&&Ty.beq e f
  ·trivial
  ·exact h
theorem aql {j B:Nat}{x y:Ob}(h:cg C S ρ σ own hv w B j y):cg C S ρ σ own hv w B j (nF x y):=by
 cases x<;>cases y<;>simp only[nF]<;>first
  |trivial
  |skip
 ·rename_i a b;cases hb:Ty.beq a b
  ·trivial
  ·rw[Ty.beq_eq _ _ hb];exact h
 ·rename_i a b;cases hb:Ty.beq a b
  ·trivial
  ·rw[Ty.beq_eq _ _ hb];exact h
 ·rename_i ag aa bg bs;cases ag==bg
  ·trivial
  ·simp only[cond_true];split
   ·rename_i cs dM;obtain⟨l1,l2,rC⟩:=QA aa bs cs dM;obtain⟨k,cells,T,ds,h1,h2,h3,h4,h5,h6,h7⟩:=h;refine⟨k,cells,T,ds,h1,h2,h3,by omega,h5,by omega,fun i s hi=>?_⟩;obtain⟨x,y,hx,hy,rfl⟩:=rC i s hi;have:=abB (s:=x) (h7 i y hy).2;exact⟨this.2,this.1⟩
   ·trivial
 ·rename_i T e U f;cases hb:(Nat.beq T U&&Ty.beq e f)
  ·trivial
  ·simp only[aq] at hb;rw[aB hb.1,Ty.beq_eq _ _ hb.2];exact h
 ·rename_i T e U f;cases hb:(Ty.beq T U&&Ty.beq e f)
  ·trivial
  ·simp only[aq] at hb;rw[Ty.beq_eq _ _ hb.1,Ty.beq_eq _ _ hb.2];exact h
 ·rename_i T e U f;cases hb:(Ty.beq T U&&Ty.beq e f)
  ·trivial
  ·simp only[aq] at hb;rw[Ty.beq_eq _ _ hb.1,Ty.beq_eq _ _ hb.2];exact h
end
end Cx
namespace Cx
open Go Go.RowKit
section
variable {C:Ctx} {S T:St} {ρ ρ':Env} {σ:Im} {own:Nat→Option Nat} {hv:Nat→Value} {w0:World} {σ0:Base} {A:Nat→Prop} {a:Act} {w:World} {gs:List (Nat×Bool)} {Φ:aR} {dst:Nat}
theorem Inv.env (h:Inv C S ρ σ own hv w0 σ0 (fun _=>False) a w)(hn:∀t gs s,S.r t≠.opt gs s)(hr:∀t,isNone (S.r t)=false→ρ'.r t=ρ.r t)(ho:∀j,oI (S.o j)=false→ρ'.o j=ρ.o j):
 Inv C S ρ' σ own hv w0 σ0 (fun _=>False) a w:=by
 refine h.weaken (fun t=>?_) (fun j=>?_) hn (fun j hj=>⟨hj,ho j (by rw[hj];rfl)⟩)
 ·cases hs:isNone (S.r t) with
  |true=>cases hc:S.r t<;>rw[hc] at hs<;>simp[isNone] at hs;trivial
  |false=>
   rw[hr t hs];exact aG.mono' (.refl σ) (.refl S hv) (hn t) (h.regs t)
 ·cases hs:oI (S.o j) with
  |true=>cases hc:S.o j<;>rw[hc] at hs<;>simp[oI] at hs;trivial
  |false=>exact(h.objs j).mono (.refl σ) (.refl S hv) rfl (ho j hs) (fun k hk=>⟨hk,rfl⟩)
end
end Cx
namespace Cx
open Go Go.RowKit
structure Snap where
 rs:List Sh
 os:List Ob
 deriving Inhabited
def dm:List Nat→List Ob→Nat→Ob
 |i::is,o::os,j=>bif Nat.beq i j then o else dm is os j
 |_,_,_=>.dead
def cw:Sh→Sh
 |.opt _ _=>.none
 |s=>s
def Snap.st (ids:List Nat)(s:Snap):St:=⟨fun t=>cw (s.rs.getD t .none),fun j=>dm ids s.os j,fun _=>0⟩
def St.snap (n:Nat)(ids:List Nat)(S:St):Snap:=⟨(List.range n).map fun t=>eV S (S.r t),ids.map fun j=>ir S (S.o j)⟩
def Snap.beq (a b:Snap):Bool:=yw a.rs b.rs&&Bc a.os b.os
theorem Snap.beq_eq (a b:Snap)(h:a.beq b=true):a=b:=by
 cases a;cases b;simp only[Snap.beq,aq] at h;rw[TD _ _ h.1,abP _ _ h.2]
def Snap.meet (a b:Snap):Snap:=⟨List.zipWith jx a.rs b.rs,List.zipWith nF a.os b.os⟩
theorem awB (s:Sh):∀gs s',cw s≠.opt gs s':=by
 intro gs s' e;cases s<;>simp[cw] at e
theorem Snap.noOpt (ids:List Nat)(s:Snap):∀t gs s',(s.st ids).r t≠.opt gs s':=fun t=>awB _
section
variable {C:Ctx} {S:St} {ρ:Env} {σ:Im} {own:Nat→Option Nat} {hv:Nat→Value} {w0:World} {σ0:Base} {A:Nat→Prop} {a:Act} {w:World} {n:Nat} {ids:List Nat}
theorem xF (f:Nat→Ob)(P:Ob→Prop)(hd:P .dead)(j:Nat)(hf:P (f j)):∀ids:List Nat,P (dm ids (ids.map f) j)
 |[]=>hd
 |i::is=>by
  simp only[gU,dm];cases hb:Nat.beq i j
  ·exact xF f P hd j hf is
  ·rw[aB hb];exact hf
theorem Mj {s:Sh}{v:Value}{d:D}(h:aG C S ρ σ hv s v d):aG C S ρ σ hv (cw s) v d:=by
 cases s<;>first|exact h|trivial
theorem Inv.snap (h:Inv C S ρ σ own hv w0 σ0 A a w)(n:Nat)(ids:List Nat):Inv C ((S.snap n ids).st ids) ρ σ own hv w0 σ0 (fun _=>False) a w:=by
 have h1:=h.norm;have hc:Compat S.norm hv ((S.snap n ids).st ids) hv:=⟨fun _=>bl _,fun _ _=>rfl⟩
 refine h1.weaken (fun t=>?_) (fun j=>?_) (Snap.noOpt _ _) (fun j hj=>⟨xF (fun j=>ir S (S.o j)) (fun ob=>ob=.tr→ir S (S.o j)=.tr) (fun e=>by cases e) j id ids hj,rfl⟩)
 ·refine aG.mono' (ρ:=ρ) (.refl σ) hc (Snap.noOpt _ _ t) ?_;show aG C S.norm ρ σ hv (cw (((List.range n).map fun t=>eV S (S.r t)).getD t .none)) _ _;refine Mj ?_;rw[aJ,cB];by_cases ht:t<n
  ·rw[qW ht];exact h1.regs t
  ·rw[sI (by simpa using ht)];trivial
 ·have ho:=(h1.objs j).mono (.refl σ) hc (w:=w) (w':=w) rfl rfl (fun k hk=>⟨hk,rfl⟩);exact xF (fun j=>ir S (S.o j)) (fun ob=>cg C _ ρ σ own hv w w0.heap.size j ob) trivial j ho ids
theorem Mk {f:Sh→Sh→Sh}:∀(x y:List Sh) (t:Nat),(List.zipWith f x y).getD t .none=.none∨∃s u,x.getD t .none=s∧y.getD t .none=u∧(List.zipWith f x y).getD t .none=f s u
 |[],_,t=>.inl (by simp)
 |_::_,[],t=>.inl (by simp)
 |a::aa,b::bs,0=>.inr ⟨a,b,rfl,rfl,rfl⟩
 |a::aa,b::bs,t+1=>by simpa using Mk (f:=f) aa bs t
theorem Kd {f:Ob→Ob→Ob}:∀(ids:List Nat) (x y:List Ob) (j:Nat),dm ids (List.zipWith f x y) j=.dead∨dm ids (List.zipWith f x y) j=f (dm ids x j) (dm ids y j)
 |[],_,_,_=>.inl rfl
 |_::_,[],_,_=>.inl rfl
 |_::_,_::_,[],_=>.inl rfl
 |i::is,a::aa,b::bs,j=>by
  simp only[List.zipWith_cons_cons,dm];cases Nat.beq i j
  ·exact Kd is aa bs j
  ·exact .inr rfl
theorem awz {s u:Sh}{v:Value}{d:D}(h:aG C S ρ σ hv (cw s) v d):aG C S ρ σ hv (cw (jx s u)) v d:=by
 cases hs:s with
 |opt gs s'=>cases u<;>simp[jx,cw,aG]
 |_=>rw[hs] at h;exact Mj (abA h).1
theorem awA {s u:Sh}{v:Value}{d:D}(h:aG C S ρ σ hv (cw u) v d):aG C S ρ σ hv (cw (jx s u)) v d:=by
 cases hs:u with
 |opt gs s'=>cases s<;>simp[jx,cw,aG]
 |_=>rw[hs] at h;exact Mj (abB h).1
theorem abC {x y:Snap}{j:Nat}(h:((x.meet y).st ids).o j=.tr):(x.st ids).o j=.tr∧(y.st ids).o j=.tr:=by
 change dm ids (List.zipWith nF x.os y.os) j=.tr at h;rcases Kd (f:=nF) ids x.os y.os j with h0|h0
 ·rw[h0] at h;cases h
 ·rw[h0] at h;exact aqm h
theorem Snap.meet_ok1 {x y:Snap}(h:Inv C (x.st ids) ρ σ own hv w0 σ0 A a w):Inv C ((x.meet y).st ids) ρ σ own hv w0 σ0 (fun _=>False) a w:=by
 have hc:Compat (x.st ids) hv ((x.meet y).st ids) hv:=⟨fun _=>bl _,fun _ _=>rfl⟩
 refine h.weaken (fun t=>?_) (fun j=>?_) (Snap.noOpt _ _) (fun j hj=>⟨(abC hj).1,rfl⟩)
 ·refine aG.mono' (ρ:=ρ) (.refl σ) hc (Snap.noOpt _ _ t) ?_;show aG C (x.st ids) ρ σ hv (cw ((List.zipWith jx x.rs y.rs).getD t .none)) _ _;rcases Mk (f:=jx) x.rs y.rs t with h0|⟨s,u,h1,h2,h3⟩
  ·rw[h0];trivial
  ·rw[h3];exact awz (by rw[←h1];exact h.regs t)
 ·refine cg.mono (S:=x.st ids) (ρ:=ρ) (own:=own) (hv:=hv) (.refl σ) hc (w:=w) rfl rfl (fun k hk=>⟨hk,rfl⟩) ?_;show cg C _ ρ σ own hv w w0.heap.size j (dm ids (List.zipWith nF x.os y.os) j);rcases Kd (f:=nF) ids x.os y.os j with h0|h0
  ·rw[h0];trivial
  ·rw[h0];exact aqk (h.objs j)
theorem Snap.meet_ok2 {x y:Snap}(h:Inv C (y.st ids) ρ σ own hv w0 σ0 A a w):Inv C ((x.meet y).st ids) ρ σ own hv w0 σ0 (fun _=>False) a w:=by
 have hc:Compat (y.st ids) hv ((x.meet y).st ids) hv:=⟨fun _=>bl _,fun _ _=>rfl⟩
 refine h.weaken (fun t=>?_) (fun j=>?_) (Snap.noOpt _ _) (fun j hj=>⟨(abC hj).2,rfl⟩)
 ·refine aG.mono' (ρ:=ρ) (.refl σ) hc (Snap.noOpt _ _ t) ?_;show aG C (y.st ids) ρ σ hv (cw ((List.zipWith jx x.rs y.rs).getD t .none)) _ _;rcases Mk (f:=jx) x.rs y.rs t with h0|⟨s,u,h1,h2,h3⟩
  ·rw[h0];trivial
  ·rw[h3];exact awA (by rw[←h2];exact h.regs t)
 ·refine cg.mono (S:=y.st ids) (ρ:=ρ) (own:=own) (hv:=hv) (.refl σ) hc (w:=w) rfl rfl (fun k hk=>⟨hk,rfl⟩) ?_;show cg C _ ρ σ own hv w w0.heap.size j (dm ids (List.zipWith nF x.os y.os) j);rcases Kd (f:=nF) ids x.os y.os j with h0|h0
  ·rw[h0];trivial
  ·rw[h0];exact aql (h.objs j)
end
end Cx
namespace Cx
open Go Go.RowKit
def vn (C:Ctx)(S:St)(T:TypeId)(x:Operand):List Nat:=
 match fC S [] x,qp C.P T,C.P.info? T with
 |.ptr j _ off,some true,some inf=>(match S.o j with|.box _ shs=>CZ ((shs.drop off).take inf.size)|_=>[])
 |_,_,_=>[]
def B1 (C:Ctx)(S:St):ResultVar→Option (St×Ty×PE)
 |.tmp t=>(use C (S.fzs (bP S [] [.tmp t])) [] (.tmp t)).map fun x=>(S.fzs (bP S [] [.tmp t]),x.1,x.2)
 |.cell b T=>
  match tP C (S.fzs (vn C S T (.tmp b))) [] 0 T (.tmp b) with
  |some (.dat ty,[.setR 0 e])=>some (S.fzs (vn C S T (.tmp b)),ty,e)
  |some (.obj j ver,[.setR _ _])=>
   bif Nat.beq ver (((S.fzs (vn C S T (.tmp b))).fz j).ver j) then
    match((S.fzs (vn C S T (.tmp b))).fz j).o j with
    |.fz ty=>some ((S.fzs (vn C S T (.tmp b))).fz j,ty,.o j)
    |_=>none
   else none
  |_=>none
def uk (C:Ctx):List ResultVar→St→Option (St×List Ty×List PE)
 |[],S=>some (S,[],[])
 |x::xs,S=>(B1 C S x).bind fun r=>(uk C xs r.1).map fun q=>(q.1,r.2.1::q.2.1,r.2.2::q.2.2)
def ae1 (C:Ctx)(fn:Func)(S:St)(res:Ty):Option PE:=
 (uk C fn.results.toList S).bind fun r=>
    match r.2.1,r.2.2 with
    |[ty],[e]=>bif Ty.sub ty res then some e else none
    |fE,es=>bif Ty.sub (.tup fE) res then some (.tup es) else none
def ae3 (C:Ctx)(fn:Func)(S:St)(T:TypeId)(e:Ty):Option PE:=
 match fn.results.toList with
 |[.tmp t]=>
  match kI S [] t with
  |.obj j ver=>bif Nat.beq ver (S.ver j) then(match S.o j with|.row U f=>bif Nat.beq U T&&Ty.beq f e then some (.o j) else none|_=>none) else none
  |_=>none
 |[.cell b U]=>
  match tP C S [] 0 U (.tmp b) with
  |some (.obj j ver,[.setR _ _])=>bif Nat.beq ver (S.ver j) then(match S.o j with|.row U f=>bif Nat.beq U T&&Ty.beq f e then some (.o j) else none|_=>none) else none
  |_=>none
 |_=>none
def J7 (S:St):Nat→List Sh→Bool
 |_,[]=>true
 |t,s::l=>tR s&&((nB s||isNone s||Sh.beq (S.r t) s)&&J7 S (t+1) l)
def Qh (S:St)(shs:List Sh)(obs:List (Nat×Ob)):Bool:=J7 S 0 shs&&obs.all fun x=>Ob.beq (S.o x.1) x.2
def Tr (fE:List Ty)(es:List PE)(res:Ty):Option PE:=
 match fE,es with
 |[ty],[e]=>bif Ty.sub ty res then some e else none
 |fE,es=>bif Ty.sub (.tup fE) res then some (.tup es) else none
def ae2 (C:Ctx)(fn:Func)(S:St)(res:Ty)(shs:List Sh)(obs:List (Nat×Ob)):Option PE:=
 (uk C fn.results.toList S).bind fun r=>bif Qh r.1 shs obs then(Tr r.2.1 r.2.2 res).map fun e=>.tup (e::obs.map fun x=>.o x.1) else none
def lW (S:St):List AgC→List RC→Bool
 |[],[]=>true
 |.dat t::a,.dat u::l=>Ty.sub t u&&t.one&&lW S a l
 |.obj j ver::a,.row T e::l=>Nat.beq ver (S.ver j)&&(match S.o j with|.row U f=>Nat.beq U T&&Ty.beq f e|_=>false)&&lW S a l
 |_,_=>false
def oc:List AgC→List Nat
 |[]=>[]
 |.dat _::l=>oc l
 |.obj j _::l=>j::oc l
def mf (x:PE):List AgC→Nat→List PE
 |[],_=>[]
 |.dat _::l,i=>.cell x i::mf x l (i+1)
 |.obj j _::l,i=>.o j::mf x l (i+1)
def ae5 (C:Ctx)(fn:Func)(S:St)(l:List RC):Option PE:=
 match fn.results.toList with
 |[.tmp t]=>
  match kI S [] t with
  |.agg a=>bif lW S a l&&gA (oc a) then some (.mk (mf (.r t) a 0)) else none
  |_=>none
 |[.cell b U]=>
  match tP C S [] 0 U (.tmp b) with
  |some (.agg a,[.setR t0 e])=>bif (lW S a l&&gA (oc a))&&Nat.beq t0 0 then some (.mk (mf e a 0)) else none
  |_=>none
 |_=>none
def rT:List AgC→Nat→Option Nat
 |[],_=>none
 |.dat _::l,j=>(rT l j).map (·+1)
 |.obj i _::l,j=>bif Nat.beq i j then some 0 else(rT l j).map (·+1)
def yq (C:Ctx)(fn:Func)(s:Sig)(S:St):Option PE:=
 match s.mode with
 |.ob shs obs=>ae2 C fn S s.res shs obs
 |.dat=>ae1 C fn S s.res
 |.rows l=>ae5 C fn S l
 |.it J=>match fn.results.toList,S.o J with|[],.tr=>some (.o J)|_,_=>none
 |.row T e=>ae3 C fn S T e
def LL (P:Program)(tmps:Array Value)(w:World):ResultVar→Value→Prop
 |.tmp t,v=>v=tmps.getD t undef
 |.cell a T,v=>∃k,tmps.getD a undef=.pointer (some k)∧(loadVar T k).run P w=.ok v w
def LM (P:Program)(tmps:Array Value)(w:World):List ResultVar→List Value→Prop
 |[],[]=>True
 |x::xs,v::vs=>LL P tmps w x v∧LM P tmps w xs vs
 |_,_=>False
def vx:List Value→Value
 |[v]=>v
 |vs=>.tuple vs.toArray
section
variable {C:Ctx} {S:St} {ρ:Env} {σ:Im} {own:Nat→Option Nat} {hv:Nat→Value} {w0:World} {σ0:Base} {A:Nat→Prop} {a:Act} {w:World} {gs:List (Nat×Bool)} {Φ:aR} {dst:Nat}
theorem abj {P:Program}{tmps:Array Value}{w:World}(f:ResultVar→Sem Value)(Zp:∀t,f (.tmp t)=pure (tmps.getD t undef))(Zq:∀b T,f (.cell b T)=(do loadVar T (←asAddr (tmps.getD b undef)))):
 ∀(l:List ResultVar) (vs:List Value),LM P tmps w l vs→(l.mapM f).run P w=.ok vs w
 |[],[],_=>by simp[Sem.run_pure]
 |x::l,v::vs,h=>by
  obtain⟨hx,Qb⟩:=h;have ih:=abj f Zp Zq l vs Qb;rw[WV];have h1:(f x).run P w=.ok v w:=by
   cases x with
   |tmp t=>rw[Zp];simp only[LL] at hx;subst hx;simp[Sem.run_pure]
   |cell b T=>
    obtain⟨k,h1,h2⟩:=hx;rw[Zq,h1];simp[asAddr,h2]
  simp[Sem.run_bind,h1,ih,Sem.run_pure,Result.andThen_ok]
theorem yp {P:Program}{fn:Func}{tmps:Array Value}{w:World}{vs:List Value}(h:LM P tmps w fn.results.toList vs):
 (results fn tmps).run P w=.ok (vx vs) w:=by
 unfold results;rw[Array.mapM_eq_mapM_toList];simp only[Sem.run_bind];simp only[bind_map_left,map_eq_pure_bind,Sem.run_bind,bind_assoc,pure_bind];rw[abj (tmps:=tmps) _ (fun t=>rfl) (fun b T=>rfl) _ _ h];simp only[Result.andThen_ok,Sem.run_pure];rcases vs with _|⟨v,_|⟨u,vs⟩⟩<;>simp[Sem.run_pure,vx]
theorem Ka {o:Oper}{T:TypeId}{b:Nat}{v:Value}(ho:o.op=.load T (.tmp b))(hx:(execOp a.eval o).run C.P w=.ok (.value v) w):LL C.P a.tmps w (.cell b T) v:=by
 have he:a.eval (.tmp b)=a.tmps.getD b undef:=by simp[Act.eval]
 simp only[execOp,ho,Instr.loadAt,he] at hx;cases hp:a.tmps.getD b undef with
 |pointer p=>
  cases p with
  |none=>rw[hp] at hx;simp[Instr.sureAddr] at hx
  |some k=>
   rw[hp] at hx;refine⟨k,hp,?_⟩;simp[Instr.sureAddr] at hx;cases hr:(loadVar T k).run C.P w with
   |ok u w'=>rw[hr] at hx;simp at hx;rw[hx.1,hx.2]
   |halt u w'=>rw[hr] at hx;simp at hx
 |_=>rw[hp] at hx;simp[Instr.sureAddr] at hx
theorem as1 (h:Inv C S ρ σ own hv w0 σ0 A a w)(hC:CtxOK C σ0){x:ResultVar}{r:St×Ty×PE}(hr:B1 C S x=some r):
 ∃σ' own' v,σ.le σ'∧Inv C r.1 ρ σ' own' hv w0 σ0 A a w∧LL C.P a.tmps w x v∧Rep C.cap σ' r.2.1 v (r.2.2.ev ρ):=by
 cases x with
 |tmp t=>
  simp only[B1,aC] at hr;obtain⟨y,hy,rfl⟩:=hr;obtain⟨σ1,dh,hle,h1⟩:=Inv.fzs (bP S [] [.tmp t]) h;refine⟨σ1,dh,a.tmps.getD t undef,hle,h1,rfl,?_⟩;have:=cj (gs:=[]) h1 hC rfl hy;simpa [Act.eval] using this
 |cell b T=>
  simp only[B1] at hr;obtain⟨σ1,dh,hle,h1⟩:=Inv.fzs (vn C S T (.tmp b)) h;generalize OD:S.fzs (vn C S T (.tmp b))=S1 at hr h1
  let o:Oper:={(default:Oper) with op:=.load T (.tmp b)}
  split at hr
  ·rename_i ty e hl;cases hr;have hq:=E2 (Φ:=fun _ _=>none) (dst:=0) (gs:=[]) h1 hC rfl hl (o:=o) rfl;obtain⟨v,d,e1,e2,e3,e4⟩:=hq _ rfl;have hd:d=e.ev ρ:=by
        have:=congrArg (fun x:Env=>x.r 0) e1;simpa [Env.setR,aK] using this.symm
   subst hd;exact⟨σ1,dh,v,hle,h1,Ka rfl e2,e3⟩
  ·rename_i j ver t0 e0 hl;have hq:=E2 (Φ:=fun _ _=>none) (dst:=0) (gs:=[]) h1 hC rfl hl (o:=o) rfl;obtain⟨v,d,e1,e2,e3,e4⟩:=hq _ rfl;cases hb:Nat.beq ver ((S1.fz j).ver j)<;>simp only[hb,cond_true,cond_false] at hr
   ·cases hr
   split at hr
   case h_2=>cases hr
   rename_i ty bm;cases hr;obtain⟨σ2,iV,jT,h2⟩:=h1.fz j;refine⟨σ2,iV,v,hle.trans jT,h2,Ka rfl e2,?_⟩;have ho:=h2.objs j;rw[bm] at ho;have dP:ver=S1.ver j:=by rw[aB hb,(I2 S1 j).1]
   rw[e3.2 dP];exact ho.2
  ·cases hr
theorem Tq (hC:CtxOK C σ0):∀(l:List ResultVar) {S:St} {σ:Im} {own:Nat→Option Nat} {r:St×List Ty×List PE},Inv C S ρ σ own hv w0 σ0 A a w→uk C l S=some r→
 ∃σ' own' vs,σ.le σ'∧Inv C r.1 ρ σ' own' hv w0 σ0 A a w∧LM C.P a.tmps w l vs∧vs.length=r.2.1.length∧r.2.2.length=r.2.1.length∧
  ∀(i:Nat) (t:Ty),r.2.1[i]?=some t→Rep C.cap σ' t (vs.getD i undef) ((PE.evs ρ r.2.2).getD i .none)
 |[],S,σ,own,r,h,hr=>by
  simp only[uk,aT] at hr;subst hr;exact⟨σ,own,[],.refl σ,h,trivial,rfl,rfl,fun i t e=>by simp at e⟩
 |x::l,S,σ,own,r,h,hr=>by
  simp only[uk,av,aC] at hr;obtain⟨r1,h1,q,h2,rfl⟩:=hr;obtain⟨σ1,dh,v,hle,i1,hx,bS⟩:=as1 h hC h1;obtain⟨σ2,iV,vs,jT,i2,Qb,oA,tA,nv⟩:=Tq hC l i1 h2;refine⟨σ2,iV,v::vs,hle.trans jT,i2,⟨hx,Qb⟩,by simp[oA],by simp[tA],fun i t e=>?_⟩;cases i with
  |zero=>simp at e;subst e;simpa [PE.evs] using bS.mono jT
  |succ i=>simp at e;simpa [PE.evs] using nv i t e
def G6 (C:Ctx)(s:Sig)(σ:Im)(own:Nat→Option Nat)(w0 w:World)(tmps:Array Value)(d:D)(v:Value):Prop:=
 ∀shs obs,s.mode=.ob shs obs→∃hv dr os,d=.tup (dr::os)∧os.length=obs.length∧(∀k j,own k=some j→w0.heap.size≤k∧k<w.heap.size∧(∀o,σ.c k o=none)∧σ.m k=none)∧
  (∀(t:Nat) (sh:Sh),shs[t]?=some sh→nB sh=false→∀d,aG C (fT shs obs) (mL obs [] os) σ hv sh (tmps.getD t undef) d)∧(∀j,cg C (fT shs obs) (mL obs [] os) σ own hv w w0.heap.size j (eg obs j))∧Rep C.cap σ s.res v dr
theorem G6.no {C:Ctx}{s:Sig}{σ:Im}{own:Nat→Option Nat}{w0 w:World}{tmps:Array Value}{d:D}{v:Value}(h:qq s.mode=false):G6 C s σ own w0 w tmps d v:=fun shs obs e=>by rw[e] at h;cases h
def MF (C:Ctx)(w0:World)(σ0:Base)(fn:Func)(s:Sig)(d:D)(a:Act)(w:World):Prop:=
 ∃v σ,(∃own t fx cx,FrOK σ own w0.heap.size σ0 w t fx cx∧(∀J,s.mode=.it J→d=t)∧G6 C s σ own w0 w a.tmps d v)∧(results fn a.tmps).run C.P w=.ok v w∧σ0.le σ∧σ.ok w∧Below σ0.B w0 w∧
  (∀k o x,σ.c k o=some x→σ0.c k o=some x∨w0.heap.size≤k)∧(∀k x,σ.m k=some x→σ0.m k=some x∨w0.heap.size≤k)∧me C s σ w0 w v d
theorem Inv.fr (h:Inv C S ρ σ own hv w0 σ0 A a w){s:Sig}{d:D}{v:Value}(hm:∀J,s.mode≠.it J)(ho:qq s.mode=false):∃own t fx cx,FrOK σ own w0.heap.size σ0 w t fx cx∧(∀J,s.mode=.it J→d=t)∧G6 C s σ own w0 w a.tmps d v:=by
 obtain⟨t,fx,cx,h1,_⟩:=h.frame;exact⟨own,t,fx,cx,h1,fun J e=>absurd e (hm J),.no ho⟩
theorem as0 {cap:Nat→Option CSig}{fE:List Ty}{es:List PE}{res:Ty}{pe:PE}{vs:List Value}(hr:Tr fE es res=some pe)(oA:vs.length=fE.length)(tA:es.length=fE.length)
 (nv:∀(i:Nat) (t:Ty),fE[i]?=some t→Rep cap σ t (vs.getD i undef) ((PE.evs ρ es).getD i .none)):Rep cap σ res (vx vs) (pe.ev ρ):=by
 have many:fE.length≠1→(bif Ty.sub (.tup fE) res then some (PE.tup es) else none)=some pe→Rep cap σ res (vx vs) (pe.ev ρ):=by
  intro aE hr;cases hb:Ty.sub (.tup fE) res<;>simp only[hb,cond_true,cond_false] at hr
  ·cases hr
  cases hr;have cq:vx vs=Value.tuple vs.toArray:=by
   match vs,oA with
   |[],_=>rfl
   |[v],hl=>exact absurd hl.symm aE
   |_::_::_,_=>rfl
  rw[cq];exact Rep.sub (Rep.tup _ _ _ (by rw[oA]) (by rw[PE.evs_eq,fG,tA]) nv) hb
 match fE,es,vs,oA,tA,nv,many,hr with
 |[ty],[e],[v],_,_,nv,_,hr=>
  simp only[Tr] at hr;cases hb:Ty.sub ty res<;>simp only[hb,cond_true,cond_false] at hr
  ·cases hr
  cases hr;have:=nv 0 ty rfl;exact Rep.sub (by simpa [PE.evs,vx] using this) hb
 |[],[],_,_,_,_,many,hr=>exact many (by simp) hr
 |_::_::_,_::_::_,_,_,_,_,many,hr=>exact many (by simp) hr
theorem aaD:∀{l:List Sh} {k:Nat},J7 S k l=true→∀(t:Nat) (s:Sh),l[t]?=some s→nB s=false→tR s=true∧(s=.none∨S.r (k+t)=s)
 |[],k,_,t,s,h,_=>by simp at h
 |x::l,k,hk,t,s,h,hd=>by
  simp only[J7,aq,gF] at hk;cases t with
  |zero=>
   simp at h;subst h;refine⟨hk.1,?_⟩;rcases hk.2.1 with(h1|h1)|h1
   ·rw[hd] at h1;cases h1
   ·left;cases x<;>first|rfl|cases h1
   ·exact .inr (Sh.beq_eq _ _ h1)
  |succ t=>
   simp at h;have:=aaD hk.2.2 t s h hd
   rwa [wh,Cv 1 t] at this
theorem aa1:∀{obs:List (Nat×Ob)},(obs.all fun x=>Ob.beq (S.o x.1) x.2)=true→∀j,eg obs j=.dead∨(S.o j=eg obs j∧nE obs (obs.map fun x=>ρ.o x.1) j=ρ.o j)
 |[],_,j=>.inl rfl
 |x::obs,h,j=>by
  simp only[qV,aq] at h;simp only[eg,gU,nE];cases hb:Nat.beq x.1 j<;>simp only[cond_true,cond_false]
  ·exact aa1 h.2 j
  ·rw[←aB hb];exact .inr ⟨Ob.beq_eq _ _ h.1,rfl⟩
theorem awx {ty:Ty}{fE:List Ty}{es:List PE}(h:∀ty e,fE=[ty]→es=[e]→False)(hl:es.length=fE.length):fE.length≠1:=by
 intro h1
 match fE,es with
 |[ty],[e]=>exact h ty e rfl rfl
 |[],_=>simp at h1
 |_::_::_,_=>simp at h1
 |[_],[]=>simp at hl
 |[_],_::_::_=>simp at hl
theorem ae4 (h:Inv C S ρ σ own hv w0 σ0 A a w){T:TypeId}{e:Ty}{j ver:Nat}{v:Value}{d:D}(hc:aG C S ρ σ hv (.obj j ver) v d){pe:PE}
 (hr:(bif Nat.beq ver (S.ver j) then(match S.o j with|.row U f=>bif Nat.beq U T&&Ty.beq f e then some (PE.o j) else none|_=>none) else none)=some pe):
 ∃cells xs,pe.ev ρ=.list xs∧w.ownsRow w0.heap.size T e.size v xs.length cells∧ej C.cap σ e cells xs∧∀k,v.ownBlock=some k→(∀o,σ.c k o=none)∧σ.m k=none:=by
 cases hb:Nat.beq ver (S.ver j)<;>simp only[hb,cond_true,cond_false] at hr
 ·cases hr
 split at hr
 case h_2=>cases hr
 rename_i U f ho;cases de:Nat.beq U T&&Ty.beq f e<;>simp only[de,cond_true,cond_false] at hr
 ·cases hr
 cases hr;simp only[aq] at de;have hU:=aB de.1;have hf:=Ty.beq_eq _ _ de.2;subst hU hf;have hj:=h.objs j;rw[ho] at hj;obtain⟨cells,xs,h1,h2,h3,h4⟩:=hj;have hv':=hc.2 (aB hb);subst hv';exact⟨cells,xs,h1,h2,h3,fun k hk=>(h.owns k j (h4 k hk)).2.2⟩
theorem ae0:∀(l:List ResultVar) {S:St} {r:St×List Ty×List PE},uk C l S=some r→r.1.ver=S.ver
 |[],S,r,h=>by simp only[uk,aT] at h;subst h;rfl
 |x::l,S,r,h=>by
  simp only[uk,av,aC] at h;obtain⟨r1,h1,q,h2,rfl⟩:=h;rw[ae0 l h2];cases x with
  |tmp t=>
   simp only[B1,aC] at h1;obtain⟨y,_,rfl⟩:=h1;exact(oq _ _).1
  |cell b T=>
   simp only[B1] at h1;split at h1
   ·cases h1;exact(oq _ _).1
   ·rename_i j ver t0 e0 _;cases hb:Nat.beq ver (((S.fzs (vn C S T (.tmp b))).fz j).ver j)<;>simp only[hb,cond_true,cond_false] at h1
    ·cases h1
    ·split at h1
     ·cases h1;rw[(I2 _ _).1];exact(oq _ _).1
     ·cases h1
   ·cases h1
theorem RF:∀{a:List AgC} {i j ver:Nat},(oc a).Nodup→a[i]?=some (.obj j ver)→rT a j=some i
 |[],i,j,ver,_,h=>by simp at h
 |.dat t::a,i,j,ver,hn,h=>by
  cases i with
  |zero=>simp at h
  |succ i=>simp at h;simp only[rT];rw[RF (a:=a) hn h];rfl
 |.obj k u::a,i,j,ver,hn,h=>by
  simp only[oc,m6] at hn;cases i with
  |zero=>simp at h;obtain⟨rfl,_⟩:=h;simp only[rT,gH];rfl
  |succ i=>
   simp at h;have hm:∀{a:List AgC} {i:Nat},a[i]?=some (.obj j ver)→j∈oc a:=by
        intro a
        induction a with
        |nil=>intro i h;simp at h
        |cons x a ih=>
         intro i h;cases i with
         |zero=>simp at h;subst h;simp[oc]
         |succ i=>simp at h;have:=ih h;cases x<;>simp[oc,this]
   have aE:k≠j:=fun e=>hn.1 (e▸hm h);simp only[rT];rw[ew aE,cond_false,RF hn.2 h];rfl
theorem Sf (h:Inv C S ρ σ own hv w0 σ0 A a w){x0:PE}{vs:List Value}{ds:List D}(hd:x0.ev ρ=.agg ds)(ow:Nat→Option Nat):∀(a:List AgC) (l:List RC) (i:Nat),lW S a l=true→(∀(n:Nat) (c:AgC),a[n]?=some c→uq C S σ hv c (vs.getD (i+n) undef) (ds.getD (i+n) .none))→
 (∀(n j ver k:Nat),a[n]?=some (.obj j ver)→own k=some j→ow k=some (i+n))→
 a.length=l.length∧(PE.evc ρ (mf x0 a i)).length=l.length∧∀(n:Nat) (c:RC),l[n]?=some c→W0 C σ w0.heap.size w ow (i+n) c (vs.getD (i+n) undef) ((PE.evc ρ (mf x0 a i)).getD n .none)
 |[],[],i,_,_,_=>⟨rfl,rfl,fun n c hc=>by simp at hc⟩
 |[],_::_,i,hf,_,_=>by simp[lW] at hf
 |x::a,l,i,hf,Ji,tC=>by
  have e:∀n,i+1+n=i+(n+1):=fun n=>by omega
  have DU:∀(n:Nat) (c:AgC),a[n]?=some c→uq C S σ hv c (vs.getD (i+1+n) undef) (ds.getD (i+1+n) .none):=fun n c hc=>by rw[e];exact Ji (n+1) c (by simpa using hc)
  have ZX:∀(n j ver k:Nat),a[n]?=some (.obj j ver)→own k=some j→ow k=some (i+1+n):=fun n j ver k hc hk=>by rw[e];exact tC (n+1) j ver k (by simpa using hc) hk
  have h0:=Ji 0 x rfl;rw[iI] at h0;cases x with
  |dat ty=>
   cases l with
   |nil=>simp[lW] at hf
   |cons y l=>
    cases y with
    |row T e=>simp[lW] at hf
    |dat u=>
     simp only[lW,aq] at hf;obtain⟨g1,g2,g3⟩:=Sf h hd ow a l (i+1) hf.2 DU ZX;have e1:PE.evc ρ (mf x0 (.dat ty::a) i)=ds.getD i .none::PE.evc ρ (mf x0 a (i+1)):=by
       simp only[mf,PE.evc,PE.ev,hd,D.c];have:=h0.2.dcells h0.1;simp only[D.cells] at this ⊢;rw[this];rfl
     rw[e1];refine⟨by simp[g1],by simp[g2],fun n c hc=>?_⟩;cases n with
     |zero=>simp at hc;subst hc;exact⟨by rw[←(Ty.sub_one _ _ hf.1.1).1];exact h0.1,h0.2.sub hf.1.1⟩
     |succ n=>simp at hc;have:=g3 n c hc;rw[e] at this;simpa using this
  |obj j ver=>
   cases l with
   |nil=>simp[lW] at hf
   |cons y l=>
    cases y with
    |dat u=>simp[lW] at hf
    |row T ty=>
     simp only[lW,aq] at hf;obtain⟨⟨f1,f2⟩,f3⟩:=hf;obtain⟨g1,g2,g3⟩:=Sf h hd ow a l (i+1) f3 DU ZX;have bh:=h.objs j;split at f2
     case h_2=>cases f2
     rename_i U f eo;rw[eo] at bh;simp only[aq] at f2;have q1:=aB f2.1;have q2:=Ty.beq_eq _ _ f2.2;subst q1 q2;obtain⟨cells,xs,k1,k2,k3,k4⟩:=bh;have tF:=h0.2 (aB f1);have e1:PE.evc ρ (mf x0 (.obj j ver::a) i)=.list xs::PE.evc ρ (mf x0 a (i+1)):=by
         simp only[mf,PE.evc,PE.ev,k1,D.cells];rfl
     rw[e1];refine⟨by simp[g1],by simp[g2],fun n c hc=>?_⟩;cases n with
     |zero=>
      simp at hc;subst hc;rw[iI,tF];exact⟨cells,xs,rfl,k2,k3,fun k hk=>by have:=tC 0 j ver k rfl (k4 k hk);rwa [iI] at this⟩
     |succ n=>simp at hc;have:=g3 n c hc;rw[e] at this;simpa using this
theorem as2 (h:Inv C S ρ σ own hv w0 σ0 A a w)(hC:CtxOK C σ0)(dP:∀j,S.ver j=0){fn:Func}{s:Sig}{pe:PE}(hr:yq C fn s S=some pe):MF C w0 σ0 fn s (pe.ev ρ) a w:=by
 unfold yq at hr;split at hr
 ·rename_i shs obs hm;simp only[ae2,av] at hr;obtain⟨r,aP,hr⟩:=hr;obtain⟨σ1,dh,vs,hle,h1,xn,oA,tA,nv⟩:=Tq hC _ h aP;cases hb:Qh r.1 shs obs<;>simp only[hb,cond_true,cond_false] at hr
  ·cases hr
  simp only[aC] at hr;obtain⟨e,he,rfl⟩:=hr;simp only[Qh,aq] at hb;have bS:=as0 he oA tA nv;obtain⟨t,fx,cx,hf,_⟩:=h1.frame;have rv:Compat r.1 hv (fT shs obs) hv:=⟨fun j=>by rw[ae0 _ aP,dP];exact pC _,fun _ _=>rfl⟩
  have Pw:(PE.evs ρ (e::obs.map fun x=>.o x.1))=e.ev ρ::obs.map (fun x=>ρ.o x.1):=by simp[PE.evs_eq,GW,PE.ev]
  refine⟨_,σ1,⟨dh,t,fx,cx,hf,(fun J e=>by rw[hm] at e;cases e),fun TC aDn e'=>?_⟩,yp xn,h1.le,h1.ok,h1.below,h1.newc,h1.newm,by unfold me;rw[hm];trivial⟩;rw[hm] at e';cases e';refine⟨hv,e.ev ρ,obs.map fun x=>ρ.o x.1,by simp only[PE.ev];rw[Pw],by simp,h1.owns,fun t sh hs hd d=>?_,fun j=>?_,bS⟩
  ·obtain⟨fp,e1⟩:=aaD hb.1 t sh hs hd;rcases e1 with e1|e1
   ·subst e1;trivial
   ·rw[gI] at e1;have:=h1.regs t;rw[e1] at this;have dD:∀gs s',sh≠.opt gs s':=fun gs s' e=>by subst e;cases fp
    have:=aG.mono' (S':=fT shs obs) (ρ':=mL obs [] (obs.map fun x=>ρ.o x.1)) (.refl σ1) rv dD this;cases sh with
    |dat t=>cases hd
    |opt gs s=>cases fp
    |eptr j v o q=>cases fp
    |agg l=>cases fp
    |_=>exact this
  ·rcases aa1 (ρ:=ρ) hb.2 j with e1|⟨e1,e2⟩
   ·rw[e1];trivial
   ·rw[←e1];exact(h1.objs j).mono (.refl σ1) rv rfl e2 (fun k hk=>⟨hk,rfl⟩)
 ·rename_i hm;simp only[ae1,av] at hr;obtain⟨r,aP,hr⟩:=hr;obtain⟨σ1,dh,vs,hle,h1,xn,oA,tA,nv⟩:=Tq hC _ h aP;refine⟨_,σ1,h1.fr (fun J e=>by rw[hm] at e;cases e) (by rw[hm];rfl),yp xn,h.le.trans hle,h1.ok,h1.below,h1.newc,h1.newm,?_⟩;unfold me;rw[hm];simp only;split at hr
  ·rename_i ty e e1 e2;rw[e1] at oA nv;rw[e2] at nv;cases hb:Ty.sub ty s.res<;>simp only[hb,cond_true,cond_false] at hr
   ·cases hr
   cases hr;obtain⟨v,rfl⟩:∃v,vs=[v]:=by
        match vs,oA with
        |[v],_=>exact⟨v,rfl⟩
   have:=nv 0 ty rfl;exact Rep.sub (by simpa [PE.evs,vx] using this) hb
  ·rename_i aE;cases hb:Ty.sub (.tup r.2.1) s.res<;>simp only[hb,cond_true,cond_false] at hr
   ·cases hr
   cases hr;have ZS:=awx (ty:=.bool) aE tA;have cq:vx vs=Value.tuple vs.toArray:=by
        match vs,oA with
        |[],_=>rfl
        |[v],hl=>rw[←hl] at ZS;exact absurd rfl ZS
        |_::_::_,_=>rfl
   rw[cq];refine Rep.sub (Rep.tup _ _ _ (by rw[oA]) (by rw[PE.evs_eq,fG,tA]) nv) hb
 ·rename_i l hm;have key:∃(v:Value) (x0:PE) (vs:List Value) (ds:List D) (ag:List AgC),(results fn a.tmps).run C.P w=.ok v w∧pe=.mk (mf x0 ag 0)∧x0.ev ρ=.agg ds∧v=.agg vs.toArray∧lW S ag l=true∧gA (oc ag)=true∧
        vs.length=ag.length∧ds.length=ag.length∧∀(i:Nat) (c:AgC),ag[i]?=some c→uq C S σ hv c (vs.getD i undef) (ds.getD i .none):=by
   unfold ae5 at hr;split at hr
   ·rename_i t fN;split at hr
    case h_2=>cases hr
    rename_i ag gN;cases hb:(lW S ag l&&gA (oc ag))<;>simp only[hb,cond_true,cond_false] at hr
    ·cases hr
    cases hr;simp only[aq] at hb;have gg:=(nS (gs:=[]) h rfl t).1;rw[gN] at gg;obtain⟨vs,ds,e1,e2,e3,e4,e5⟩:=gg;exact⟨_,.r t,vs,ds,ag,yp (vs:=[a.tmps.getD t undef]) (by rw[fN];exact⟨rfl,trivial⟩),rfl,e2,e1,hb.1,hb.2,e3,e4,e5⟩
   ·rename_i b U fN;split at hr
    case h_2=>cases hr
    rename_i ag t0 x0 hl;cases hb:((lW S ag l&&gA (oc ag))&&Nat.beq t0 0)<;>simp only[hb,cond_true,cond_false] at hr
    ·cases hr
    cases hr;simp only[aq] at hb;obtain⟨hb,PS⟩:=hb;obtain rfl:=aB PS;have hq:=E2 (Φ:=fun _ _=>none) (dst:=0) (gs:=[]) h hC rfl hl (o:={(default:Oper) with op:=.load U (.tmp b)}) rfl;obtain⟨v,d,q1,q2,q3,_⟩:=hq _ rfl;obtain⟨vs,ds,e1,e2,e3,e4,e5⟩:=q3;have hd:x0.ev ρ=d:=by
     have:=congrArg (fun e:Env=>e.r 0) q1;simpa [Env.setR,bV] using this
    exact⟨_,x0,vs,ds,ag,yp (vs:=[v]) (by rw[fN];exact⟨Ka rfl q2,trivial⟩),rfl,by rw[hd,e2],e1,hb.1,hb.2,e3,e4,e5⟩
   ·cases hr
  obtain⟨v,x0,vs,ds,ag,ak,rfl,e2,e1,b1,b2,e3,e4,e5⟩:=key
  obtain⟨g1,g2,g3⟩:=Sf h (x0:=x0) (vs:=vs) (ds:=ds) e2 (fun k=>(own k).bind (rT ag)) ag l 0 b1 (fun n c hc=>by rw[gI];exact e5 n c hc) (fun n j ver k hc hk=>by
   show(own k).bind (rT ag)=some (0+n);rw[hk,kl,RF (mI b2) hc,gI])
  simp only[gI] at g3;refine⟨_,σ,h.fr (fun J e=>by rw[hm] at e;cases e) (by rw[hm];rfl),ak,h.le,h.ok,h.below,h.newc,h.newm,?_⟩;unfold me;rw[hm];refine⟨vs,PE.evc ρ (mf x0 ag 0),fun k=>(own k).bind (rT ag),e1,by simp only[PE.ev],by omega,g2,g3,fun k i hk=>?_⟩;cases ho:own k with
  |none=>
   have hk:(own k).bind (rT ag)=some i:=hk;rw[ho] at hk;cases hk
  |some j=>exact h.owns k j ho
 ·rename_i J hm;split at hr
  case h_2=>cases hr
  rename_i fN hJ;cases hr;obtain⟨t,fx,cx,h1,h2⟩:=h.frame;refine⟨_,σ,⟨own,t,fx,cx,h1,fun J' e=>?_,.no (by rw[hm];rfl)⟩,yp (vs:=[]) (by rw[fN];trivial),h.le,h.ok,h.below,h.newc,h.newm,by unfold me;rw[hm];trivial⟩;exact(h2 J hJ).2
 ·rename_i T e hm;have key:∃v,(results fn a.tmps).run C.P w=.ok v w∧∃cells xs,pe.ev ρ=.list xs∧w.ownsRow w0.heap.size T e.size v xs.length cells∧ej C.cap σ e cells xs∧∀k,v.ownBlock=some k→(∀o,σ.c k o=none)∧σ.m k=none:=by
   unfold ae3 at hr;split at hr
   ·rename_i t ht;split at hr
    case h_2=>cases hr
    rename_i j ver hs;have hc:=(nS (gs:=[]) h rfl t).1;rw[hs] at hc;exact⟨_,yp (vs:=[a.tmps.getD t undef]) (by rw[ht];exact⟨rfl,trivial⟩),ae4 h hc hr⟩
   ·rename_i b U hb;split at hr
    case h_2=>cases hr
    rename_i j ver t0 e0 hl;have hq:=E2 (Φ:=fun _ _=>none) (dst:=0) (gs:=[]) h hC rfl hl (o:={(default:Oper) with op:=.load U (.tmp b)}) rfl;obtain⟨v,d,e1,e2,e3,e4⟩:=hq _ rfl;exact⟨_,yp (vs:=[v]) (by rw[hb];exact⟨Ka rfl e2,trivial⟩),ae4 h e3 hr⟩
   ·cases hr
  obtain⟨v,h1,h2⟩:=key;refine⟨v,σ,h.fr (fun J e=>by rw[hm] at e;cases e) (by rw[hm];rfl),h1,h.le,h.ok,h.below,h.newc,h.newm,?_⟩;unfold me;rw[hm];exact h2
theorem kL.drop {σ:Im}{B D:Nat}:∀{ds:List Deferred},({target:=.collected D,args:=#[]}:Deferred)∉ds→kL σ B ds→kL (σ.drop D) B ds
 |[],_,_=>trivial
 |x::ds,hn,⟨⟨D',h1,h2,h3⟩,h⟩=>by
  simp only[cC,not_or] at hn;refine⟨⟨D',h1,?_,h3⟩,kL.drop hn.2 h⟩;have:D'≠D:=fun e=>hn.1 (by rw[h1,e]);simp[Im.drop,this,h2]
theorem Inv.shut (h:Inv C S ρ σ own hv w0 σ0 A a w)(nm:σ0.fin){x:Deferred}{ds:List Deferred}(hd:a.defers=x::ds):
 ∃D,x.target=.collected D∧w.heap[D]?=some (.deferred (some []))∧Inv C S ρ (σ.drop D) own hv w0 σ0 A {a with defers:=ds} (w.putObj D (.deferred none)):=by
 have oy:=h.defers;rw[hd] at oy;obtain⟨⟨D,rfl,hm,hB,Pl⟩,wW⟩:=oy;have hD:w.heap[D]?=some (.deferred (some [])):=by
  rcases h.ok.m D _ hm with⟨h1,_⟩|⟨_,h2⟩
  ·exact absurd rfl h1
  ·exact h2
 have ib:∀k,k≠D→(w.putObj D (.deferred none)).heap[k]?=w.heap[k]?:=fun k hk=>World.putObj_heap_other hk;have cd:∀k j,own k=some j→k≠D:=fun k j hk e=>by subst e;rw[(h.owns k j hk).2.2.2] at hm;cases hm
 have hR:Im.leR C.cap σ (σ.drop D):=⟨fun r=>r.drop hm,fun _ _ _ e=>e⟩
 have D2:∀k x,(σ.drop D).m k=some x→k≠D∧σ.m k=some x:=by
  intro k x hx;simp only[Im.drop] at hx;split at hx
  ·cases hx
  ·rename_i aE;exact⟨aE,hx⟩
 refine⟨D,rfl,hD,wW.drop Pl,⟨fun k o v hc=>?_,fun k es hc=>?_⟩,⟨h.le.c,fun k es hc=>?_⟩,h.old,h.newc,fun k es hc=>h.newm k es (D2 k es hc).2,h.below.trans ⟨rfl,rfl,rfl,by simp,fun k hk=>ib k (by have:=h.bw;omega)⟩,h.bw,fun k j hk=>?_,fun t=>?_,fun j=>?_,h.opts,?_⟩
 ·have h1:=h.ok.c k o v hc;have aE:k≠D:=fun e=>by subst e;simp[World.cell?,hD] at h1
  rw[World.cell?_of_block (ib k aE)];exact h1
 ·exact(h.ok.m k es (D2 k es hc).2).keep (ib k (D2 k es hc).1)
 ·have aE:k≠D:=fun e=>by
   subst e;have:=h.le.m _ _ hc;rw[hm] at this;cases this;have:=h.old nm _ hc;omega
  simp[Im.drop,aE,h.le.m k es hc]
 ·obtain⟨g1,g2,g3,g4⟩:=h.owns k j hk;exact⟨g1,by simpa using g2,g3,by simp only[Im.drop];split<;>first|rfl|exact g4⟩
 ·exact aG.monoR hR (.refl S hv) (fun _ _ _=>rfl) (fun gs s e=>(h.opts t gs s e).2) (h.regs t)
 ·exact(h.objs j).monoR hR (.refl S hv) rfl rfl (fun k hk=>⟨hk,ib k (cd k j hk)⟩)
 ·obtain⟨t,fx,cx,hf,ht⟩:=h.frame;exact⟨t,fx,cx,⟨σ0.keep _ _ _ _ _ hf.F ⟨rfl,rfl,rfl,by simp,fun k hk=>by omega⟩ (fun k hk=>ib k fun e=>by subst e;exact hf.d k hm hB hk),hf.own,hf.c,fun k x hx=>hf.m k x (D2 k x hx).2,fun k hx=>hf.d k (D2 k _ hx).2⟩,ht⟩
def qY (C:Ctx)(w0:World)(σ0:Base)(fn:Func)(s:Sig)(d:D)(tmps:Array Value):List Deferred→World→Prop
 |[],w=>MF C w0 σ0 fn s d {tmps:=tmps,defers:=[]} w
 |x::ds,w=>∃D,x.target=.collected D∧w.heap[D]?=some (.deferred (some []))∧qY C w0 σ0 fn s d tmps ds (w.putObj D (.deferred none))
theorem Inv.retD (hC:CtxOK C σ0)(dP:∀j,S.ver j=0)(nm:σ0.fin){fn:Func}{s:Sig}{pe:PE}(hr:yq C fn s S=some pe):∀(ds:List Deferred) {σ:Im} {a:Act} {w:World},Inv C S ρ σ own hv w0 σ0 A a w→a.defers=ds→qY C w0 σ0 fn s (pe.ev ρ) a.tmps ds w
 |[],σ,a,w,h,hd=>by
  have e:a={tmps:=a.tmps,defers:=[]}:=by cases a;simp only at hd;subst hd;rfl
  rw[e] at h;exact as2 h hC dP hr
 |x::ds,σ,a,w,h,hd=>by
  obtain⟨D,h1,h2,h3⟩:=h.shut nm hd;exact⟨D,h1,h2,Inv.retD hC dP nm hr ds (a:={a with defers:=ds}) h3 rfl⟩
end
end Cx
namespace Cx
open Go Go.RowKit
def l9 (C:Ctx)(f:Nat)(cts ys:List Ty)(ds xs:List D):Prop:=
 ∀(σ:Im) (w:World) (yv:Value) (vs:List Value) (F:D→(Nat→Prop)→(Nat→Prop)→World→Prop) (fx cx:Nat→Prop) (m:Nat),σ.ok w→CtxOK C σ→pq C σ cts vs ds→m≤xs.length→
  (∀t fx cx w,F t fx cx w→∀k,fx k→k<w.heap.size)→(∀t fx cx w,F t fx cx w→∀k,cx k→fx k)→
  (∀t fx cx w w',F t fx cx w→Below 0 w w'→(∀k,fx k→w'.heap[k]?=w.heap[k]?)→F t fx cx w')→
  F (.list []) fx cx w→(∀k o x,σ.c k o=some x→¬cx k)→(∀k x,σ.m k=some x→¬cx k)→
  (∀(i:Nat) (fx cx:Nat→Prop) (w1:World) (σ1:Im) (args:List Value) (ds':List D),i≤m→xs[i]?=some (.tup ds')→F (.list (xs.take i)) fx cx w1→σ1.ok w1→pq C σ1 ys args ds'→
    (∀k o x,σ1.c k o=some x→¬cx k)→(∀k x,σ1.m k=some x→¬cx k)→
    (∀k o x,σ1.c k o=some x→σ.c k o=some x∨w.heap.size≤k)→(∀k x,σ1.m k=some x→σ.m k=some x∨w.heap.size≤k)→
    W7 C.P yv args w1 fun u w2=>u=.bool (decide (i<m))∧Below 0 w1 w2∧(∀k,k<w1.heap.size→¬cx k→w2.heap[k]?=w1.heap[k]?)∧
     ∃ni kp,F (.list (xs.take (i+1))) ni kp w2∧(∀k,ni k→k<w1.heap.size→fx k∨(∃o x,σ1.c k o=some x)∨(∃x,σ1.m k=some x∧x≠cW))∧(∀k,kp k→k<w1.heap.size→cx k))→
  Calls C.P f (#[yv]++vs.toArray) w fun e w'=>(∃v,e=.returned v)∧∃fx cx,F (.list (xs.take (m+1))) fx cx w'
def gq (C:Ctx)(Φ:aR):Prop:=∀f cs ys,C.cap f=some cs→mD cs.args cs.res=some ys→(∃fn,C.P.funcs[f]?=some fn∧fn.body.isSome=true∧(fn.name== "runtime.NumGoroutine")=false)∧
 ∀ds d,Φ f ds=some d→∃xs,d=.list xs∧(∀x,x∈xs→∃ds',x=.tup ds'∧ds'.length=ys.length)∧l9 C f cs.caps ys ds xs
section
variable {C:Ctx} {S:St} {ρ:Env} {σ:Im} {own:Nat→Option Nat} {hv:Nat→Value} {w0:World} {σ0:Base} {A:Nat→Prop} {a:Act} {w:World}
theorem Inv.mono_regs (h:Inv C S ρ σ own hv w0 σ0 A a w){τ:Im}(hle:σ.le τ)(t:Nat):aG C S ρ τ hv (S.r t) (a.tmps.getD t undef) (ρ.r t):=
 aG.mono hle (.refl S hv) (fun _ _ _=>rfl) (fun gs s e=>(h.opts t gs s e).2) (h.regs t)
theorem Inv.joinIm (h:Inv C S ρ σ own hv w0 σ0 A a w){τ:Im}(hτ:τ.ok w)(hd:∀k,τ.m k≠some cW)(hoc:∀k o v,τ.c k o=some v→own k=none)(hom:∀k v,τ.m k=some v→own k=none)
 (cX:∀k o v,τ.c k o=some v→σ.c k o=some v∨w0.heap.size≤k) (cM:∀k v,τ.m k=some v→σ.m k=some v∨w0.heap.size≤k)
 (da:∀t fx cx,FrOK σ own w0.heap.size σ0 w t fx cx→(∀k o v,τ.c k o=some v→¬cx k)∧∀k v,τ.m k=some v→¬cx k):Inv C S ρ (σ.plus τ) own hv w0 σ0 A a w where
 defers:=h.defers.mono (Im.plus_le1 σ τ)
 ok:=Im.plus_ok h.ok hτ
 le:=h.le.trans (Im.plus_le1 σ τ)
 old:=h.old
 newc:=fun k o x e=>(Im.plus_c e).elim (h.newc k o x) fun e=>(cX k o x e).elim (h.newc k o x) .inr
 newm:=fun k x e=>(Im.plus_m e).elim (h.newm k x) fun e=>(cM k x e).elim (h.newm k x) .inr
 below:=h.below
 bw:=h.bw
 owns:=fun k j hk=>by
  obtain⟨g1,g2,g3,g4⟩:=h.owns k j hk;refine⟨g1,g2,fun o=>?_,?_⟩
  ·cases e:(σ.plus τ).c k o with
   |none=>rfl
   |some x=>
    rcases Im.plus_c e with e|e
    ·rw[g3 o] at e;cases e
    ·rw[hoc k o x e] at hk;cases hk
  ·cases e:(σ.plus τ).m k with
   |none=>rfl
   |some x=>
    rcases Im.plus_m e with e|e
    ·rw[g4] at e;cases e
    ·rw[hom k x e] at hk;cases hk
 regs:=h.mono_regs (Im.plus_le1 σ τ)
 objs:=fun j=>(h.objs j).mono (Im.plus_le1 σ τ) (.refl S hv) rfl rfl fun k hk=>⟨hk,rfl⟩
 opts:=h.opts
 frame:=by
  obtain⟨t,fx,cx,hf,ht⟩:=h.frame;obtain⟨h1,h2⟩:=da t fx cx hf;exact⟨t,fx,cx,⟨hf.F,hf.own,fun k o x e=>(Im.plus_c e).elim (hf.c k o x) (h1 k o x),fun k x e=>(Im.plus_m e).elim (hf.m k x) (h2 k x),fun k e=>(Im.plus_m e).elim (hf.d k) fun e=>absurd e (hd k)⟩,ht⟩
theorem Inv.keep (h:Inv C S ρ σ own hv w0 σ0 A a w){w':World}{X:Nat→Prop}(hb:Below 0 w w')(hX:∀k,X k→w'.heap[k]?=w.heap[k]?)(h0:∀k,k<w0.heap.size→X k)(ho:∀k j,own k=some j→X k)(hc:∀k o v,σ.c k o=some v→X k)(hm:∀k v,σ.m k=some v→X k)
 (da:∀t fx cx,FrOK σ own w0.heap.size σ0 w t fx cx→∀k,fx k→X k):Inv C S ρ σ own hv w0 σ0 A a w' where
 defers:=h.defers
 ok:=⟨fun k o v e=>by rw[World.cell?_of_block (hX k (hc k o v e))];exact h.ok.c k o v e,fun k v e=>(h.ok.m k v e).keep (hX k (hm k v e))⟩
 le:=h.le
 old:=h.old
 newc:=h.newc
 newm:=h.newm
 below:=h.below.trans ⟨hb.os,hb.tape,hb.output,hb.size,fun k hk=>hX k (h0 k (wj hk h.bw))⟩
 bw:=h.bw
 owns:=fun k j hk=>let⟨g1,g2,g3⟩:=h.owns k j hk;⟨g1,wj g2 hb.size,g3⟩
 regs:=h.regs
 objs:=fun j=>(h.objs j).mono (.refl σ) (.refl S hv) rfl rfl fun k hk=>⟨hk,hX k (ho k j hk)⟩
 opts:=h.opts
 frame:=by
  obtain⟨t,fx,cx,hf,ht⟩:=h.frame;exact⟨t,fx,cx,⟨σ0.keep _ _ _ _ _ hf.F hb fun k hk=>hX k (da t fx cx hf k hk),hf.own,hf.c,hf.m,hf.d⟩,ht⟩
end
def Base.rnd (σ0:Base)(σ:Im)(own:Nat→Option Nat)(w:World)(t:D)(X:Nat→Prop):Base:=
 {σ with
  B:=σ0.B
  fin:=False
  F:=fun t' fx cx w'=>t'=t∧(∀k,fx k↔(k<w.heap.size∧own k=none∧σ.m k≠some cW∧¬X k))∧(∀k,cx k↔(fx k∧(∀o,σ.c k o=none)∧σ.m k=none))∧w.heap.size≤w'.heap.size∧∀k,fx k→w'.heap[k]?=w.heap[k]?
  lt:=fun t' fx cx w' h k hk=>wj ((h.2.1 k).1 hk).1 h.2.2.2.1
  sub:=fun t' fx cx w' h k hk=>((h.2.2.1 k).1 hk).1
  keep:=fun t' fx cx w' kK h hb hs=>⟨h.1,h.2.1,h.2.2.1,kj h.2.2.2.1 hb.size,fun k hk=>(hs k hk).trans (h.2.2.2.2 k hk)⟩}
section
variable {C:Ctx} {S S':St} {ρ ρ':Env} {σ σ':Im} {own own':Nat→Option Nat} {hv hv':Nat→Value} {w0:World} {σ0:Base} {A A':Nat→Prop} {a a':Act} {w w':World} {X:Nat→Prop}
theorem Inv.toRnd (h:Inv C S ρ σ own hv w0 σ0 A a w){t:D}(ht:∀j,S.o j=.tr→(∃ys,C.yl=some (j,ys))∧ρ.o j=t):Inv C S ρ σ own hv w0 (σ0.rnd σ own w t X) A a w:=by
 refine⟨h.defers,h.ok,.refl σ,(fun hf=>hf.elim),(fun _ _ _ e=>.inl e),(fun _ _ e=>.inl e),h.below,h.bw,h.owns,h.regs,h.objs,h.opts,t,fun k=>k<w.heap.size∧own k=none∧σ.m k≠some cW∧¬X k,fun k=>(k<w.heap.size∧own k=none∧σ.m k≠some cW∧¬X k)∧(∀o,σ.c k o=none)∧σ.m k=none,
  ⟨⟨rfl,fun _=>.rfl,fun _=>.rfl,bl _,fun _ _=>rfl⟩,fun k j hk hf=>?_,fun k o x e hc=>?_,fun k x e hc=>?_,fun k e _ hf=>hf.2.2.1 e⟩,ht⟩
 ·have:=hf.2.1;rw[hk] at this;cases this
 ·have:=hc.2.1 o;rw[e] at this;cases this
 ·have:=hc.2.2;rw[e] at this;cases this
theorem Inv.markSame {w1:World}(h:σ.ok w1)(h':σ'.ok w')(hle:σ.le σ'){k:Nat}(hk:σ.m k=some cW):w'.heap[k]?=w1.heap[k]?:=by
 have e1:w1.heap[k]?=some (.deferred (some [])):=by
  rcases h.m k _ hk with⟨h1,_⟩|⟨_,h2⟩
  ·exact absurd rfl h1
  ·exact h2
 have e2:w'.heap[k]?=some (.deferred (some [])):=by
  rcases h'.m k _ (hle.m k _ hk) with⟨h1,_⟩|⟨_,h2⟩
  ·exact absurd rfl h1
  ·exact h2
 rw[e1,e2]
theorem Inv.rndSame {w1:World}{t:D}(aD:σ.ok w1)(h':Inv C S' ρ' σ' own' hv' w0 (σ0.rnd σ own w1 t X) A' a' w'){k:Nat}(hk:k<w1.heap.size)(ho:own k=none)(hX:¬X k):w'.heap[k]?=w1.heap[k]?:=by
 by_cases hd:σ.m k=some cW
 ·exact Inv.markSame aD h'.ok h'.le hd
 ·obtain⟨t',fx,cx,hf,_⟩:=h'.frame;obtain⟨_,f2,_,_,f5⟩:=hf.F;exact f5 k ((f2 k).2 ⟨hk,ho,hd,hX⟩)
theorem Inv.rndBelow {w1:World}{t:D}(h:Inv C S ρ σ own hv w0 σ0 A a w1)(h':Inv C S' ρ' σ' own' hv' w0 (σ0.rnd σ own w1 t X) A' a' w'):Below 0 w1 w':=by
 obtain⟨t',fx,cx,hf,_⟩:=h'.frame;obtain⟨_,_,_,f4,_⟩:=hf.F;exact⟨h'.below.os.trans h.below.os.symm,h'.below.tape.trans h.below.tape.symm,h'.below.output.trans h.below.output.symm,f4,fun k hk=>by omega⟩
theorem Inv.rndOwn {w1:World}{t:D}(h':Inv C S' ρ' σ' own' hv' w0 (σ0.rnd σ own w1 t X) A' a' w'){k j:Nat}(hk:own' k=some j)(hX:¬X k):(∃i,own k=some i)∨w1.heap.size≤k:=by
 obtain⟨t',fx,cx,hf,_⟩:=h'.frame;obtain⟨_,f2,_,_,_⟩:=hf.F;cases e:own k with
 |some i=>exact .inl ⟨i,rfl⟩
 |none=>
  refine .inr (Nat.le_of_not_lt fun af=>?_);by_cases hd:σ.m k=some cW
  ·have:=(h'.owns k j hk).2.2.2;rw[h'.le.m k _ hd] at this;cases this
  ·exact hf.own k j hk ((f2 k).2 ⟨af,e,hd,hX⟩)
theorem Inv.rndC {w1:World}{t:D}(h':Inv C S' ρ' σ' own' hv' w0 (σ0.rnd σ own w1 t X) A' a' w'){k:Nat}(hk:(∃o x,σ'.c k o=some x)∨∃x,σ'.m k=some x)(hX:¬X k):(∃o x,σ.c k o=some x)∨(∃x,σ.m k=some x)∨(∃i,own k=some i)∨w1.heap.size≤k:=by
 obtain⟨t',fx,cx,hf,_⟩:=h'.frame;obtain⟨_,f2,f3,_,_⟩:=hf.F;cases e:own k with
 |some i=>exact .inr (.inr (.inl ⟨i,rfl⟩))
 |none=>
  by_cases hm:∃x,σ.m k=some x
  ·exact .inr (.inl hm)
  by_cases hc:∃o x,σ.c k o=some x
  ·exact .inl hc
  refine .inr (.inr (.inr (Nat.le_of_not_lt fun af=>?_)));have ZN:σ.m k=none:=by
   cases e2:σ.m k with
   |none=>rfl
   |some x=>exact absurd ⟨x,e2⟩ hm
  have kU:cx k:=(f3 k).2 ⟨(f2 k).2 ⟨af,e,by rw[ZN];simp,hX⟩,fun o=>by
   cases e2:σ.c k o with
   |none=>rfl
   |some x=>exact absurd ⟨o,x,e2⟩ hc,ZN⟩
  rcases hk with⟨o,x,hk⟩|⟨x,hk⟩
  ·exact hf.c k o x hk kU
  ·exact hf.m k x hk kU
theorem Inv.ofRnd {w1:World}(h:Inv C S ρ σ own hv w0 σ0 A a w1){t:D}{fx cx:Nat→Prop}(da:FrOK σ own w0.heap.size σ0 w1 t fx cx)(hX:∀k,fx k→¬X k)(h':Inv C S' ρ' σ' own' hv' w0 (σ0.rnd σ own w1 t X) A' a' w'):
 Inv C S' ρ' σ' own' hv' w0 σ0 A' a' w':=by
 have hb:=h.rndBelow h';have kT:=h';obtain⟨t',ni,kp,hf,ht⟩:=kT.frame;obtain⟨f1,f2,f3,f4,f5⟩:=hf.F;have af:=σ0.lt _ _ _ _ da.F;have bN:=σ0.sub _ _ _ _ da.F
 have qm:∀k,fx k→own k=none:=fun k hk=>by
  cases e:own k with
  |none=>rfl
  |some j=>exact absurd hk (da.own k j e)
 have lL:∀k,cx k→¬((∃o x,σ'.c k o=some x)∨∃x,σ'.m k=some x):=fun k hk hc=>by
  have h1:=bN k hk;rcases Inv.rndC h' hc (hX k h1) with⟨o,x,e⟩|⟨x,e⟩|⟨j,e⟩|e
  ·exact da.c k o x e hk
  ·exact da.m k x e hk
  ·exact da.own k j e h1
  ·have:=af k h1;omega
 refine⟨h'.defers,h'.ok,h.le.trans h'.le,h.old,fun k o x e=>(h'.newc k o x e).elim (h.newc k o x) .inr,fun k x e=>(h'.newm k x e).elim (h.newm k x) .inr,h'.below,h'.bw,h'.owns,h'.regs,h'.objs,h'.opts,t,fx,cx,
  ⟨σ0.keep _ _ _ _ _ da.F hb fun k hk=>Inv.rndSame h.ok h' (af k hk) (qm k hk) (hX k hk),fun k j hk kW=>?_,fun k o x e hc=>lL k hc (.inl ⟨o,x,e⟩),fun k x e hc=>lL k hc (.inr ⟨x,e⟩),fun k e hB kW=>?_⟩,fun j hj=>⟨(ht j hj).1,by rw[(ht j hj).2,f1]⟩⟩
 ·rcases Inv.rndOwn h' hk (hX k kW) with⟨i,e⟩|e
  ·exact da.own k i e kW
  ·have:=af k kW;omega
 ·by_cases hd:σ.m k=some cW
  ·exact da.d k hd hB kW
  ·exact hf.d k e hB ((f2 k).2 ⟨af k kW,qm k kW,hd,hX k kW⟩)
theorem Inv.restore (h:Inv C S ρ σ own hv w0 σ0 A a w)(hn:∀t gs s,S.r t≠.opt gs s)(hd:kL σ w0.heap.size a'.defers)(hr:∀t,isNone (S.r t)=false→a'.tmps.getD t undef=a.tmps.getD t undef∧ρ'.r t=ρ.r t)(ho:∀j,oI (S.o j)=false→ρ'.o j=ρ.o j):
 Inv C S ρ' σ own hv w0 σ0 (fun _=>False) a' w:=by
 refine⟨hd,h.ok,h.le,h.old,h.newc,h.newm,h.below,h.bw,h.owns,fun t=>?_,fun j=>?_,fun t gs s e=>absurd e (hn t gs s),?_⟩
 ·cases hs:isNone (S.r t) with
  |true=>cases hc:S.r t<;>rw[hc] at hs<;>simp[isNone] at hs;trivial
  |false=>
   rw[(hr t hs).1,(hr t hs).2];exact aG.mono' (.refl σ) (.refl S hv) (hn t) (h.regs t)
 ·cases hs:oI (S.o j) with
  |true=>cases hc:S.o j<;>rw[hc] at hs<;>simp[oI] at hs;trivial
  |false=>exact(h.objs j).mono (.refl σ) (.refl S hv) rfl (ho j hs) (fun k hk=>⟨hk,rfl⟩)
 ·obtain⟨t,fx,cx,h1,h2⟩:=h.frame;exact⟨t,fx,cx,h1,fun j hj=>⟨(h2 j hj).1,by rw[ho j (by rw[hj];rfl)];exact(h2 j hj).2⟩⟩
theorem kL.mem {σ:Im}{B:Nat}:∀{ds:List Deferred} {d:Deferred},d∈ds→kL σ B ds→∃D,d={target:=.collected D,args:=#[]}∧σ.m D=some cW
 |x::ds,d,hm,⟨⟨D,h1,h2,_⟩,h⟩=>by
  rcases cC.1 hm with e|e
  ·subst e;exact⟨D,h1,h2⟩
  ·exact kL.mem e h
def Im.mark (σ:Im)(D:Nat):Im:=⟨σ.c,fun k=>if k=D then some cW else σ.m k⟩
theorem Yc (w:World)(o1 o2:Obj):Below w.heap.size w ((w.alloc o1).alloc o2):=(((Below.refl _ w).alloc (bl _) o1).alloc (by simp) o2)
theorem Inv.enter (h:Inv C S ρ σ own hv w0 σ0 A a w)(r:Loop):
 Inv C S ρ (σ.mark w.heap.size) own hv w0 σ0 A {a with defers:={target:=.collected w.heap.size,args:=#[]}::a.defers} ((w.alloc (.deferred (some []))).alloc (.loop r)):=by
 have hD:((w.alloc (.deferred (some []))).alloc (.loop r)).heap[w.heap.size]?=some (.deferred (some [])):=(Below.heap_alloc _ _ _ (by simp)).trans (World.alloc_heap_new w _);have hle:σ.le (σ.mark w.heap.size):=by
  refine⟨fun _ _ _ e=>e,fun k x e=>?_⟩;have:k≠w.heap.size:=by have:=h.ltm e;omega
  simp[Im.mark,this,e]
 have xg:∀k x,(σ.mark w.heap.size).m k=some x→σ.m k=some x∨(k=w.heap.size∧x=cW):=by
  intro k x e;simp only[Im.mark] at e;split at e
  ·rename_i e2;cases e;exact .inr ⟨e2,rfl⟩
  ·exact .inl e
 have hb:=Yc w (.deferred (some [])) (.loop r);have aD:(σ.mark w.heap.size).ok ((w.alloc (.deferred (some []))).alloc (.loop r)):=by
  have h1:=h.ok.below hb;refine⟨h1.c,fun k x e=>?_⟩;rcases xg k x e with e|⟨rfl,rfl⟩
  ·exact h1.m k x e
  ·exact .inr ⟨rfl,hD⟩
 have hw:=h.world hle aD hb (fun _ _ _ e=>.inl e) (fun k x e=>(xg k x e).imp id fun e=>by omega);have oy:=hw.defers;refine⟨⟨⟨_,rfl,by simp[Im.mark],h.below.size,fun hm=>?_⟩,oy⟩,hw.ok,hw.le,hw.old,hw.newc,hw.newm,hw.below,hw.bw,hw.owns,hw.regs,hw.objs,hw.opts,hw.frame⟩;obtain⟨D,e1,e2⟩:=kL.mem hm h.defers;have:D=w.heap.size:=by cases e1;rfl
 subst this;have:=h.ltm e2;omega
end
end Cx
