/-
  Shared texts of this claim.
-/
import Derived.Test.YtipjidjopglknaaGreatDoorNAD
import Derived.Tactics
import Derived.RangeFuncIn
import Derived.OrdersIn
import Derived.RangeFuncRecord
set_option linter.unusedSimpArgs false
set_option linter.unusedVariables false
namespace Cx
open Go Go.RowKit
inductive Gh where
 |fz (j:Nat)|fbox (b:Nat)|rereg (t j:Nat)|recell (b i j:Nat)|home (b i j:Nat) (T:TypeId)
def Gh.run (C:Ctx)(S:St):Gh→Option (St×List PI)
 |.fz j=>some (S.fz j,[])
 |.fbox b=>Dt S b
 |.rereg t j=>xX S t j
 |.recell b i j=>Gb S b i j
 |.home b i j T=>Ec C S b i j T
def jQ (C:Ctx):List Gh→St→Option (St×List PI)
 |[],S=>some (S,[])
 |g::gs,S=>(g.run C S).bind fun r=>(jQ C gs r.1).map fun q=>(q.1,r.2++q.2)
theorem oY {Φ:aL}:∀{a b:List PI} {ρ:Env},PI.runs Φ (a++b) ρ=(PI.runs Φ a ρ).bind (PI.runs Φ b)
 |[],b,ρ=>by simp[PI.runs]
 |x::a,b,ρ=>by
  simp only[GG,PI.runs];cases x.run Φ ρ with
  |none=>rfl
  |some ρ1=>simp[oY (a:=a) (b:=b)]
def pU (S:St)(ops:Array Oper)(o:Oper):Option (List (Nat×Bool)):=
 match o.guard with
 |none=>some []
 |some (j,want)=>
  match(ops[j]?).bind (·.dst) with
  |some t=>
   match S.r t with
   |.dat .bool=>some [(t,want)]
   |.opt gs (.dat .bool)=>some ((t,want)::gs)
   |_=>none
  |none=>none
def tz (S:St)(gs:List (Nat×Bool)):Op→List Nat
 |.build _ ps=>bP S gs (ps.toList.map (·.2))
 |.buildSlice _ _ ps=>bP S gs (ps.toList.map (·.2))
 |.box _ x=>match fa S gs x with|.agg _=>[]|_=>bP S gs [x]
 |.pick _ x y=>bP S gs [x,y]
 |.slice _ x _ _ _=>bP S gs [x]
 |.mapUpdate _ _ k v=>bP S gs [k,v]
 |.insert _ _ k v=>bP S gs [k,v]
 |.store _ x v=>match fa S gs x with|.eptr ..=>bP S gs [v]|_=>[]
 |_=>[]
def CC:List Sh→List Nat
 |[]=>[]
 |.obj j _::r=>j::CC r
 |_::r=>CC r
def G8 (S:St)(gs:List (Nat×Bool)):List Operand→List Nat
 |[]=>[]
 |x::xs=>
  match fa S gs x with
  |.ptr j ver off=>bif Nat.beq ver (S.ver j)&&(match S.o j with|.box ..=>true|_=>false) then j::G8 S gs xs else G8 S gs xs
  |_=>G8 S gs xs
def aaL (C:Ctx):Fn→Bool
 |.func f=>(match C.sig f with|some s=>oG s.mode|none=>false)
 |_=>false
theorem apj {α:Type}{b:Bool}{x:α}{l:List α}(h:x∈bif b then[] else l):x∈l:=by
 cases b with
 |true=>cases h
 |false=>exact h
def pre (C:Ctx)(S:St)(gs:List (Nat×Bool))(op:Op):List Gh:=
 match op with
 |.makeFunc fn _ caps=>
  bif aaL C fn then[] else(G8 S gs caps.toList).flatMap fun b=>(match S.o b with|.box _ shs=>(CC shs).map .fz|_=>[])++[.fbox b]
 |.load T x=>
  match fa S gs x,qj C.P T,C.P.info? T with
  |.ptr j _ off,some true,some inf=>bif Me C j then[] else(match S.o j with|.box _ shs=>((CC ((shs.drop off).take inf.size)).filter fun j=>kY (S.o j)).map .fz|_=>[])
  |_,_,_=>[]
 |.build T ps=>((tz S gs (.build T ps)).filter fun j=> !(C.fr.any (Nat.beq (3000000+j)))).map .fz
 |op=>(tz S gs op).map .fz
def qt (C:Ctx)(S:St)(gs:List (Nat×Bool))(o:Oper):List Gh:=
 match o.op,o.dst with
 |.assign x,some t=>bif C.fr.any (Nat.beq t) then(bP S gs [x]).map .fz else[]
 |_,_=>[]
def M9 (P:Program):Nat→TypeId→List (Option TypeId)
 |0,_=>[]
 |n+1,t=>
  match P.underlying t with
  |some (.struct fs)=>fs.toList.flatMap fun f=>M9 P n f.type
  |some (.array len e)=>(List.replicate len (M9 P n e)).flatten
  |some (.slice e)=>[some e]
  |_=>[none]
def homes (P:Program)(b off:Nat)(T:TypeId):List Gh:=
 ((M9 P 12 T).zipIdx).filterMap fun x=>x.1.map fun e=>.home b (off+x.2) (gI b (off+x.2)) e
def Jx (nh:List Nat)(l:List Gh):List Gh:=l.filter fun g=>match g with|.home _ _ j _=> !(nh.any (Nat.beq j))|_=>true
def adJ (b off n:Nat):List Gh:=(List.range n).map fun i=>.recell b (off+i) (gI b (off+i))
def post (C:Ctx)(S:St)(o:Oper):List Gh:=
 match o.op,o.dst with
 |.assign _,some t=>[.rereg t t]
 |.alloc T,some t=>Jx C.nh (homes C.P t 0 T)
 |.store T x _,_=>
  match fa S [] x with
  |.ptr j _ off=>Jx C.nh (homes C.P j off T)++adJ j off (match C.P.info? T with|some i=>i.size|none=>0)
  |_=>[]
 |_,_=>[]
def rB:Sh→Bool
 |.opt ..=>false
 |_=>true
def uo (C:Ctx)(S:St)(dst:Nat)(T:TypeId)(x:Operand):kK:=
 match x with
 |.const v=>(pj C.P T).bind fun t=>(pk t).bind fun z=>bif jL t v then some (S.setR dst (.dat z.1),[.setR dst (.con z.2)]) else none
 |_=>none
def core (C:Ctx)(S:St)(gs:List (Nat×Bool))(o:Oper):Option (St×List PI):=
 match o.dst with
 |some dst=>
  match oM C S gs dst o.op with
  |some r=>bif rB r.1 then some (S.setR dst (ju gs r.1),r.2) else none
  |none=>
   match o.op,gs with
   |.assign x,[]=>
    bif C.fr.any (Nat.beq dst) then
          match qp C S [] dst x with
          |some r=>some (S.setR dst r.1,r.2)
          |none=>uo C S dst o.type x
    else
    match Da C S dst o.type x with
    |some r=>some r
    |none=>
     match qp C S [] dst x with
     |some r=>some (S.setR dst r.1,r.2)
     |none=>uo C S dst o.type x
   |.alloc T,[]=>C0 C S dst T
   |.box T x,[]=>C2 C S dst T x
   |.buildSlice T n ps,gs=>
    match gs with
    |[]=>wh C S [] dst T n ps.toList
    |_=>zM C S gs dst T n ps.toList
   |.makeSlice T l c,[]=>C8 C S dst T l c
   |.makeMap T r,[]=>C7 C S dst T r
   |.range T x,[]=>Db C S dst T x
   |.convert T U x,[]=>C3 C S dst T U x
   |.call c,gs=>
    match c.callee,gs with
    |.builtin .append,[]=>
     match c.args.toList,c.argTypes.toList with
     |[s,x],[T,T']=>bif Nat.beq T T' then C1 C S dst T s x else none
     |_,_=>none
    |.value (.func f),gs=>
     match pO C S gs dst f c.args.toList with
     |some r=>some (r.1.setR dst (ju gs r.2.1),r.2.2)
     |none=>
      match gs with
      |[]=>
       match C5 C S dst f c.args.toList with
       |some r=>some r
       |none=>
        match C6 C S dst f c.args.toList with
        |some r=>some r
        |none=>
        match C4 C S dst f c.args.toList with
        |some r=>some r
        |none=>(qX C S f c.args.toList []).map (qo S (some dst))
      |_=>none
    |.value x,gs=>
     match nZ C S gs dst x c.args.toList with
     |some r=>some (r.1.setR dst (ju gs r.2.1),r.2.2)
     |none=>
      match x,gs with
      |.tmp t,[]=>(zL C S t c.args.toList).map (qo S (some dst))
      |_,_=>none
    |_,_=>none
   |.makeFunc fn first caps,[]=>C9 C S dst fn first caps
   |_,_=>none
 |none=>
  match o.op,gs with
  |.store T x v,[]=>um C S T x v
  |.mapUpdate T m k v,[]=>sG C S T m k v
  |.insert T m k v,[]=>sG C S T m k v
  |.panic _,[]=>some (S,[.chk (.nt (.con (.bool true)))])
  |.call c,[]=>
   match c.callee with
   |.value (.func f)=>(qX C S f c.args.toList []).map (qo S none)
   |.value (.tmp t)=>(zL C S t c.args.toList).map (qo S none)
   |_=>none
  |_,_=>none
def ab9 (dst:Nat)(l:List PI):Bool:=l.all fun p=>p.modR.all (Nat.beq dst)&&p.modO.isEmpty
def jv (gs:List (Nat×Bool))(dst:Option Nat)(l:List PI):Bool:=
 match gs,dst with
 |[],_=>true
 |_,some d=>ab9 d l
 |_,none=>false
def CV (C:Ctx)(S:St)(ops:Array Oper)(o:Oper):Option (St×List PI):=
 (pU S ops o).bind fun gs=>
 (jQ C (pre C S gs o.op++qt C S gs o) S).bind fun r1=>
 (core C r1.1 gs o).bind fun r2=>
 (jQ C (post C r2.1 o) r2.1).bind fun r3=>
 bif jv gs o.dst r2.2 then some (r3.1,r1.2++r2.2++r3.2) else none
def Gs:PI:=.chk (.con (.v (.bool false)))
def zH (C:Ctx)(S:St)(ops:Array Oper)(o:Oper):Option (St×List PI):=
 match CV C S ops o with
 |some r=>some r
 |none=>some (match o.dst with|some d=>S.setR d .none|none=>S,[Gs])
section
variable {C:Ctx} {S:St} {ρ:Env} {σ:Im} {own:Nat→Option Nat} {hv:Nat→Value} {w0:World} {σ0:Base} {A:Nat→Prop} {a:Act} {w:World} {gs:List (Nat×Bool)} {Φ:aL} {dst:Nat}
theorem Gh.sound {g:Gh}{r:St×List PI}(h:Good C w0 σ0 S ρ A a w)(hr:g.run C S=some r):B5 C w0 σ0 Φ S ρ A a w r:=by
 obtain⟨σ,own,hv,h⟩:=h;cases g with
 |fz j=>
  simp only[Gh.run,aS] at hr;subst hr;intro ρ' ah;rw[nA ah];obtain⟨σ',own',_,h'⟩:=h.fz j;exact⟨σ',own',hv,h'⟩
 |fbox b=>exact akd h hr
 |rereg t j=>exact arO h hr
 |recell b i j=>exact arN h hr
 |home b i j T=>exact amr h hr
theorem NK:∀(l:List Gh) {S:St} {ρ ρ':Env} {r:St×List PI},Good C w0 σ0 S ρ A a w→jQ C l S=some r→PI.runs Φ r.2 ρ=some ρ'→Good C w0 σ0 r.1 ρ' A a w
 |[],S,ρ,ρ',r,h,hr,ah=>by
  simp only[jQ,aS] at hr;subst hr;rw[nA ah];exact h
 |g::l,S,ρ,ρ',r,h,hr,ah=>by
  simp only[jQ,aq,az] at hr;obtain⟨q,hq,q2,jB,rfl⟩:=hr;simp only[oY,aq] at ah;obtain⟨ρ1,h1,h2⟩:=ah;exact NK (r:=q2) l (Gh.sound (Φ:=Φ) h hq ρ1 h1) jB h2
theorem XT (h:Good C w0 σ0 S ρ A a w){ops:Array Oper}{o:Oper}(hg:pU S ops o=some gs):Region.wanted o (yielded ops a.tmps)=holds gs ρ:=by
 obtain⟨σ,own,hv,h⟩:=h;unfold pU at hg;unfold Region.wanted;split at hg
 ·rename_i e;cases hg;simp[e,holds]
 ·rename_i j want e;simp only[e];split at hg
  case h_2=>cases hg
  rename_i t ht;have gu:=h.regs t;have hy:∀v,a.tmps.getD t undef=v→(∀b,v=.bool b→yielded ops a.tmps j=some b)∧(v=undef→yielded ops a.tmps j=none):=by
   intro v hv';unfold yielded;rw[ht];simp only[j8];rw[dV] at hv';cases p6:a.tmps[t]? with
   |none=>rw[p6] at hv';simp at hv';subst hv';exact⟨fun b e=>absurd e (by simp[undef]),fun _=>rfl⟩
   |some u=>rw[p6] at hv';simp at hv';subst hv';exact⟨fun b e=>by subst e;rfl,fun e=>by subst e;rfl⟩
  split at hg
  ·rename_i es;cases hg;rw[es] at gu;obtain⟨b,ec,cf⟩:=Rep.bool_inv gu;rw[(hy _ ec).1 b rfl];simp[holds,cf,D.b_bool]
  ·rename_i bO es;cases hg;rw[es] at gu;simp only[holds,qJ];cases hh:holds bO ρ with
   |true=>
    obtain⟨b,ec,cf⟩:=Rep.bool_inv (gu.1 hh);rw[(hy _ ec).1 b rfl];unfold holds at hh;rw[hh,cf];simp[D.b_bool]
   |false=>
    rw[(hy _ (gu.2 hh)).2 rfl];unfold holds at hh;rw[hh];simp
  ·cases hg
theorem XS (h:Good C w0 σ0 S ρ A a w){ops:Array Oper}{o:Oper}(hg:pU S ops o=some gs)(hj:∀j want t,o.guard=some (j,want)→(ops[j]?).bind (·.dst)=some t→A t):∀g,g∈gs→A g.1:=by
 obtain⟨σ,own,hv,h⟩:=h;unfold pU at hg;split at hg
 ·cases hg;simp
 ·rename_i j want e;split at hg
  case h_2=>cases hg
  rename_i t ht;have hA:=hj j want t e ht;split at hg
  ·cases hg;intro g hm;simp at hm;subst hm;exact hA
  ·rename_i bO es;cases hg;intro g hm;rcases cT.1 hm with e'|dE
   ·subst e';exact hA
   ·exact(h.opts t bO _ es).1 g dE
  ·cases hg
theorem aqd (h:Inv C S ρ σ own hv w0 σ0 A a w)(hC:CtxOK C σ0)(hg:holds gs ρ=true){o:Oper}{r:Sh×List PI}(hr:oM C S gs dst o.op=some r):eG C S ρ σ hv Φ dst a w o r:=by
 unfold oM at hr;split at hr
 ·rename_i x e;exact ace h hC hg hr (.inl e)
 ·rename_i c x y e;exact aqc h hC hg hr e
 ·rename_i op T x y T' e;exact apN h hC hg hr e
 ·rename_i op T x e;exact aqh h hC hg hr e
 ·rename_i s d x e;exact apR h hC hg hr e
 ·rename_i T x e;exact ER h hC hg hr e
 ·rename_i T x i e;exact apV h hC hg hr e
 ·rename_i T x i e;exact apX h hC hg hr e
 ·rename_i T x i e;exact ap0 h hC hg hr e
 ·rename_i T x i e;exact ap2 h hC hg hr e
 ·rename_i x i e;exact apT h hC hg hr e
 ·rename_i T m k ok e;exact ap8 h hC hg hr e
 ·rename_i T x lo hi mx e;exact aqf h hC hg hr e
 ·rename_i f a b e;exact apY h hC hg hr e
 ·rename_i T ps e;exact apP h hC hg hr e
 ·rename_i x e;exact aqa h hC hg hr e
 ·cases hr;intro ρ' ah;have:=(SJ hg ah).1;cases this
 ·rename_i c e;split at hr
  ·rename_i x T hc ha ht;refine ap4 h hC hg hr ?_;rw[e];cases c with|mk callee args argTypes=>
   simp only at hc ha ht;have h1:args=#[x]:=by rw[←tS];exact ha
   have h2:argTypes=#[T]:=by rw[←tS];exact ht
   rw[hc,h1,h2]
  ·rename_i x y hc ha;refine acb (ts:=c.argTypes) h hC hg hr ?_;rw[e];cases c with|mk callee args argTypes=>
   simp only at hc ha;have h1:args=#[x,y]:=by rw[←tS];exact ha
   rw[hc,h1];rfl
  ·rename_i x y hc ha;refine acb (ts:=c.argTypes) h hC hg hr ?_;rw[e];cases c with|mk callee args argTypes=>
   simp only at hc ha;have h1:args=#[x,y]:=by rw[←tS];exact ha
   rw[hc,h1];rfl
  ·cases hr
 ·cases hr
theorem aiA (h:Inv C S ρ σ own hv w0 σ0 A a w)(ht:¬A dst)(af:dst<a.tmps.size){T:TypeId}{x:Operand}{r:St×List PI}(hr:uo C S dst T x=some r){o:Oper}(hd:o.dst=some dst)(ho:o.op=.assign x):bV C w0 σ0 Φ S ρ A a w o r:=by
 unfold uo at hr;split at hr
 case h_2=>cases hr
 rename_i v;simp only[aq] at hr;obtain⟨t,_,z,hz,hr⟩:=hr;cases hc:jL t v<;>simp only[hc,cond_true,cond_false] at hr
 ·cases hr
 cases hr;have bL:=(yk (cap:=C.cap) (σ:=σ) hz hc).1;refine bV.value hd fun ρ' ah=>⟨v,w,by simp[execOp,ho,Act.eval],?_⟩
 have hρ:ρ'=ρ.setR dst z.2:=by simp[PI.runs,PI.run,PE.ev] at ah;exact ah.symm
 subst hρ;exact⟨_,_,_,h.setReg ht (s:=.dat z.1) bL af (fun _ _ e=>by cases e)⟩
theorem ahJ (h:Inv C S ρ σ own hv w0 σ0 A a w)(hC:CtxOK C σ0)(aY:dt C)(hΦ:cX C Φ){o:Oper}(ht:∀d,o.dst=some d→¬A d∧d<a.tmps.size)(dO:∀g,g∈gs→A g.1)(hg:holds gs ρ=true){r:St×List PI}
 (hr:core C S gs o=some r):bV C w0 σ0 Φ S ρ A a w o r:=by
 unfold core at hr;split at hr
 ·rename_i dst hd;obtain⟨gw,gx⟩:=ht dst hd;split at hr
  ·rename_i q hq;cases eI:rB q.1<;>simp only[eI,cond_true,cond_false] at hr
   ·cases hr
   cases hr;have Ze:=aqd (Φ:=Φ) h hC hg hq;cases gs with
   |nil=>exact Ze.eff h gw gx hd
   |cons g bO=>exact Ze.effG h gw gx dO hg hd
  ·rename_i OF;clear OF;split at hr
   ·rename_i x e
    have mv:∀r,(match qp C S [] dst x with|some r=>some (S.setR dst r.1,r.2)|none=>uo C S dst o.type x)=some r→bV C w0 σ0 Φ S ρ A a w o r:=by
     intro r hr;split at hr
     ·rename_i q hq;cases hr;exact(ace (Φ:=Φ) h hC hg hq (.inr e)).eff h gw gx hd
     ·exact aiA h gw gx hr hd e
    cases db:C.fr.any (Nat.beq dst)<;>simp only[db,cond_true,cond_false] at hr
    ·split at hr
     ·rename_i q hq;cases hr;exact aiu h hC gw gx hq hd e
     ·exact mv r hr
    ·exact mv r hr
   ·rename_i T e;exact ahZ h gw gx hr hd e
   ·rename_i T x e;exact ah3 h hC gw gx hr hd e
   ·rename_i T n ps e;split at hr
    ·exact ah5 h hC gw gx hr hd e
    ·exact aim h hC gw gx dO hg hr hd e
   ·rename_i T l c e;exact aiq h hC gw gx hr hd e
   ·rename_i T m e;exact aio h gw gx hr hd e
   ·rename_i T x e;exact aiw h gw gx hr hd e
   ·rename_i T U x e;exact ah7 h hC gw gx hr hd e
   ·rename_i c e;cases c with|mk callee args argTypes=>
    split at hr
    ·rename_i hc;simp only at hc;split at hr
     ·rename_i s x T T' ha Pe;simp only at ha Pe;cases hT:Nat.beq T T'<;>simp only[hT,cond_true,cond_false] at hr
      ·cases hr
      have z7:=ay hT;subst z7;refine ah1 h hC gw gx hr hd ?_;have h1:args=#[s,x]:=by rw[←tS];exact ha
      have h2:argTypes=#[T,T]:=by rw[←tS];exact Pe
      rw[e,hc,h1,h2]
     ·cases hr
    ·rename_i f hc;simp only at hc;split at hr
     ·rename_i q hq;cases hr;exact aik h hC aY hΦ gw gx dO hg hq hd (by rw[e,hc])
     ·split at hr
      ·split at hr
       ·rename_i q hq;cases hr;exact aie h hC aY hΦ gw gx hq hd (by rw[e,hc])
       ·split at hr
        ·rename_i q hq;cases hr;exact aih h hC aY hΦ gw gx hq hd (by rw[e,hc])
        split at hr
        ·rename_i q hq;cases hr;exact aic h hC aY hΦ gw gx hq hd (by rw[e,hc])
        ·simp only[az] at hr;obtain⟨q,hq,rfl⟩:=hr;rw[←hd];exact Xd h hC aY hΦ ht hq (by rw[e,hc])
      ·cases hr
    ·rename_i x Jh hc;simp only at hc;split at hr
     ·rename_i q hq;cases hr;exact aia h hC aY hΦ gw gx dO hg hq hd (by rw[e,hc])
     ·split at hr
      ·simp only[az] at hr;obtain⟨q,hq,rfl⟩:=hr;rw[←hd];exact Xb h hC aY hΦ ht hq (by rw[e,hc])
      ·cases hr
    ·cases hr
   ·rename_i fn first caps e;exact ais h gw gx hr hd e
   ·cases hr
 ·rename_i hd;split at hr
  ·rename_i T x v e;exact aiy h hC hr hd e
  ·rename_i T m k v e;exact Xf h hC hr hd (.inl e)
  ·rename_i T m k v e;exact Xf h hC hr hd (.inr e)
  ·cases hr;intro ρ' ah;simp[PI.runs,PI.run,PE.ev,D.bool,D.b] at ah
  ·rename_i c e;cases c with|mk callee args argTypes=>
   split at hr
   ·rename_i f hc;simp only at hc;simp only[az] at hr;obtain⟨q,hq,rfl⟩:=hr;rw[←hd];exact Xd h hC aY hΦ ht hq (by rw[e,hc])
   ·rename_i t hc;simp only at hc;simp only[az] at hr;obtain⟨q,hq,rfl⟩:=hr;rw[←hd];exact Xb h hC aY hΦ ht hq (by rw[e,hc])
   ·cases hr
  ·cases hr
theorem ahH {g:Nat×Bool}{bO:List (Nat×Bool)}{o:Oper}{r:St×List PI}(hr:core C S (g::bO) o=some r):
 ∃dst S2 s,o.dst=some dst∧r.1=S2.setR dst (.opt (g::bO) s)∧((∃js,S2=S.fzs js)∨∃j,S2=S.newO j .dead)∧(∀gs s',s≠.opt gs s')∧(∀x,o.op≠.assign x)∧(∀T,o.op≠.alloc T)∧∀T x v,o.op≠.store T x v:=by
 unfold core at hr;split at hr
 ·rename_i dst hd;split at hr
  ·rename_i q hq;cases eI:rB q.1<;>simp only[eI,cond_true,cond_false] at hr
   ·cases hr
   cases hr;refine⟨dst,S,q.1,hd,rfl,.inl ⟨[],rfl⟩,(fun gs s' e=>by rw[e] at eI;cases eI),fun x e=>?_,fun T e=>?_,fun T x v e=>?_⟩<;>(rw[e] at hq;simp[oM] at hq)
  ·rename_i OF;clear OF;split at hr
   case h_4=>
        rename_i T n ps e;split at hr
        ·rename_i hx;cases hx
        ·unfold zM at hr;split at hr
         case h_2=>cases hr
         simp only[aq] at hr;obtain⟨e0,he0,hr⟩:=hr;split at hr
         ·cases hr;exact⟨dst,_,.dat (.slice e0.rol),hd,rfl,.inr ⟨dst,rfl⟩,(fun _ _ e=>by cases e),(fun x e'=>by rw[e] at e';cases e'),(fun x e'=>by rw[e] at e';cases e'),(fun _ _ _ e'=>by rw[e] at e';cases e')⟩
         ·cases hr
   case h_9=>
        rename_i c e;split at hr
        ·rename_i hx;cases hx
        ·rename_i f hc;split at hr
         ·rename_i q hq;cases hr;simp only[pO,aq] at hq;obtain⟨s,hs,hq⟩:=hq;split at hq
          case h_2=>cases hq
          simp only[aq] at hq;obtain⟨u,hu,hq⟩:=hq;cases bS:Ty.subs u.1 s.args<;>simp only[bS,cond_true,cond_false] at hq
          ·cases hq
          cases hq;refine⟨dst,_,.dat s.res,hd,rfl,?_,(fun _ _ e=>by cases e),(fun x e'=>by rw[e] at e';cases e'),(fun x e'=>by rw[e] at e';cases e'),(fun _ _ _ e'=>by rw[e] at e';cases e')⟩;left;cases s.res.pure
          ·exact⟨_,rfl⟩
          ·exact⟨[],rfl⟩
         ·cases hr
        ·rename_i x Jh hc;have hr:∃q,nZ C S (g::bO) dst x c.args.toList=some q∧(q.1.setR dst (ju (g::bO) q.2.1),q.2.2)=r:=by
          split at hr
          ·rename_i q hq;cases hr;exact⟨q,hq,rfl⟩
          ·split at hr
           all_goals (first|(cases hr;done)|(rename_i hx;cases hx;done)|(rename_i hx _;cases hx;done)|(rename_i hx _ _;cases hx;done)|(rename_i hx;exact absurd hx (by simp)))
         obtain⟨q,hq,rfl⟩:=hr;unfold nZ at hq;split at hq
         case h_2=>cases hq
         rename_i aa r0 ee Pf;split at hq
         case h_1=>cases hq
         simp only[aq] at hq;obtain⟨u,hu,hq⟩:=hq;cases bS:Ty.subs u.1 aa<;>simp only[bS,cond_true,cond_false] at hq
         ·cases hq
         cases hq;refine⟨dst,_,.dat r0,hd,rfl,?_,(fun _ _ e=>by cases e),(fun x e'=>by rw[e] at e';cases e'),(fun x e'=>by rw[e] at e';cases e'),(fun _ _ _ e'=>by rw[e] at e';cases e')⟩;left;cases r0.pure
         ·exact⟨_,rfl⟩
         ·exact⟨[],rfl⟩
        ·cases hr
   all_goals (first|(cases hr;done)|(rename_i hx;cases hx;done)|(rename_i hx _;cases hx;done))
 ·split at hr
  all_goals (first|(cases hr;done)|(rename_i hx;cases hx;done)|(rename_i hx _;cases hx;done))
theorem YW {ρ ρ1:Env}:∀{l:List (Nat×Bool)},(∀g,g∈l→ρ1.r g.1=ρ.r g.1)→holds l ρ1=holds l ρ
 |[],_=>rfl
 |x::l,h=>by
  have ih:=YW (l:=l) fun y hy=>h y (dy _ hy);unfold holds at ih ⊢;simp only[qJ];rw[ih,h x (dB ..)]
theorem XO:∀(l:List Gh) {S:St} {r:St×List PI},jQ C l S=some r→∀t,t∉r.2.flatMap PI.modR
 |[],S,r,hr=>by simp only[jQ,aS] at hr;subst hr;simp
 |g::l,S,r,hr=>by
  simp only[jQ,aq,az] at hr;obtain⟨q,hq,q2,jB,rfl⟩:=hr;have ih:=XO l jB;have hg:∀t,t∉q.2.flatMap PI.modR:=by
   cases g with
   |fz j=>simp only[Gh.run,aS] at hq;subst hq;simp
   |fbox b=>
    simp only[Gh.run,Dt] at hq;split at hq
    case h_2=>cases hq
    simp only[aq] at hq;obtain⟨x,hx,hq⟩:=hq;rename_i ag shs eo;cases ag<;>simp only[cond_true,cond_false] at hq
    ·split at hq
     ·cases hq;simp[PI.modR]
     ·cases hq
    ·cases hq;simp[PI.modR]
   |rereg t j=>
    simp only[Gh.run,xX] at hq;split at hq
    ·rename_i j' ver es;cases hb:(Nat.beq ver (S.ver j')&&kY (S.o j')&& !Nat.beq j' j)<;>simp only[hb,cond_true,cond_false] at hq<;>cases hq<;>simp[PI.modR]
    ·cases hq;simp
   |recell b i j=>
    simp only[Gh.run,Gb] at hq;split at hq
    ·split at hq
     ·rename_i ag shs eo j' ver es;cases hb:(Nat.beq ver (S.ver j')&&kY (S.o j')&& !Nat.beq j' j&& !Nat.beq b j&& !Nat.beq b j')<;>simp only[hb,cond_true,cond_false] at hq<;>cases hq<;>simp[PI.modR]
     ·cases hq;simp
    ·cases hq;simp
   |home b i j T=>
    simp only[Gh.run,Ec] at hq;split at hq
    ·split at hq
     ·cases hb:(!Nat.beq b j)<;>simp only[hb,cond_true,cond_false] at hq<;>cases hq<;>simp[PI.modR]
     ·cases hq;simp
    ·cases hq;simp
  intro t hm;rw[List.flatMap_append,dJ] at hm;exact hm.elim (hg t) (ih t)
theorem ahy (h:Good C w0 σ0 S ρ A a w)(hC:CtxOK C σ0)(aY:dt C)(hΦ:cX C Φ){ops:Array Oper}{o:Oper}(ht:∀d,o.dst=some d→¬A d∧d<a.tmps.size)
 (hj:∀j want t,o.guard=some (j,want)→(ops[j]?).bind (·.dst)=some t→A t) {r:St×List PI} (hr:CV C S ops o=some r) {ρ':Env} (ah:PI.runs Φ r.2 ρ=some ρ')
 {K:Act→World→Prop} {Q:Exit→Act→World→Prop} (hK:∀a' w',Good C w0 σ0 r.1 ρ' (fun u=>A u∨o.dst=some u) a' w'→a'.tmps.size=a.tmps.size→K a' w'):
 if Region.wanted o (yielded ops a.tmps) then o.wp C.P a w K Q else K (a.put o.dst undef) w:=by
 simp only[CV,aq] at hr;obtain⟨gs,dO,r1,jf,r2,mq,r3,wV,hr⟩:=hr;have Am:=XS h dO hj;rw[XT h dO];cases hc:jv gs o.dst r2.2<;>simp only[hc,cond_true,cond_false] at hr
 ·cases hr
 cases hr;simp only[oY,aq] at ah;obtain⟨ρ2,⟨ρ1,hρ1,hρ2⟩,hρ3⟩:=ah;have h1:=NK _ h jf hρ1;have cw:=h1;obtain⟨σ1,dq,aQ,i1⟩:=cw;have I1:holds gs ρ1=holds gs ρ:=by
  cases gs with
  |nil=>rfl
  |cons g bO=>
   have hb:=(PI.runs_but hρ1).r
   have:∀x,x∈(g::bO)→ρ1.r x.1=ρ.r x.1:=fun x hm=>hb x.1 (by
        intro dg;exact XO _ jf x.1 dg)
   exact YW this
 cases hh:holds gs ρ with
 |true=>
  simp only[if_true];rw[hh] at I1;refine ahJ i1 hC aY hΦ ht Am I1 mq ρ2 hρ2 K Q (fun a' w' fT aE=>?_);exact hK a' w' (NK (r:=r3) _ fT wV hρ3) aE
 |false=>
  simp only[vI,if_false];rw[hh] at I1;cases gs with
  |nil=>simp[holds] at hh
  |cons g bO=>
   obtain⟨dst,S2,s,hd,hS,zZ,hns,n1,n2,n3⟩:=ahH mq;obtain⟨t1,t2⟩:=ht dst hd;have kp:post C r2.1 o=[]:=by
        unfold post;split
        ·rename_i x t e _;exact absurd e (n1 x)
        ·rename_i T t e _;exact absurd e (n2 T)
        ·rename_i T x v e;exact absurd e (n3 T x v)
        ·rfl
   rw[kp] at wV;simp only[jQ,aS] at wV;subst wV;have:=nA hρ3;subst this;obtain⟨σ2,jk,i2⟩:∃σ2 jk,Inv C S2 ρ1 σ2 jk aQ w0 σ0 A a w:=by
        rcases zZ with⟨js,rfl⟩|⟨j,rfl⟩
        ·obtain⟨σ2,jk,_,i2⟩:=Inv.fzs js i1;exact⟨σ2,jk,i2⟩
        ·exact⟨σ1,dq,i1.kill j⟩
   have Ef:=i2.passed t1 t2 Am I1 (s:=s) hns (ρ'.r dst);have hρe:ρ1.setR dst (ρ'.r dst)=ρ':=by
        have hb:=PI.runs_but hρ2;simp only[jv,hd] at hc;unfold ab9 at hc;rw[bF] at hc
        have e1:∀t,t≠dst→ρ'.r t=ρ1.r t:=fun t aw=>hb.r t (fun hm=>by
         obtain⟨p,hp,uI⟩:=j7.1 hm;have:=hc p hp;simp only[ao] at this;have:=bF.1 this.1 t uI;exact aw (ay this).symm)
        have e2:∀t,ρ'.o t=ρ1.o t:=fun t=>hb.o t (fun hm=>by
         obtain⟨p,hp,uI⟩:=j7.1 hm;have:=hc p hp;simp only[ao] at this;have h9:=tX.1 this.2;rw[h9] at uI;cases uI)
        have r1:bT ρ1.r dst (ρ'.r dst)=ρ'.r:=by
         funext t;rw[fj];split
         ·rename_i e;subst e;rfl
         ·rename_i aw;exact(e1 t aw).symm
        have r2:ρ1.o=ρ'.o:=funext fun t=>(e2 t).symm;cases ρ' with|mk a b=>simp only[Env.setR] at r1 r2 ⊢;rw[r1,r2]
   rw[hρe] at Ef;have gV:(fun u=>A u∨o.dst=some u)=(fun u=>A u∨u=dst):=by funext u;rw[hd];simp[eq_comm]
   rw[gV] at hK;rw[hd];refine hK _ _ ?_ (size_put _ _ _);simp only;rw[hS];exact⟨_,_,_,Ef⟩
theorem ahA (h:Good C w0 σ0 S ρ A a w)(hC:CtxOK C σ0)(aY:dt C)(hΦ:cX C Φ){ops:Array Oper}{o:Oper}(ht:∀d,o.dst=some d→¬A d∧d<a.tmps.size)
 (hj:∀j want t,o.guard=some (j,want)→(ops[j]?).bind (·.dst)=some t→A t) {r:St×List PI} (hr:zH C S ops o=some r) {ρ':Env} (ah:PI.runs Φ r.2 ρ=some ρ')
 {K:Act→World→Prop} {Q:Exit→Act→World→Prop} (hK:∀a' w',Good C w0 σ0 r.1 ρ' (fun u=>A u∨o.dst=some u) a' w'→a'.tmps.size=a.tmps.size→K a' w'):
 if Region.wanted o (yielded ops a.tmps) then o.wp C.P a w K Q else K (a.put o.dst undef) w:=by
 unfold zH at hr;split at hr
 ·rename_i q hq;cases hr;exact ahy h hC aY hΦ ht hj hq ah hK
 ·cases hr;simp[PI.runs,PI.run,Gs,PE.ev,D.b_bool] at ah
end
end Cx
namespace Cx
open Go Go.RowKit
def oL:Op→Bool
 |.defer _=>false
 |_=>true
def FR (rd:Option Nat):Fence:={Fence.wide with round:=rd}
theorem WE {rd:Option Nat}{n:Nat}{P:Program}{f:FuncId}{args:Array Value}{w:World}{R:Ending→World→Prop}(h:Calls P f args w R):CallsIn (FR rd) n P f args w R:=
 (callsIn_wide (n:=n)).2 h
theorem acg {rd:Option Nat}{n:Nat}{P:Program}{o:Oper}{a:Act}{w:World}{K:Act→World→Prop}{Q:Exit→Act→World→Prop}(bn:oL o.op=true)(h:o.wp P a w K Q):o.wpIn (FR rd) n P a w K Q:=by
 refine⟨fun _ _=>trivial,?_⟩;rw[Oper.semAt_eq _ _ _ (fun c e=>by rw[e] at bn;cases bn)];unfold Oper.wp at h;generalize (execOp a.eval o).run P w=x at h;have eI:∀{p:Prop},((FR rd).depth.isSome=true→p):=fun e=>by cases e
 cases x with
 |ok v w'=>
  cases v with
  |value v=>exact h
  |skip=>exact h
  |defer d=>exact h
  |enter f args=>
   refine⟨eI,(WE h).mono fun e kH hh=>?_⟩;cases e<;>exact hh
  |row row args=>
   refine⟨eI,fun c cs _=>?_⟩;obtain⟨v,w2,h1,h2⟩:=h c cs;exact⟨v,w2,h1,stepsIn_wide.2 h2⟩
  |_=>exact h.elim
 |halt v w'=>
  cases v with
  |panic v=>exact h
  |_=>exact h.elim
structure SameBut (D:Nat→Prop) (a a':Act):Prop where
 size:a'.tmps.size=a.tmps.size
 get:∀t,¬D t→a'.tmps.getD t undef=a.tmps.getD t undef
theorem SameBut.refl (D:Nat→Prop)(a:Act):SameBut D a a:=⟨rfl,fun _ _=>rfl⟩
theorem SameBut.trans {D:Nat→Prop}{a b c:Act}(h:SameBut D a b)(k:SameBut D b c):SameBut D a c:=⟨k.size.trans h.size,fun t ht=>(k.get t ht).trans (h.get t ht)⟩
theorem SameBut.mono {D D':Nat→Prop}{a b:Act}(h:SameBut D a b)(hd:∀t,D t→D' t):SameBut D' a b:=⟨h.size,fun t ht=>h.get t fun e=>ht (hd t e)⟩
theorem SameBut.put (a:Act)(d:Option Tmp)(v:Value)(ds:List Deferred):SameBut (fun t=>d=some t) a ({a with defers:=ds}.put d v):=by
 refine⟨size_put _ _ _,fun t ht=>?_⟩;cases d with
 |none=>rfl
 |some u=>
  have:t≠u:=fun e=>ht (by rw[e]);rw[ye];simp[this]
theorem Oper.wp_same {P:Program}{o:Oper}{a:Act}{w:World}{K:Act→World→Prop}{Q:Exit→Act→World→Prop}(h:o.wp P a w (fun a' w'=>SameBut (fun t=>o.dst=some t) a a'→K a' w') Q):o.wp P a w K Q:=by
 unfold Oper.wp at h ⊢;generalize (execOp a.eval o).run P w=x at h ⊢;cases x with
 |ok v w'=>
  cases v with
  |value v=>exact h (SameBut.put a _ _ a.defers)
  |skip=>exact h (SameBut.put a _ _ a.defers)
  |defer d=>exact h (SameBut.put a _ _ _)
  |enter f args=>
   refine Calls.mono h fun e kH hh=>?_;cases e with
   |returned v=>exact hh (SameBut.put a _ _ a.defers)
   |panicked c=>exact hh
   |outgrown=>exact hh
  |row row args=>exact Rows.mono h fun v kH hh=>hh (SameBut.put a _ _ a.defers)
  |_=>exact h
 |halt v w'=>
  cases v with
  |panic v=>exact h
  |_=>exact h
def V4 (P:Program)(v:Value)(args:List Value)(w:World)(R:Value→World→Prop):Prop:=
 ∀(rd:Option Nat) (o:Oper) (a:Act) (x:Operand) (aa:Array Operand) (ts:Array TypeId) (K:Act→World→Prop) (Q:Exit→Act→World→Prop),
  o.op=.call {callee:=.value x,args:=aa,argTypes:=ts}→a.eval x=v→aa.toList.map a.eval=args→(∀u w',R u w'→K (a.put o.dst u) w')→o.wpIn (FR rd) 0 P a w K Q
def mR:Nat:=1000000009
def pB (C:Ctx)(Φ:aL)(w0:World)(σ0:Base):Prop:=∀J ys,C.yl=some (J,ys)→σ0.B=0∧(∀t fx cx w,σ0.F t fx cx w→∃xs,t=.list xs)∧
 ∀(xs ds':List D) (d:D),Φ mR [.list (xs++[.tup ds'])]=some d→∀(fx cx:Nat→Prop) (w1:World) (σ1:Im) (args:List Value),σ0.F (.list xs) fx cx w1→σ1.ok w1→po C σ1 ys args ds'→
  (∀k o x,σ1.c k o=some x→¬cx k)→(∀k x,σ1.m k=some x→¬cx k)→
  (∀k o x,σ1.c k o=some x→σ0.c k o=some x∨w0.heap.size≤k)→(∀k x,σ1.m k=some x→σ0.m k=some x∨w0.heap.size≤k)→
  V4 C.P C.yv args w1 fun u w2=>∃b,d=.v (.bool b)∧u=.bool b∧Below 0 w1 w2∧(∀k,k<w1.heap.size→¬cx k→w2.heap[k]?=w1.heap[k]?)∧
   ∃m0 kf,σ0.F (.list (xs++[.tup ds'])) m0 kf w2∧(∀k,m0 k→k<w1.heap.size→fx k∨(∃o x,σ1.c k o=some x)∨(∃x,σ1.m k=some x∧x≠cD))∧(∀k,kf k→k<w1.heap.size→cx k)
def Lv (gs:List (Nat×Bool))(J:Nat)(x:PE):PE:=
 match gs with
 |[]=>.app (.o J) (.lst [x])
 |_=>.pick (.nt (.imp gs (.con (.v (.bool false))))) (.app (.o J) (.lst [x])) (.o J)
def zI (C:Ctx)(S:St)(ops:Array Oper)(o:Oper):Option (St×List PI):=
 match o.dst,o.op,C.yl with
 |some dst,.call {callee:=.value (.tmp t),args:=args,..},some (J,ys)=>
  (pU S ops o).bind fun gs=>
    match kE S gs t with
    |.yv=>
     match(S.fzs (bP S gs args.toList)).o J with
     |.tr=>
      (kG C (S.fzs (bP S gs args.toList)) gs args.toList).bind fun u=>
        bif Ty.subs u.1 ys then some ((S.fzs (bP S gs args.toList)).setR dst (ju gs (.dat .bool)),[.setO J (Lv gs J (.tup u.2)),.call gs dst mR [.o J]]) else none
     |_=>none
    |_=>none
 |_,_,_=>none
def pK (C:Ctx)(S:St)(ops:Array Oper)(o:Oper):Option (St×List PI):=
 match zI C S ops o with
 |some r=>some r
 |none=>zH C S ops o
section
variable {C:Ctx} {S:St} {ρ:Env} {σ:Im} {own:Nat→Option Nat} {hv:Nat→Value} {w0:World} {σ0:Base} {A:Nat→Prop} {a:Act} {w:World} {gs:List (Nat×Bool)} {Φ:aL} {dst:Nat}
theorem asO (gs:List (Nat×Bool))(J:Nat)(x:PE)(ρ:Env):(Lv gs J x).ev ρ=if holds gs ρ=true then .list ((ρ.o J).l++[x.ev ρ]) else ρ.o J:=by
 cases gs with
 |nil=>simp[Lv,PE.ev,PE.evs,holds,D.l_list]
 |cons g gs=>
  simp only[Lv,PE.ev,PE.evs,D.b_bool,D.l_list,tU,Bool.not_not];cases holds (g::gs) ρ<;>rfl
theorem Inv.yielded (h:Inv C S ρ σ own hv w0 σ0 A a w)(hB:σ0.B=0){J:Nat}{ys:List Ty}(hJ:C.yl=some (J,ys))(IF:S.o J=.tr){w2:World}(hb:Below 0 w w2){t:D}{fx cx:Nat→Prop}(hf:FrOK σ own w0.heap.size σ0 w t fx cx)
 (hs:∀k,k<w.heap.size→¬cx k→w2.heap[k]?=w.heap[k]?) {t':D} {m0 kf:Nat→Prop} (hF:σ0.F t' m0 kf w2)
 (h1:∀k,m0 k→k<w.heap.size→fx k∨(∃o x,σ.c k o=some x)∨(∃x,σ.m k=some x∧x≠cD)) (h2:∀k,kf k→k<w.heap.size→cx k):Inv C S (ρ.setO J t') σ own hv w0 σ0 A a w2:=by
 have bS:=σ0.sub _ _ _ _ hf.F;have dv:∀k o x,σ.c k o=some x→w2.heap[k]?=w.heap[k]?:=fun k o x e=>hs k (h.lt e) (hf.c k o x e);have Ar:∀k x,σ.m k=some x→w2.heap[k]?=w.heap[k]?:=fun k x e=>hs k (h.ltm e) (hf.m k x e);have OS:∀k j,own k=some j→w2.heap[k]?=w.heap[k]?:=fun k j e=>hs k (h.owns k j e).2.1 fun hc=>hf.own k j e (bS k hc)
 refine⟨h.defers,⟨fun k o v e=>by rw[World.cell?_of_block (dv k o v e)];exact h.ok.c k o v e,fun k x e=>(h.ok.m k x e).keep (Ar k x e),h.ok.fz dv⟩,h.le,h.old,h.newc,h.newm,h.below.trans (hb.mono (by omega)),h.bw,
  fun k j e=>let⟨g1,g2,g3⟩:=h.owns k j e;⟨g1,sr g2 hb.size,g3⟩,fun u=>aH.mono (S:=S) (ρ:=ρ) (ρ':=ρ.setO J t') (.refl σ) (.refl S hv) (d:=ρ.r u) (fun _ _ _=>rfl) (fun gs s e=>(h.opts u gs s e).2) (h.regs u),fun j=>?_,h.opts,
  t',m0,kf,⟨hF,fun k j e hk=>?_,fun k o x e hc=>hf.c k o x e (h2 k hc (h.lt e)),fun k x e hc=>hf.m k x e (h2 k hc (h.ltm e)),fun k e NQ hk=>?_⟩,fun j hj=>?_⟩
 ·by_cases Ao:j=J
  ·subst Ao;rw[IF];trivial
  ·exact(h.objs j).mono (.refl σ) (.refl S hv) rfl (by simp[Env.setO,bo _ _ Ao]) (fun k e=>⟨e,OS k j e⟩)
 ·obtain⟨_,g2,g3,g4⟩:=h.owns k j e;rcases h1 k hk g2 with e1|⟨o,x,e1⟩|⟨x,e1,_⟩
  ·exact hf.own k j e e1
  ·rw[g3 o] at e1;cases e1
  ·rw[g4] at e1;cases e1
 ·rcases h1 k hk (h.ltm e) with e1|⟨o,x,e1⟩|⟨x,e1,e2⟩
  ·exact hf.d k e NQ e1
  ·have c1:=h.ok.c k o x e1;rcases h.ok.m k _ e with⟨m1,_⟩|⟨_,m2⟩|⟨m3,_⟩
   ·exact m1 rfl
   ·simp[World.cell?,m2] at c1
   ·exact tK m3.symm
  ·rw[e] at e1;cases e1;exact e2 rfl
 ·obtain⟨_,_,_,_,ht⟩:=h.frame;obtain⟨⟨ys',e1⟩,_⟩:=ht j hj;rw[hJ] at e1;cases e1;exact⟨⟨_,hJ⟩,aK _ _ _⟩
theorem ahB {rd:Option Nat}(h:Good C w0 σ0 S ρ A a w)(hC:CtxOK C σ0)(hY:pB C Φ w0 σ0){ops:Array Oper}{o:Oper}(ht:∀d,o.dst=some d→¬A d∧d<a.tmps.size)
 (hj:∀j want t,o.guard=some (j,want)→(ops[j]?).bind (·.dst)=some t→A t) {r:St×List PI} (hr:zI C S ops o=some r) {ρ':Env} (ah:PI.runs Φ r.2 ρ=some ρ')
 {K:Act→World→Prop} {Q:Exit→Act→World→Prop} (hK:∀a' w',Good C w0 σ0 r.1 ρ' (fun u=>A u∨o.dst=some u) a' w'→SameBut (fun t=>o.dst=some t) a a'→K a' w'):
 if Region.wanted o (yielded ops a.tmps) then o.wpIn (FR rd) 0 C.P a w K Q else K (a.put o.dst undef) w:=by
 unfold zI at hr;split at hr
 case h_2=>cases hr
 rename_i _ _ dst t args ts J ys hd bQ ku;simp only[aq] at hr;obtain⟨gs,dO,hr⟩:=hr;split at hr
 case h_2=>cases hr
 rename_i Eu;split at hr
 case h_2=>cases hr
 rename_i IF;simp only[aq] at hr;obtain⟨u,hu,hr⟩:=hr;cases bS:Ty.subs u.1 ys<;>simp only[bS,cond_true,cond_false] at hr
 ·cases hr
 cases hr;have Am:=XS h dO hj;rw[XT h dO];obtain⟨σ,own,hv,i⟩:=h;obtain⟨σ1,dq,hle,i1⟩:=Inv.fzs (bP S gs args.toList) i;obtain⟨t1,t2⟩:=ht dst hd;have gV:(fun u=>A u∨o.dst=some u)=(fun u=>A u∨u=dst):=by funext u;rw[hd];simp[eq_comm]
 rw[gV] at hK;simp only[PI.runs,PI.run,j8,asO,aq] at ah;cases hh:holds gs ρ with
 |false=>
  simp only[hh,vI,if_false] at ah ⊢;have e1:ρ.setO J (ρ.o J)=ρ:=by
   cases ρ with|mk r o=>simp only[Env.setO];congr 1;funext x;rw[fj];split<;>simp_all
  rw[e1,hh] at ah;obtain⟨ρ1,e2,e3⟩:=ah;cases e2;cases e3;cases gs with
  |nil=>simp[holds] at hh
  |cons g bO=>
   have Ef:=i1.passed t1 t2 Am hh (s:=.dat .bool) (fun _ _ e=>by cases e) (ρ.r dst);have e4:ρ.setR dst (ρ.r dst)=ρ:=by
        cases ρ with|mk r o=>simp only[Env.setR];congr 1;funext x;rw[fj];split<;>simp_all
   rw[e4] at Ef;rw[hd];exact hK _ _ ⟨_,_,_,Ef⟩ (by rw[hd];exact SameBut.put a (some dst) undef a.defers)
 |true=>
  simp only[hh,if_true] at ah ⊢;have dD:=BW i1 hC hh hu bS;obtain⟨tr,fx,cx,hf,sX⟩:=i1.frame;obtain⟨_,hρJ⟩:=sX J IF;obtain⟨hB,alY,Pv⟩:=hY J ys ku;obtain⟨xs,rfl⟩:=alY _ _ _ _ hf.F;rw[hρJ] at ah;simp only[D.l_list,PE.ev] at ah;obtain⟨ρ1,e2,e3⟩:=ah;cases e3;have Yz:holds gs (ρ.setO J (.list (xs++[.tup (PE.evs ρ u.2)])))=true:=hh;rw[Yz] at e2;simp only[cond_true,PE.evs,PE.ev,Env.setO,aK,az] at e2;obtain⟨d,e4,e5⟩:=e2;have hy:=Pv xs (PE.evs ρ u.2) d e4 fx cx w σ1 (args.toList.map a.eval) hf.F i1.ok dD hf.c hf.m i1.newc i1.newm;have cn:a.eval (.tmp t)=C.yv:=by
   have:=(mK i hh t).1;rw[Eu] at this;have h9:a.tmps.getD t undef=C.yv:=this;simpa [Act.eval] using h9
  refine hy rd o a (.tmp t) args ts K Q bQ cn rfl fun v w2 kp=>?_;obtain⟨b,rfl,rfl,hb,hs,m0,kf,hF,h1,h2⟩:=kp;have i2:=i1.yielded hB ku IF hb hf hs hF h1 h2;refine hK _ _ ?_ (SameBut.put a _ _ a.defers);rw[hd,←e5];change Good C w0 σ0 _ ((ρ.setO J (.list (xs++[.tup (PE.evs ρ u.2)]))).setR dst (.v (.bool b))) _ _ _;have hh3:holds gs ((ρ.setO J (.list (xs++[.tup (PE.evs ρ u.2)]))).setR dst (.v (.bool b)))=true:=by
   rw[Eb (t:=dst) fun g hm e=>t1 (by rw[←e];exact Am g hm)];exact Yz
  cases gs with
  |nil=>exact⟨_,_,_,i2.setReg t1 (s:=.dat .bool) (.bool b) t2 (fun _ _ e=>by cases e)⟩
  |cons g bO=>
   refine⟨_,_,_,i2.setReg t1 (s:=.opt (g::bO) (.dat .bool)) ⟨fun _=>.bool b,fun e=>absurd (hh3.symm.trans e) (by decide)⟩ t2 (fun gs s e=>?_)⟩;cases e;exact⟨Am,fun _ _ e=>by cases e⟩
theorem If {rd:Option Nat}(h:Good C w0 σ0 S ρ A a w)(hC:CtxOK C σ0)(aY:dt C)(hΦ:cX C Φ)(hY:pB C Φ w0 σ0){ops:Array Oper}{o:Oper}(bn:oL o.op=true)(ht:∀d,o.dst=some d→¬A d∧d<a.tmps.size)
 (hj:∀j want t,o.guard=some (j,want)→(ops[j]?).bind (·.dst)=some t→A t) {r:St×List PI} (hr:pK C S ops o=some r) {ρ':Env} (ah:PI.runs Φ r.2 ρ=some ρ')
 {K:Act→World→Prop} {Q:Exit→Act→World→Prop} (hK:∀a' w',Good C w0 σ0 r.1 ρ' (fun u=>A u∨o.dst=some u) a' w'→SameBut (fun t=>o.dst=some t) a a'→K a' w'):
 if Region.wanted o (yielded ops a.tmps) then o.wpIn (FR rd) 0 C.P a w K Q else K (a.put o.dst undef) w:=by
 unfold pK at hr;split at hr
 ·rename_i q hq;cases hr;exact ahB h hC hY ht hj hq ah hK
 ·have:=ahA (K:=fun a' w'=>SameBut (fun t=>o.dst=some t) a a'→K a' w') (Q:=Q) h hC aY hΦ ht hj hr ah (fun a' w' g _ hs=>hK a' w' g hs);split
  ·rename_i hw;rw[if_pos hw] at this;exact acg bn (Oper.wp_same this)
  ·rename_i hw;rw[if_neg hw] at this;exact this (SameBut.put a _ _ a.defers)
end
def nX (C:Ctx)(ops:Array Oper):List Nat→St→Option (St×List PI)
 |[],S=>some (S,[])
 |i::l,S=>
  match ops[i]? with
  |some o=>(pK C S ops o).bind fun r=>(nX C ops l r.1).map fun q=>(q.1,r.2++q.2)
  |none=>none
def rS (n:Nat)(ops:Array Oper):Bool:=
 gM (ops.toList.filterMap (·.dst))&&ops.toList.all fun o=>oL o.op&&match o.dst with|some d=>Nat.blt d n|none=>true
section
variable {C:Ctx} {S:St} {ρ:Env} {σ:Im} {own:Nat→Option Nat} {hv:Nat→Value} {w0:World} {σ0:Base} {A:Nat→Prop} {a:Act} {w:World} {gs:List (Nat×Bool)} {Φ:aL} {dst:Nat}
def l5 (ops:Array Oper)(done:List Nat):Nat→Prop:=fun t=>∃i o,i∈done∧ops[i]?=some o∧o.dst=some t
theorem wg.dst_once {ops:Array Oper}(bn:(ops.toList.filterMap (·.dst)).Nodup){i j:Nat}{o o':Oper}{d:Nat}(hi:ops[i]?=some o)(hj:ops[j]?=some o')(hd:o.dst=some d)(fS:o'.dst=some d)(aw:i≠j):False:=by
 have key:∀(l:List Oper),(l.filterMap (·.dst)).Nodup→∀(i j:Nat) (o o':Oper),l[i]?=some o→l[j]?=some o'→o.dst=some d→o'.dst=some d→i=j:=by
  intro l
  induction l with
  |nil=>intro _ i j o o' hi;simp at hi
  |cons x l ih=>
   intro bn i j o o' hi hj hd fS;have dg:∀(k:Nat) (y:Oper),l[k]?=some y→y.dst=some d→d∈l.filterMap (·.dst):=fun k y hk hy=>tY.2 ⟨y,jM hk,hy⟩;cases hx:x.dst with
   |none=>
    rw[List.filterMap_cons_none hx] at bn;cases i with
    |zero=>simp at hi;subst hi;rw[hx] at hd;cases hd
    |succ i=>
     cases j with
     |zero=>simp at hj;subst hj;rw[hx] at fS;cases fS
     |succ j=>simp at hi hj;rw[ih bn i j o o' hi hj hd fS]
   |some y=>
    rw[List.filterMap_cons_some hx,mU] at bn;cases i with
    |zero=>
     simp at hi;subst hi;rw[hx] at hd;cases hd;cases j with
     |zero=>rfl
     |succ j=>simp at hj;exact absurd (dg j o' hj fS) bn.1
    |succ i=>
     cases j with
     |zero=>
      simp at hj;subst hj;rw[hx] at fS;cases fS;simp at hi;exact absurd (dg i o hi hd) bn.1
     |succ j=>simp at hi hj;rw[ih bn.2 i j o o' hi hj hd fS]
 exact aw (key ops.toList bn i j o o' (by simpa using hi) (by simpa using hj) hd fS)
def qW (ops:Array Oper):Nat→Prop:=fun t=>∃o,o∈ops.toList∧o.dst=some t
theorem wg (hC:CtxOK C σ0)(aY:dt C)(hΦ:cX C Φ)(hY:pB C Φ w0 σ0){ops:Array Oper}{n:Nat}(av:rS n ops=true){rd:Option Nat}{Q:Exit→Act→World→Prop}:
 ∀(l done:List Nat) {S:St} {ρ ρ':Env} {a:Act} {w:World} {r:St×List PI},(done++l).Nodup→(∀p i q o j want,l=p++i::q→ops[i]?=some o→o.guard=some (j,want)→j∈done++p)→
  a.tmps.size=n→Good C w0 σ0 S ρ (l5 ops done) a w→nX C ops l S=some r→PI.runs Φ r.2 ρ=some ρ'→
  (∀a' w',SameBut (qW ops) a a'→Good C w0 σ0 r.1 ρ' (l5 ops (done++l)) a' w'→Q .normal a' w')→wpOpsIn (FR rd) 0 C.P ops Q l a w:=by
 simp only[rS,ao] at av;have bn:=lL av.1;intro l
 induction l with
 |nil=>
  intro done S ρ ρ' a w r _ _ aE h hr ah hQ;simp only[nX,aS] at hr;subst hr;rw[nA ah] at hQ;simp only[wpOpsIn];exact hQ a w (.refl _ _) (by simpa using h)
 |cons i l ih=>
  intro done S ρ ρ' a w r Oc km aE h hr ah hQ;simp only[nX] at hr;split at hr
  case h_2=>cases hr
  rename_i o ho;simp only[aq,az] at hr;obtain⟨r1,jf,q,hq,rfl⟩:=hr;simp only[oY,aq] at ah;obtain⟨ρ1,hρ1,hρ2⟩:=ah;have rh:∀d,o.dst=some d→¬l5 ops done d∧d<a.tmps.size:=by
   intro d hd;refine⟨fun⟨i',o',df,eA,fS⟩=>?_,?_⟩
   ·
        have aw:i'≠i:=by
         intro e;subst e;rw[B7] at Oc;exact Oc.2.2 i' df i' (dB ..) rfl
        exact wg.dst_once bn eA ho fS hd aw
   ·have:=bF.1 av.2 o (by
     have:=il ho;simpa using this)
    simp only[hd,ao] at this;rw[aE];simpa [iX] using this.2
  have hj:∀j want t,o.guard=some (j,want)→(ops[j]?).bind (·.dst)=some t→l5 ops done t:=by
   intro j want t hg ht;have:=km [] i l o j want rfl ho hg;simp only[lz] at this;rw[aq] at ht;obtain⟨oj,h1,h2⟩:=ht;exact⟨j,oj,this,h1,h2⟩
  have jU:oL o.op=true:=by
   have:=bF.1 av.2 o (by simpa using il ho);simp only[ao] at this;exact this.1
  have main:=If (rd:=rd) (K:=wpOpsIn (FR rd) 0 C.P ops Q l) (Q:=Q) h hC aY hΦ hY jU rh hj jf hρ1 (fun a' w' fT jh=>by
   have ru:=jh.size;refine ih (done++[i]) (by simpa using Oc) (fun p i' q' o' j want e eA alA=>?_) (ru.trans aE) ?_ hq hρ2 (fun a2 w2 s2 g2=>hQ a2 w2 ((jh.mono fun t e=>⟨o,by simpa using il ho,e⟩).trans s2) (by simpa using g2))
   ·have:=km (i::p) i' q' o' j want (by rw[e];rfl) eA alA;simpa using this
   ·have:(fun u=>l5 ops done u∨o.dst=some u)=l5 ops (done++[i]):=by
     funext u;apply propext;constructor
     ·rintro(⟨i',o',h1,h2,h3⟩|h1)
      ·exact⟨i',o',by simp[h1],h2,h3⟩
      ·exact⟨i,o,by simp,ho,h1⟩
     ·rintro⟨i',o',h1,h2,h3⟩;rcases dJ.1 h1 with h4|h4
      ·exact .inl ⟨i',o',h4,h2,h3⟩
      ·simp at h4;subst h4;rw[ho] at h2;cases h2;exact .inr h3
    rw[←this];exact fT)
  simp only[wpOpsIn,ho];split
  ·rename_i hw;rw[if_pos hw] at main;exact main
  ·rename_i hw;rw[if_neg hw] at main;exact⟨fun _ _=>trivial,main⟩
end
end Cx
namespace Cx
open Go Go.RowKit
def V9 (S:St):AgC→Bool
 |.dat _=>true
 |.obj j ver=>Nat.beq ver (S.ver j)
def AgC.zero:AgC→AgC
 |.dat t=>.dat t
 |.obj j _=>.obj j 0
def ff (S:St):Sh→Sh
 |.none=>.none
 |.dat t=>.dat t
 |.obj j ver=>bif Nat.beq ver (S.ver j) then .obj j 0 else .none
 |.ptr j ver off=>bif Nat.beq ver (S.ver j) then .ptr j 0 off else .none
 |.eptr j ver size off=>bif Nat.beq ver (S.ver j) then .eptr j 0 size off else .none
 |.opt _ _=>.none
 |.yv=>.yv
 |.fclo f caps=>bif caps.all (fun c=>Nat.beq c.2 (S.ver c.1)) then .fclo f (caps.map fun c=>(c.1,0)) else .none
 |.agg l=>bif l.all (V9 S) then .agg (l.map AgC.zero) else .none
def iP (S:St):Ob→Ob
 |.box ag shs=>.box ag (shs.map (ff S))
 |ob=>ob
def St.norm (S:St):St:=⟨fun t=>ff S (S.r t),fun j=>iP S (S.o j),fun _=>0⟩
def jF:Sh→Sh→Sh
 |.dat a,.dat b=>bif Ty.sub a b then .dat b else bif Ty.sub b a then .dat a else .none
 |.obj j v,.obj k u=>bif Nat.beq j k&&Nat.beq v u then .obj j v else .none
 |.ptr j v o,.ptr k u p=>bif Nat.beq j k&&Nat.beq v u&&Nat.beq o p then .ptr j v o else .none
 |.eptr j v s o,.eptr k u t p=>bif Nat.beq j k&&Nat.beq v u&&Nat.beq s t&&Nat.beq o p then .eptr j v s o else .none
 |.yv,.yv=>.yv
 |.fclo f a,.fclo g b=>bif Nat.beq f g&&vX a b then .fclo f a else .none
 |_,_=>.none
def xu:List Sh→List Sh→Option (List Sh)
 |[],[]=>some []
 |a::aa,b::bs=>(xu aa bs).map (jF a b::·)
 |_,_=>none
def ns:Ob→Ob→Ob
 |.fz a,.fz b=>bif Ty.beq a b then .fz a else .dead
 |.fbox a,.fbox b=>bif Ty.beq a b then .fbox a else .dead
 |.box ag aa,.box bg bs=>bif ag==bg then(match xu aa bs with|some cs=>.box ag cs|none=>.dead) else .dead
 |.row T e,.row U f=>bif Nat.beq T U&&Ty.beq e f then .row T e else .dead
 |.mp k e,.mp l f=>bif Ty.beq k l&&Ty.beq e f then .mp k e else .dead
 |.it k e,.it l f=>bif Ty.beq k l&&Ty.beq e f then .it k e else .dead
 |.tr,.tr=>.tr
 |_,_=>.dead
section
variable {C:Ctx} {S:St} {ρ:Env} {σ:Im} {own:Nat→Option Nat} {hv:Nat→Value} {w0:World} {σ0:Base} {A:Nat→Prop} {a:Act} {w:World} {gs:List (Nat×Bool)} {Φ:aL} {dst:Nat}
theorem JQ {s:Sh}{v:Value}{d:D}(h:aH C S ρ σ hv s v d):aH C S.norm ρ σ hv (ff S s) v d∧∀gs s',ff S s≠.opt gs s':=by
 cases s with
 |none=>exact⟨trivial,fun _ _ e=>by cases e⟩
 |dat t=>exact⟨h,fun _ _ e=>by cases e⟩
 |obj j ver=>
  simp only[ff];cases hb:Nat.beq ver (S.ver j)
  ·exact⟨trivial,fun _ _ e=>by cases e⟩
  ·exact⟨⟨bf _,fun _=>h.2 (ay hb)⟩,fun _ _ e=>by cases e⟩
 |ptr j ver off=>
  simp only[ff];cases hb:Nat.beq ver (S.ver j)
  ·exact⟨trivial,fun _ _ e=>by cases e⟩
  ·exact⟨⟨bf _,fun _=>h.2 (ay hb)⟩,fun _ _ e=>by cases e⟩
 |eptr j ver size off=>
  simp only[ff];cases hb:Nat.beq ver (S.ver j)
  ·exact⟨trivial,fun _ _ e=>by cases e⟩
  ·exact⟨⟨bf _,fun _=>h.2 (ay hb)⟩,fun _ _ e=>by cases e⟩
 |opt gs s=>exact⟨trivial,fun _ _ e=>by cases e⟩
 |yv=>exact⟨h,fun _ _ e=>by cases e⟩
 |agg l=>
  simp only[ff];cases hb:l.all (V9 S)
  ·exact⟨trivial,fun _ _ e=>by cases e⟩
  ·refine⟨?_,fun _ _ e=>by cases e⟩;obtain⟨vs,ds,h1,h2,h3,h4,h5⟩:=h;refine⟨vs,ds,h1,h2,by simpa using h3,by simpa using h4,fun i c hi=>?_⟩;simp only[ct,az] at hi;obtain⟨c0,hc,rfl⟩:=hi;have:=bF.1 hb _ (jM hc);have h6:=h5 i c0 hc;cases c0 with
   |dat t=>exact h6
   |obj j ver=>exact⟨bf _,fun _=>h6.2 (ay this)⟩
 |fclo f caps=>
  simp only[ff];cases hb:caps.all (fun c=>Nat.beq c.2 (S.ver c.1))
  ·exact⟨trivial,fun _ _ e=>by cases e⟩
  ·refine⟨?_,fun _ _ e=>by cases e⟩;obtain⟨vs,h1,h2,h3⟩:=h;refine⟨vs,h1,by simpa using h2,fun i j ver hi=>?_⟩;simp only[ct,az] at hi;obtain⟨⟨j',v'⟩,hc,e⟩:=hi;cases e;have:=bF.1 hb _ (jM hc);exact⟨bf _,fun _=>(h3 i _ _ hc).2 (ay this)⟩
theorem Inv.weaken (h:Inv C S ρ σ own hv w0 σ0 A a w){S':St}{ρ':Env}(hr:∀t,aH C S' ρ' σ hv (S'.r t) (a.tmps.getD t undef) (ρ'.r t))(ho:∀j,cd C S' ρ' σ own hv w w0.heap.size j (S'.o j))
 (hn:∀t gs s,S'.r t≠.opt gs s) (ht:∀j,S'.o j=.tr→S.o j=.tr∧ρ'.o j=ρ.o j):Inv C S' ρ' σ own hv w0 σ0 (fun _=>False) a w:=
 ⟨h.defers,h.ok,h.le,h.old,h.newc,h.newm,h.below,h.bw,h.owns,hr,ho,fun t gs s e=>absurd e (hn t gs s),by
   obtain⟨t,fx,cx,h1,h5⟩:=h.frame;exact⟨t,fx,cx,h1,fun j hj=>by rw[(ht j hj).2];exact h5 j (ht j hj).1⟩⟩
theorem aaH {ob:Ob}(h:iP S ob=.tr):ob=.tr:=by
 cases ob<;>simp only[iP] at h<;>first|rfl|cases h
theorem aph {x y:Ob}(h:ns x y=.tr):x=.tr∧y=.tr:=by
 cases x<;>cases y<;>simp only[ns] at h<;>first
  |exact⟨rfl,rfl⟩
  |(cases h;done)
  |skip
 ·rename_i a b;cases hb:Ty.beq a b<;>rw[hb] at h<;>cases h
 ·rename_i a b;cases hb:Ty.beq a b<;>rw[hb] at h<;>cases h
 ·rename_i ag aa bg bs;cases hb:ag==bg<;>rw[hb] at h
  ·cases h
  ·simp only[cond_true] at h;split at h<;>cases h
 ·rename_i T e U f;cases hb:(Nat.beq T U&&Ty.beq e f)<;>rw[hb] at h<;>cases h
 ·rename_i T e U f;cases hb:(Ty.beq T U&&Ty.beq e f)<;>rw[hb] at h<;>cases h
 ·rename_i T e U f;cases hb:(Ty.beq T U&&Ty.beq e f)<;>rw[hb] at h<;>cases h
theorem Inv.norm (h:Inv C S ρ σ own hv w0 σ0 A a w):Inv C S.norm ρ σ own hv w0 σ0 (fun _=>False) a w:=by
 refine h.weaken (fun t=>(JQ (h.regs t)).1) (fun j=>?_) (fun t=>(JQ (h.regs t)).2) (fun j hj=>⟨aaH hj,rfl⟩);have aX:=h.objs j;show cd C S.norm ρ σ own hv w w0.heap.size j (iP S (S.o j));cases cG:S.o j with
 |box ag shs=>
  rw[cG] at aX;obtain⟨k,cs,T,ds,h1,h2,h3,h4,h5,h6,h7⟩:=aX;refine⟨k,cs,T,ds,h1,h2,h3,by simpa using h4,h5,by simpa using h6,fun i s hi=>?_⟩;simp only[ct,az] at hi;obtain⟨s0,O3,rfl⟩:=hi;have:=JQ (h7 i s0 O3).2;exact⟨this.2,this.1⟩
 |_=>rw[cG] at aX;exact aX
theorem G5 {b:Bool}{s:Sh}{v:Value}{d:D}(hs:∀gs s',s≠.opt gs s')(h:b=true→aH C S ρ σ hv s v d):aH C S ρ σ hv (bif b then s else .none) v d∧∀gs s',(bif b then s else Sh.none)≠.opt gs s':=by
 cases b with
 |true=>exact⟨h rfl,hs⟩
 |false=>exact⟨trivial,fun _ _ e=>by cases e⟩
theorem aax {s u:Sh}{v:Value}{d:D}(h:aH C S ρ σ hv s v d):aH C S ρ σ hv (jF s u) v d∧∀gs s',jF s u≠.opt gs s':=by
 cases s<;>cases u<;>simp only[jF]<;>first
  |exact⟨trivial,fun _ _ e=>by cases e⟩
  |exact G5 (fun _ _ e=>by cases e) (fun _=>h)
  |exact⟨h,fun _ _ e=>by cases e⟩
  |skip
 rename_i a b;cases h1:Ty.sub a b
 ·exact G5 (fun _ _ e=>by cases e) (fun _=>h)
 ·exact⟨Rep.sub h h1,fun _ _ e=>by cases e⟩
theorem aay {s u:Sh}{v:Value}{d:D}(h:aH C S ρ σ hv u v d):aH C S ρ σ hv (jF s u) v d∧∀gs s',jF s u≠.opt gs s':=by
 cases s<;>cases u<;>simp only[jF]<;>first
  |exact⟨trivial,fun _ _ e=>by cases e⟩
  |exact⟨h,fun _ _ e=>by cases e⟩
  |skip
 ·rename_i a b;cases h1:Ty.sub a b
  ·exact G5 (fun _ _ e=>by cases e) (fun h2=>Rep.sub h h2)
  ·exact⟨h,fun _ _ e=>by cases e⟩
 all_goals
  refine G5 (fun _ _ e=>by cases e) (fun hb=>?_);simp only[ao] at hb
  first
   |(obtain⟨⟨⟨h1,h2⟩,h3⟩,h4⟩:=hb;rw[ay h1,ay h2,ay h3,ay h4];exact h)
   |(obtain⟨⟨h1,h2⟩,h3⟩:=hb;rw[ay h1,ay h2,ay h3];exact h)
   |(obtain⟨h1,h2⟩:=hb;rw[ay h1,ay h2];exact h)
   |(obtain⟨h1,h2⟩:=hb;rw[ay h1,M3 _ _ h2];exact h)
theorem P0:∀(aa bs cs:List Sh),xu aa bs=some cs→cs.length=aa.length∧cs.length=bs.length∧∀(i:Nat) (c:Sh),cs[i]?=some c→∃x y,aa[i]?=some x∧bs[i]?=some y∧c=jF x y
 |[],[],cs,h=>by simp[xu] at h;subst h;simp
 |[],b::bs,cs,h=>by simp[xu] at h
 |a::aa,[],cs,h=>by simp[xu] at h
 |a::aa,b::bs,cs,h=>by
  simp only[xu,az] at h;obtain⟨ds,hd,rfl⟩:=h;obtain⟨h1,h2,h3⟩:=P0 aa bs ds hd;refine⟨by simp[h1],by simp[h2],fun i c hi=>?_⟩;cases i with
  |zero=>simp at hi;exact⟨a,b,rfl,rfl,hi.symm⟩
  |succ i=>simp at hi;simpa using h3 i c hi
theorem apf {j B:Nat}{x y:Ob}(h:cd C S ρ σ own hv w B j x):cd C S ρ σ own hv w B j (ns x y):=by
 cases x<;>cases y<;>simp only[ns]<;>first
  |trivial
  |(rename_i a b;cases Ty.beq a b;·trivial
    ·exact h)
  |skip
 ·rename_i ag aa bg bs;cases ag==bg
  ·trivial
  ·simp only[cond_true];split
   ·rename_i cs dv;obtain⟨l1,l2,p6⟩:=P0 aa bs cs dv;obtain⟨k,cells,T,ds,h1,h2,h3,h4,h5,h6,h7⟩:=h;refine⟨k,cells,T,ds,h1,h2,h3,by omega,h5,by omega,fun i s hi=>?_⟩;obtain⟨x,y,hx,hy,rfl⟩:=p6 i s hi;have:=aax (u:=y) (h7 i x hx).2;exact⟨this.2,this.1⟩
   ·trivial
 ·rename_i T e U f;cases Nat.beq T U&&Ty.beq e f
  ·trivial
  ·exact h
 ·rename_i T e U f;cases Ty.beq T U&&Ty.beq e f
  ·trivial
  ·exact h
 ·rename_i T e U f;cases Ty.beq T U&&Ty.beq e f
  ·trivial
  ·exact h
theorem apg {j B:Nat}{x y:Ob}(h:cd C S ρ σ own hv w B j y):cd C S ρ σ own hv w B j (ns x y):=by
 cases x<;>cases y<;>simp only[ns]<;>first
  |trivial
  |skip
 ·rename_i a b;cases hb:Ty.beq a b
  ·trivial
  ·rw[Ty.beq_eq _ _ hb];exact h
 ·rename_i a b;cases hb:Ty.beq a b
  ·trivial
  ·rw[Ty.beq_eq _ _ hb];exact h
 ·rename_i ag aa bg bs;cases ag==bg
  ·trivial
  ·simp only[cond_true];split
   ·rename_i cs dv;obtain⟨l1,l2,p6⟩:=P0 aa bs cs dv;obtain⟨k,cells,T,ds,h1,h2,h3,h4,h5,h6,h7⟩:=h;refine⟨k,cells,T,ds,h1,h2,h3,by omega,h5,by omega,fun i s hi=>?_⟩;obtain⟨x,y,hx,hy,rfl⟩:=p6 i s hi;have:=aay (s:=x) (h7 i y hy).2;exact⟨this.2,this.1⟩
   ·trivial
 ·rename_i T e U f;cases hb:(Nat.beq T U&&Ty.beq e f)
  ·trivial
  ·simp only[ao] at hb;rw[ay hb.1,Ty.beq_eq _ _ hb.2];exact h
 ·rename_i T e U f;cases hb:(Ty.beq T U&&Ty.beq e f)
  ·trivial
  ·simp only[ao] at hb;rw[Ty.beq_eq _ _ hb.1,Ty.beq_eq _ _ hb.2];exact h
 ·rename_i T e U f;cases hb:(Ty.beq T U&&Ty.beq e f)
  ·trivial
  ·simp only[ao] at hb;rw[Ty.beq_eq _ _ hb.1,Ty.beq_eq _ _ hb.2];exact h
end
end Cx
namespace Cx
open Go Go.RowKit
section
variable {C:Ctx} {S T:St} {ρ ρ':Env} {σ:Im} {own:Nat→Option Nat} {hv:Nat→Value} {w0:World} {σ0:Base} {A:Nat→Prop} {a:Act} {w:World} {gs:List (Nat×Bool)} {Φ:aL} {dst:Nat}
theorem Inv.env (h:Inv C S ρ σ own hv w0 σ0 (fun _=>False) a w)(hn:∀t gs s,S.r t≠.opt gs s)(hr:∀t,isNone (S.r t)=false→ρ'.r t=ρ.r t)(ho:∀j,oF (S.o j)=false→ρ'.o j=ρ.o j):
 Inv C S ρ' σ own hv w0 σ0 (fun _=>False) a w:=by
 refine h.weaken (fun t=>?_) (fun j=>?_) hn (fun j hj=>⟨hj,ho j (by rw[hj];rfl)⟩)
 ·cases hs:isNone (S.r t) with
  |true=>cases hc:S.r t<;>rw[hc] at hs<;>simp[isNone] at hs;trivial
  |false=>
   rw[hr t hs];exact aH.mono' (.refl σ) (.refl S hv) (hn t) (h.regs t)
 ·cases hs:oF (S.o j) with
  |true=>cases hc:S.o j<;>rw[hc] at hs<;>simp[oF] at hs;trivial
  |false=>exact(h.objs j).mono (.refl σ) (.refl S hv) rfl (ho j hs) (fun k hk=>⟨hk,rfl⟩)
end
end Cx
namespace Cx
open Go Go.RowKit
structure Snap where
 rs:List Sh
 os:List Ob
 deriving Inhabited
def dw:List Nat→List Ob→Nat→Ob
 |i::is,o::os,j=>bif Nat.beq i j then o else dw is os j
 |_,_,_=>.dead
def cB:Sh→Sh
 |.opt _ _=>.none
 |s=>s
def Snap.st (ids:List Nat)(s:Snap):St:=⟨fun t=>cB (s.rs.getD t .none),fun j=>dw ids s.os j,fun _=>0⟩
def St.snap (n:Nat)(ids:List Nat)(S:St):Snap:=⟨(List.range n).map fun t=>ff S (S.r t),ids.map fun j=>iP S (S.o j)⟩
def Snap.beq (a b:Snap):Bool:=yb a.rs b.rs&&AR a.os b.os
theorem Snap.beq_eq (a b:Snap)(h:a.beq b=true):a=b:=by
 cases a;cases b;simp only[Snap.beq,ao] at h;rw[SP _ _ h.1,aaO _ _ h.2]
def Snap.meet (a b:Snap):Snap:=⟨List.zipWith jF a.rs b.rs,List.zipWith ns a.os b.os⟩
theorem au7 (s:Sh):∀gs s',cB s≠.opt gs s':=by
 intro gs s' e;cases s<;>simp[cB] at e
theorem Snap.noOpt (ids:List Nat)(s:Snap):∀t gs s',(s.st ids).r t≠.opt gs s':=fun t=>au7 _
section
variable {C:Ctx} {S:St} {ρ:Env} {σ:Im} {own:Nat→Option Nat} {hv:Nat→Value} {w0:World} {σ0:Base} {A:Nat→Prop} {a:Act} {w:World} {n:Nat} {ids:List Nat}
theorem xn (f:Nat→Ob)(P:Ob→Prop)(hd:P .dead)(j:Nat)(hf:P (f j)):∀ids:List Nat,P (dw ids (ids.map f) j)
 |[]=>hd
 |i::is=>by
  simp only[gk,dw];cases hb:Nat.beq i j
  ·exact xn f P hd j hf is
  ·rw[ay hb];exact hf
theorem LM {s:Sh}{v:Value}{d:D}(h:aH C S ρ σ hv s v d):aH C S ρ σ hv (cB s) v d:=by
 cases s<;>first|exact h|trivial
theorem Inv.snap (h:Inv C S ρ σ own hv w0 σ0 A a w)(n:Nat)(ids:List Nat):Inv C ((S.snap n ids).st ids) ρ σ own hv w0 σ0 (fun _=>False) a w:=by
 have h1:=h.norm;have hc:Compat S.norm hv ((S.snap n ids).st ids) hv:=⟨fun _=>bf _,fun _ _=>rfl⟩
 refine h1.weaken (fun t=>?_) (fun j=>?_) (Snap.noOpt _ _) (fun j hj=>⟨xn (fun j=>iP S (S.o j)) (fun ob=>ob=.tr→iP S (S.o j)=.tr) (fun e=>by cases e) j id ids hj,rfl⟩)
 ·refine aH.mono' (ρ:=ρ) (.refl σ) hc (Snap.noOpt _ _ t) ?_;show aH C S.norm ρ σ hv (cB (((List.range n).map fun t=>ff S (S.r t)).getD t .none)) _ _;refine LM ?_;rw[aJ,ct];by_cases ht:t<n
  ·rw[qK ht];exact h1.regs t
  ·rw[sn (by simpa using ht)];trivial
 ·have ho:=(h1.objs j).mono (.refl σ) hc (w:=w) (w':=w) rfl rfl (fun k hk=>⟨hk,rfl⟩);exact xn (fun j=>iP S (S.o j)) (fun ob=>cd C _ ρ σ own hv w w0.heap.size j ob) trivial j ho ids
theorem LQ {f:Sh→Sh→Sh}:∀(x y:List Sh) (t:Nat),(List.zipWith f x y).getD t .none=.none∨∃s u,x.getD t .none=s∧y.getD t .none=u∧(List.zipWith f x y).getD t .none=f s u
 |[],_,t=>.inl (by simp)
 |_::_,[],t=>.inl (by simp)
 |a::aa,b::bs,0=>.inr ⟨a,b,rfl,rfl,rfl⟩
 |a::aa,b::bs,t+1=>by simpa using LQ (f:=f) aa bs t
theorem JE {f:Ob→Ob→Ob}:∀(ids:List Nat) (x y:List Ob) (j:Nat),dw ids (List.zipWith f x y) j=.dead∨dw ids (List.zipWith f x y) j=f (dw ids x j) (dw ids y j)
 |[],_,_,_=>.inl rfl
 |_::_,[],_,_=>.inl rfl
 |_::_,_::_,[],_=>.inl rfl
 |i::is,a::aa,b::bs,j=>by
  simp only[List.zipWith_cons_cons,dw];cases Nat.beq i j
  ·exact JE is aa bs j
  ·exact .inr rfl
theorem au5 {s u:Sh}{v:Value}{d:D}(h:aH C S ρ σ hv (cB s) v d):aH C S ρ σ hv (cB (jF s u)) v d:=by
 cases hs:s with
 |opt gs s'=>cases u<;>simp[jF,cB,aH]
 |_=>rw[hs] at h;exact LM (aax h).1
theorem au6 {s u:Sh}{v:Value}{d:D}(h:aH C S ρ σ hv (cB u) v d):aH C S ρ σ hv (cB (jF s u)) v d:=by
 cases hs:u with
 |opt gs s'=>cases s<;>simp[jF,cB,aH]
 |_=>rw[hs] at h;exact LM (aay h).1
theorem aaz {x y:Snap}{j:Nat}(h:((x.meet y).st ids).o j=.tr):(x.st ids).o j=.tr∧(y.st ids).o j=.tr:=by
 change dw ids (List.zipWith ns x.os y.os) j=.tr at h;rcases JE (f:=ns) ids x.os y.os j with h0|h0
 ·rw[h0] at h;cases h
 ·rw[h0] at h;exact aph h
theorem Snap.meet_ok1 {x y:Snap}(h:Inv C (x.st ids) ρ σ own hv w0 σ0 A a w):Inv C ((x.meet y).st ids) ρ σ own hv w0 σ0 (fun _=>False) a w:=by
 have hc:Compat (x.st ids) hv ((x.meet y).st ids) hv:=⟨fun _=>bf _,fun _ _=>rfl⟩
 refine h.weaken (fun t=>?_) (fun j=>?_) (Snap.noOpt _ _) (fun j hj=>⟨(aaz hj).1,rfl⟩)
 ·refine aH.mono' (ρ:=ρ) (.refl σ) hc (Snap.noOpt _ _ t) ?_;show aH C (x.st ids) ρ σ hv (cB ((List.zipWith jF x.rs y.rs).getD t .none)) _ _;rcases LQ (f:=jF) x.rs y.rs t with h0|⟨s,u,h1,h2,h3⟩
  ·rw[h0];trivial
  ·rw[h3];exact au5 (by rw[←h1];exact h.regs t)
 ·refine cd.mono (S:=x.st ids) (ρ:=ρ) (own:=own) (hv:=hv) (.refl σ) hc (w:=w) rfl rfl (fun k hk=>⟨hk,rfl⟩) ?_;show cd C _ ρ σ own hv w w0.heap.size j (dw ids (List.zipWith ns x.os y.os) j);rcases JE (f:=ns) ids x.os y.os j with h0|h0
  ·rw[h0];trivial
  ·rw[h0];exact apf (h.objs j)
theorem Snap.meet_ok2 {x y:Snap}(h:Inv C (y.st ids) ρ σ own hv w0 σ0 A a w):Inv C ((x.meet y).st ids) ρ σ own hv w0 σ0 (fun _=>False) a w:=by
 have hc:Compat (y.st ids) hv ((x.meet y).st ids) hv:=⟨fun _=>bf _,fun _ _=>rfl⟩
 refine h.weaken (fun t=>?_) (fun j=>?_) (Snap.noOpt _ _) (fun j hj=>⟨(aaz hj).2,rfl⟩)
 ·refine aH.mono' (ρ:=ρ) (.refl σ) hc (Snap.noOpt _ _ t) ?_;show aH C (y.st ids) ρ σ hv (cB ((List.zipWith jF x.rs y.rs).getD t .none)) _ _;rcases LQ (f:=jF) x.rs y.rs t with h0|⟨s,u,h1,h2,h3⟩
  ·rw[h0];trivial
  ·rw[h3];exact au6 (by rw[←h2];exact h.regs t)
 ·refine cd.mono (S:=y.st ids) (ρ:=ρ) (own:=own) (hv:=hv) (.refl σ) hc (w:=w) rfl rfl (fun k hk=>⟨hk,rfl⟩) ?_;show cd C _ ρ σ own hv w w0.heap.size j (dw ids (List.zipWith ns x.os y.os) j);rcases JE (f:=ns) ids x.os y.os j with h0|h0
  ·rw[h0];trivial
  ·rw[h0];exact apg (h.objs j)
end
end Cx
namespace Cx
open Go Go.RowKit
def uV (C:Ctx)(S:St)(T:TypeId)(x:Operand):List Nat:=
 match fa S [] x,qj C.P T,C.P.info? T with
 |.ptr j _ off,some true,some inf=>(match S.o j with|.box _ shs=>CC ((shs.drop off).take inf.size)|_=>[])
 |_,_,_=>[]
def BF (C:Ctx)(S:St):ResultVar→Option (St×Ty×PE)
 |.tmp t=>(use C (S.fzs (bP S [] [.tmp t])) [] (.tmp t)).map fun x=>(S.fzs (bP S [] [.tmp t]),x.1,x.2)
 |.cell b T=>
  match tp C (S.fzs (uV C S T (.tmp b))) [] 0 T (.tmp b) with
  |some (.dat ty,[.setR 0 e])=>some (S.fzs (uV C S T (.tmp b)),ty,e)
  |some (.obj j ver,[.setR _ _])=>
   bif Nat.beq ver (((S.fzs (uV C S T (.tmp b))).fz j).ver j) then
    match((S.fzs (uV C S T (.tmp b))).fz j).o j with
    |.fz ty=>some ((S.fzs (uV C S T (.tmp b))).fz j,ty,.o j)
    |_=>none
   else none
  |_=>none
def tJ (C:Ctx):List ResultVar→St→Option (St×List Ty×List PE)
 |[],S=>some (S,[],[])
 |x::xs,S=>(BF C S x).bind fun r=>(tJ C xs r.1).map fun q=>(q.1,r.2.1::q.2.1,r.2.2::q.2.2)
def adO (C:Ctx)(fn:Func)(S:St)(res:Ty):Option PE:=
 (tJ C fn.results.toList S).bind fun r=>
    match r.2.1,r.2.2 with
    |[ty],[e]=>bif Ty.sub ty res then some e else none
    |fK,es=>bif Ty.sub (.tup fK) res then some (.tup es) else none
def adQ (C:Ctx)(fn:Func)(S:St)(T:TypeId)(e:Ty):Option PE:=
 match fn.results.toList with
 |[.tmp t]=>
  match kE S [] t with
  |.obj j ver=>bif Nat.beq ver (S.ver j) then(match S.o j with|.row U f=>bif Nat.beq U T&&Ty.beq f e then some (.o j) else none|_=>none) else none
  |_=>none
 |[.cell b U]=>
  match tp C S [] 0 U (.tmp b) with
  |some (.obj j ver,[.setR _ _])=>bif Nat.beq ver (S.ver j) then(match S.o j with|.row U f=>bif Nat.beq U T&&Ty.beq f e then some (.o j) else none|_=>none) else none
  |_=>none
 |_=>none
def Jy (S:St):Nat→List Sh→Bool
 |_,[]=>true
 |t,s::l=>tw s&&((nl s||isNone s||Sh.beq (S.r t) s)&&Jy S (t+1) l)
def PF (S:St)(shs:List Sh)(obs:List (Nat×Ob)):Bool:=Jy S 0 shs&&obs.all fun x=>Ob.beq (S.o x.1) x.2
def SD (fK:List Ty)(es:List PE)(res:Ty):Option PE:=
 match fK,es with
 |[ty],[e]=>bif Ty.sub ty res then some e else none
 |fK,es=>bif Ty.sub (.tup fK) res then some (.tup es) else none
def adP (C:Ctx)(fn:Func)(S:St)(res:Ty)(shs:List Sh)(obs:List (Nat×Ob)):Option PE:=
 (tJ C fn.results.toList S).bind fun r=>bif PF r.1 shs obs then(SD r.2.1 r.2.2 res).map fun e=>.tup (e::obs.map fun x=>.o x.1) else none
def lW (S:St):List AgC→List RC→Bool
 |[],[]=>true
 |.dat t::a,.dat u::l=>Ty.sub t u&&t.one&&lW S a l
 |.obj j ver::a,.row T e::l=>Nat.beq ver (S.ver j)&&(match S.o j with|.row U f=>Nat.beq U T&&Ty.beq f e|_=>false)&&lW S a l
 |_,_=>false
def nT:List AgC→List Nat
 |[]=>[]
 |.dat _::l=>nT l
 |.obj j _::l=>j::nT l
def ma (x:PE):List AgC→Nat→List PE
 |[],_=>[]
 |.dat _::l,i=>.cell x i::ma x l (i+1)
 |.obj j _::l,i=>.o j::ma x l (i+1)
def adS (C:Ctx)(fn:Func)(S:St)(l:List RC):Option PE:=
 match fn.results.toList with
 |[.tmp t]=>
  match kE S [] t with
  |.agg a=>bif lW S a l&&gM (nT a) then some (.mk (ma (.r t) a 0)) else none
  |_=>none
 |[.cell b U]=>
  match tp C S [] 0 U (.tmp b) with
  |some (.agg a,[.setR t0 e])=>bif (lW S a l&&gM (nT a))&&Nat.beq t0 0 then some (.mk (ma e a 0)) else none
  |_=>none
 |_=>none
def rG:List AgC→Nat→Option Nat
 |[],_=>none
 |.dat _::l,j=>(rG l j).map (·+1)
 |.obj i _::l,j=>bif Nat.beq i j then some 0 else(rG l j).map (·+1)
def xZ (C:Ctx)(fn:Func)(s:Sig)(S:St):Option PE:=
 match s.mode with
 |.ob shs obs=>adP C fn S s.res shs obs
 |.dat=>adO C fn S s.res
 |.rows l=>adS C fn S l
 |.it J=>match fn.results.toList,S.o J with|[],.tr=>some (.o J)|_,_=>none
 |.row T e=>adQ C fn S T e
def La (P:Program)(tmps:Array Value)(w:World):ResultVar→Value→Prop
 |.tmp t,v=>v=tmps.getD t undef
 |.cell a T,v=>∃k,tmps.getD a undef=.pointer (some k)∧(loadVar T k).run P w=.ok v w
def Lb (P:Program)(tmps:Array Value)(w:World):List ResultVar→List Value→Prop
 |[],[]=>True
 |x::xs,v::vs=>La P tmps w x v∧Lb P tmps w xs vs
 |_,_=>False
def u7:List Value→Value
 |[v]=>v
 |vs=>.tuple vs.toArray
section
variable {C:Ctx} {S:St} {ρ:Env} {σ:Im} {own:Nat→Option Nat} {hv:Nat→Value} {w0:World} {σ0:Base} {A:Nat→Prop} {a:Act} {w:World} {gs:List (Nat×Bool)} {Φ:aL} {dst:Nat}
theorem aai {P:Program}{tmps:Array Value}{w:World}(f:ResultVar→Sem Value)(Yp:∀t,f (.tmp t)=pure (tmps.getD t undef))(Yq:∀b T,f (.cell b T)=(do loadVar T (←asAddr (tmps.getD b undef)))):
 ∀(l:List ResultVar) (vs:List Value),Lb P tmps w l vs→(l.mapM f).run P w=.ok vs w
 |[],[],_=>by simp[Sem.run_pure]
 |x::l,v::vs,h=>by
  obtain⟨hx,Pt⟩:=h;have ih:=aai f Yp Yq l vs Pt;rw[VV];have h1:(f x).run P w=.ok v w:=by
   cases x with
   |tmp t=>rw[Yp];simp only[La] at hx;subst hx;simp[Sem.run_pure]
   |cell b T=>
    obtain⟨k,h1,h2⟩:=hx;rw[Yq,h1];simp[asAddr,h2]
  simp[Sem.run_bind,h1,ih,Sem.run_pure,Result.andThen_ok]
theorem xY {P:Program}{fn:Func}{tmps:Array Value}{w:World}{vs:List Value}(h:Lb P tmps w fn.results.toList vs):
 (results fn tmps).run P w=.ok (u7 vs) w:=by
 unfold results;rw[Array.mapM_eq_mapM_toList];simp only[Sem.run_bind];simp only[bind_map_left,map_eq_pure_bind,Sem.run_bind,bind_assoc,pure_bind];rw[aai (tmps:=tmps) _ (fun t=>rfl) (fun b T=>rfl) _ _ h];simp only[Result.andThen_ok,Sem.run_pure];rcases vs with _|⟨v,_|⟨u,vs⟩⟩<;>simp[Sem.run_pure,u7]
theorem JB {o:Oper}{T:TypeId}{b:Nat}{v:Value}(ho:o.op=.load T (.tmp b))(hx:(execOp a.eval o).run C.P w=.ok (.value v) w):La C.P a.tmps w (.cell b T) v:=by
 have he:a.eval (.tmp b)=a.tmps.getD b undef:=by simp[Act.eval]
 simp only[execOp,ho,Instr.loadAt,he] at hx;cases hp:a.tmps.getD b undef with
 |pointer p=>
  cases p with
  |none=>rw[hp] at hx;simp[Instr.sureAddr] at hx
  |some k=>
   rw[hp] at hx;refine⟨k,hp,?_⟩;simp[Instr.sureAddr] at hx;cases hr:(loadVar T k).run C.P w with
   |ok u w'=>rw[hr] at hx;simp at hx;rw[hx.1,hx.2]
   |halt u w'=>rw[hr] at hx;simp at hx
 |_=>rw[hp] at hx;simp[Instr.sureAddr] at hx
theorem arT (h:Inv C S ρ σ own hv w0 σ0 A a w)(hC:CtxOK C σ0){x:ResultVar}{r:St×Ty×PE}(hr:BF C S x=some r):
 ∃σ' own' v,σ.le σ'∧Inv C r.1 ρ σ' own' hv w0 σ0 A a w∧La C.P a.tmps w x v∧Rep C.cap σ' r.2.1 v (r.2.2.ev ρ):=by
 cases x with
 |tmp t=>
  simp only[BF,az] at hr;obtain⟨y,hy,rfl⟩:=hr;obtain⟨σ1,dq,hle,h1⟩:=Inv.fzs (bP S [] [.tmp t]) h;refine⟨σ1,dq,a.tmps.getD t undef,hle,h1,rfl,?_⟩;have:=cr (gs:=[]) h1 hC rfl hy;simpa [Act.eval] using this
 |cell b T=>
  simp only[BF] at hr;obtain⟨σ1,dq,hle,h1⟩:=Inv.fzs (uV C S T (.tmp b)) h;generalize X6:S.fzs (uV C S T (.tmp b))=S1 at hr h1
  let o:Oper:={(default:Oper) with op:=.load T (.tmp b)}
  split at hr
  ·rename_i ty e hl;cases hr;have hq:=ER (Φ:=fun _ _=>none) (dst:=0) (gs:=[]) h1 hC rfl hl (o:=o) rfl;obtain⟨v,d,e1,e2,e3,e4⟩:=hq _ rfl;have hd:d=e.ev ρ:=by
        have:=congrArg (fun x:Env=>x.r 0) e1;simpa [Env.setR,aK] using this.symm
   subst hd;exact⟨σ1,dq,v,hle,h1,JB rfl e2,e3⟩
  ·rename_i j ver t0 e0 hl;have hq:=ER (Φ:=fun _ _=>none) (dst:=0) (gs:=[]) h1 hC rfl hl (o:=o) rfl;obtain⟨v,d,e1,e2,e3,e4⟩:=hq _ rfl;cases hb:Nat.beq ver ((S1.fz j).ver j)<;>simp only[hb,cond_true,cond_false] at hr
   ·cases hr
   split at hr
   case h_2=>cases hr
   rename_i ty bh;cases hr;obtain⟨σ2,jk,jT,h2⟩:=h1.fz j;refine⟨σ2,jk,v,hle.trans jT,h2,JB rfl e2,?_⟩;have ho:=h2.objs j;rw[bh] at ho;have dz:ver=S1.ver j:=by rw[ay hb,(It S1 j).1]
   rw[e3.2 dz];exact ho.2
  ·cases hr
theorem SC (hC:CtxOK C σ0):∀(l:List ResultVar) {S:St} {σ:Im} {own:Nat→Option Nat} {r:St×List Ty×List PE},Inv C S ρ σ own hv w0 σ0 A a w→tJ C l S=some r→
 ∃σ' own' vs,σ.le σ'∧Inv C r.1 ρ σ' own' hv w0 σ0 A a w∧Lb C.P a.tmps w l vs∧vs.length=r.2.1.length∧r.2.2.length=r.2.1.length∧
  ∀(i:Nat) (t:Ty),r.2.1[i]?=some t→Rep C.cap σ' t (vs.getD i undef) ((PE.evs ρ r.2.2).getD i .none)
 |[],S,σ,own,r,h,hr=>by
  simp only[tJ,aS] at hr;subst hr;exact⟨σ,own,[],.refl σ,h,trivial,rfl,rfl,fun i t e=>by simp at e⟩
 |x::l,S,σ,own,r,h,hr=>by
  simp only[tJ,aq,az] at hr;obtain⟨r1,h1,q,h2,rfl⟩:=hr;obtain⟨σ1,dq,v,hle,i1,hx,bL⟩:=arT h hC h1;obtain⟨σ2,jk,vs,jT,i2,Pt,m9,sU,ni⟩:=SC hC l i1 h2;refine⟨σ2,jk,v::vs,hle.trans jT,i2,⟨hx,Pt⟩,by simp[m9],by simp[sU],fun i t e=>?_⟩;cases i with
  |zero=>simp at e;subst e;simpa [PE.evs] using bL.mono jT
  |succ i=>simp at e;simpa [PE.evs] using ni i t e
def GQ (C:Ctx)(s:Sig)(σ:Im)(own:Nat→Option Nat)(w0 w:World)(tmps:Array Value)(d:D)(v:Value):Prop:=
 ∀shs obs,s.mode=.ob shs obs→∃hv dr os,d=.tup (dr::os)∧os.length=obs.length∧(∀k j,own k=some j→w0.heap.size≤k∧k<w.heap.size∧(∀o,σ.c k o=none)∧σ.m k=none)∧
  (∀(t:Nat) (sh:Sh),shs[t]?=some sh→nl sh=false→∀d,aH C (fY shs obs) (mE obs [] os) σ hv sh (tmps.getD t undef) d)∧(∀j,cd C (fY shs obs) (mE obs [] os) σ own hv w w0.heap.size j (eD obs j))∧Rep C.cap σ s.res v dr
theorem GQ.no {C:Ctx}{s:Sig}{σ:Im}{own:Nat→Option Nat}{w0 w:World}{tmps:Array Value}{d:D}{v:Value}(h:oG s.mode=false):GQ C s σ own w0 w tmps d v:=fun shs obs e=>by rw[e] at h;cases h
def Ma (C:Ctx)(w0:World)(σ0:Base)(fn:Func)(s:Sig)(d:D)(a:Act)(w:World):Prop:=
 ∃v σ,(∃own t fx cx,FrOK σ own w0.heap.size σ0 w t fx cx∧(∀J,s.mode=.it J→d=t)∧GQ C s σ own w0 w a.tmps d v)∧(results fn a.tmps).run C.P w=.ok v w∧σ0.le σ∧σ.ok w∧Below σ0.B w0 w∧
  (∀k o x,σ.c k o=some x→σ0.c k o=some x∨w0.heap.size≤k)∧(∀k x,σ.m k=some x→σ0.m k=some x∨w0.heap.size≤k)∧l8 C s σ w0 w v d
theorem Inv.fr (h:Inv C S ρ σ own hv w0 σ0 A a w){s:Sig}{d:D}{v:Value}(hm:∀J,s.mode≠.it J)(ho:oG s.mode=false):∃own t fx cx,FrOK σ own w0.heap.size σ0 w t fx cx∧(∀J,s.mode=.it J→d=t)∧GQ C s σ own w0 w a.tmps d v:=by
 obtain⟨t,fx,cx,h1,_⟩:=h.frame;exact⟨own,t,fx,cx,h1,fun J e=>absurd e (hm J),.no ho⟩
theorem arS {cap:Nat→Option CSig}{fK:List Ty}{es:List PE}{res:Ty}{pe:PE}{vs:List Value}(hr:SD fK es res=some pe)(m9:vs.length=fK.length)(sU:es.length=fK.length)
 (ni:∀(i:Nat) (t:Ty),fK[i]?=some t→Rep cap σ t (vs.getD i undef) ((PE.evs ρ es).getD i .none)):Rep cap σ res (u7 vs) (pe.ev ρ):=by
 have many:fK.length≠1→(bif Ty.sub (.tup fK) res then some (PE.tup es) else none)=some pe→Rep cap σ res (u7 vs) (pe.ev ρ):=by
  intro aw hr;cases hb:Ty.sub (.tup fK) res<;>simp only[hb,cond_true,cond_false] at hr
  ·cases hr
  cases hr;have cn:u7 vs=Value.tuple vs.toArray:=by
   match vs,m9 with
   |[],_=>rfl
   |[v],hl=>exact absurd hl.symm aw
   |_::_::_,_=>rfl
  rw[cn];exact Rep.sub (Rep.tup _ _ _ (by rw[m9]) (by rw[PE.evs_eq,eN,sU]) ni) hb
 match fK,es,vs,m9,sU,ni,many,hr with
 |[ty],[e],[v],_,_,ni,_,hr=>
  simp only[SD] at hr;cases hb:Ty.sub ty res<;>simp only[hb,cond_true,cond_false] at hr
  ·cases hr
  cases hr;have:=ni 0 ty rfl;exact Rep.sub (by simpa [PE.evs,u7] using this) hb
 |[],[],_,_,_,_,many,hr=>exact many (by simp) hr
 |_::_::_,_::_::_,_,_,_,_,many,hr=>exact many (by simp) hr
theorem ZV:∀{l:List Sh} {k:Nat},Jy S k l=true→∀(t:Nat) (s:Sh),l[t]?=some s→nl s=false→tw s=true∧(s=.none∨S.r (k+t)=s)
 |[],k,_,t,s,h,_=>by simp at h
 |x::l,k,hk,t,s,h,hd=>by
  simp only[Jy,ao,gg] at hk;cases t with
  |zero=>
   simp at h;subst h;refine⟨hk.1,?_⟩;rcases hk.2.1 with(h1|h1)|h1
   ·rw[hd] at h1;cases h1
   ·left;cases x<;>first|rfl|cases h1
   ·exact .inr (Sh.beq_eq _ _ h1)
  |succ t=>
   simp at h;have:=ZV hk.2.2 t s h hd
   rwa [ua,B9 1 t] at this
theorem Z7:∀{obs:List (Nat×Ob)},(obs.all fun x=>Ob.beq (S.o x.1) x.2)=true→∀j,eD obs j=.dead∨(S.o j=eD obs j∧nr obs (obs.map fun x=>ρ.o x.1) j=ρ.o j)
 |[],_,j=>.inl rfl
 |x::obs,h,j=>by
  simp only[qJ,ao] at h;simp only[eD,gk,nr];cases hb:Nat.beq x.1 j<;>simp only[cond_true,cond_false]
  ·exact Z7 h.2 j
  ·rw[←ay hb];exact .inr ⟨Ob.beq_eq _ _ h.1,rfl⟩
theorem au3 {ty:Ty}{fK:List Ty}{es:List PE}(h:∀ty e,fK=[ty]→es=[e]→False)(hl:es.length=fK.length):fK.length≠1:=by
 intro h1
 match fK,es with
 |[ty],[e]=>exact h ty e rfl rfl
 |[],_=>simp at h1
 |_::_::_,_=>simp at h1
 |[_],[]=>simp at hl
 |[_],_::_::_=>simp at hl
theorem adR (h:Inv C S ρ σ own hv w0 σ0 A a w){T:TypeId}{e:Ty}{j ver:Nat}{v:Value}{d:D}(hc:aH C S ρ σ hv (.obj j ver) v d){pe:PE}
 (hr:(bif Nat.beq ver (S.ver j) then(match S.o j with|.row U f=>bif Nat.beq U T&&Ty.beq f e then some (PE.o j) else none|_=>none) else none)=some pe):
 ∃cells xs,pe.ev ρ=.list xs∧w.ownsRow w0.heap.size T e.size v xs.length cells∧eF C.cap σ e cells xs∧∀k,v.ownBlock=some k→(∀o,σ.c k o=none)∧σ.m k=none:=by
 cases hb:Nat.beq ver (S.ver j)<;>simp only[hb,cond_true,cond_false] at hr
 ·cases hr
 split at hr
 case h_2=>cases hr
 rename_i U f ho;cases cf:Nat.beq U T&&Ty.beq f e<;>simp only[cf,cond_true,cond_false] at hr
 ·cases hr
 cases hr;simp only[ao] at cf;have hU:=ay cf.1;have hf:=Ty.beq_eq _ _ cf.2;subst hU hf;have hj:=h.objs j;rw[ho] at hj;obtain⟨cells,xs,h1,h2,h3,h4⟩:=hj;have hv':=hc.2 (ay hb);subst hv';exact⟨cells,xs,h1,h2,h3,fun k hk=>(h.owns k j (h4 k hk)).2.2⟩
theorem adN:∀(l:List ResultVar) {S:St} {r:St×List Ty×List PE},tJ C l S=some r→r.1.ver=S.ver
 |[],S,r,h=>by simp only[tJ,aS] at h;subst h;rfl
 |x::l,S,r,h=>by
  simp only[tJ,aq,az] at h;obtain⟨r1,h1,q,h2,rfl⟩:=h;rw[adN l h2];cases x with
  |tmp t=>
   simp only[BF,az] at h1;obtain⟨y,_,rfl⟩:=h1;exact(oc _ _).1
  |cell b T=>
   simp only[BF] at h1;split at h1
   ·cases h1;exact(oc _ _).1
   ·rename_i j ver t0 e0 _;cases hb:Nat.beq ver (((S.fzs (uV C S T (.tmp b))).fz j).ver j)<;>simp only[hb,cond_true,cond_false] at h1
    ·cases h1
    ·split at h1
     ·cases h1;rw[(It _ _).1];exact(oc _ _).1
     ·cases h1
   ·cases h1
theorem QZ:∀{a:List AgC} {i j ver:Nat},(nT a).Nodup→a[i]?=some (.obj j ver)→rG a j=some i
 |[],i,j,ver,_,h=>by simp at h
 |.dat t::a,i,j,ver,hn,h=>by
  cases i with
  |zero=>simp at h
  |succ i=>simp at h;simp only[rG];rw[QZ (a:=a) hn h];rfl
 |.obj k u::a,i,j,ver,hn,h=>by
  simp only[nT,mU] at hn;cases i with
  |zero=>simp at h;obtain⟨rfl,_⟩:=h;simp only[rG,gR];rfl
  |succ i=>
   simp at h;have hm:∀{a:List AgC} {i:Nat},a[i]?=some (.obj j ver)→j∈nT a:=by
        intro a
        induction a with
        |nil=>intro i h;simp at h
        |cons x a ih=>
         intro i h;cases i with
         |zero=>simp at h;subst h;simp[nT]
         |succ i=>simp at h;have:=ih h;cases x<;>simp[nT,this]
   have aw:k≠j:=fun e=>hn.1 (e▸hm h);simp only[rG];rw[eH aw,cond_false,QZ hn.2 h];rfl
theorem RB (h:Inv C S ρ σ own hv w0 σ0 A a w){x0:PE}{vs:List Value}{ds:List D}(hd:x0.ev ρ=.agg ds)(ow:Nat→Option Nat):∀(a:List AgC) (l:List RC) (i:Nat),lW S a l=true→(∀(n:Nat) (c:AgC),a[n]?=some c→mS C S σ hv c (vs.getD (i+n) undef) (ds.getD (i+n) .none))→
 (∀(n j ver k:Nat),a[n]?=some (.obj j ver)→own k=some j→ow k=some (i+n))→
 a.length=l.length∧(PE.evc ρ (ma x0 a i)).length=l.length∧∀(n:Nat) (c:RC),l[n]?=some c→V0 C σ w0.heap.size w ow (i+n) c (vs.getD (i+n) undef) ((PE.evc ρ (ma x0 a i)).getD n .none)
 |[],[],i,_,_,_=>⟨rfl,rfl,fun n c hc=>by simp at hc⟩
 |[],_::_,i,hf,_,_=>by simp[lW] at hf
 |x::a,l,i,hf,IJ,qd=>by
  have e:∀n,i+1+n=i+(n+1):=fun n=>by omega
  have DD:∀(n:Nat) (c:AgC),a[n]?=some c→mS C S σ hv c (vs.getD (i+1+n) undef) (ds.getD (i+1+n) .none):=fun n c hc=>by rw[e];exact IJ (n+1) c (by simpa using hc)
  have YY:∀(n j ver k:Nat),a[n]?=some (.obj j ver)→own k=some j→ow k=some (i+1+n):=fun n j ver k hc hk=>by rw[e];exact qd (n+1) j ver k (by simpa using hc) hk
  have h0:=IJ 0 x rfl;rw[iW] at h0;cases x with
  |dat ty=>
   cases l with
   |nil=>simp[lW] at hf
   |cons y l=>
    cases y with
    |row T e=>simp[lW] at hf
    |dat u=>
     simp only[lW,ao] at hf;obtain⟨g1,g2,g3⟩:=RB h hd ow a l (i+1) hf.2 DD YY;have e1:PE.evc ρ (ma x0 (.dat ty::a) i)=ds.getD i .none::PE.evc ρ (ma x0 a (i+1)):=by
       simp only[ma,PE.evc,PE.ev,hd,D.c];have:=h0.2.dcells h0.1;simp only[D.cells] at this ⊢;rw[this];rfl
     rw[e1];refine⟨by simp[g1],by simp[g2],fun n c hc=>?_⟩;cases n with
     |zero=>simp at hc;subst hc;exact⟨by rw[←(Ty.sub_one _ _ hf.1.1).1];exact h0.1,h0.2.sub hf.1.1⟩
     |succ n=>simp at hc;have:=g3 n c hc;rw[e] at this;simpa using this
  |obj j ver=>
   cases l with
   |nil=>simp[lW] at hf
   |cons y l=>
    cases y with
    |dat u=>simp[lW] at hf
    |row T ty=>
     simp only[lW,ao] at hf;obtain⟨⟨f1,f2⟩,f3⟩:=hf;obtain⟨g1,g2,g3⟩:=RB h hd ow a l (i+1) f3 DD YY;have aX:=h.objs j;split at f2
     case h_2=>cases f2
     rename_i U f eo;rw[eo] at aX;simp only[ao] at f2;have q1:=ay f2.1;have q2:=Ty.beq_eq _ _ f2.2;subst q1 q2;obtain⟨cells,xs,k1,k2,k3,k4⟩:=aX;have sY:=h0.2 (ay f1);have e1:PE.evc ρ (ma x0 (.obj j ver::a) i)=.list xs::PE.evc ρ (ma x0 a (i+1)):=by
         simp only[ma,PE.evc,PE.ev,k1,D.cells];rfl
     rw[e1];refine⟨by simp[g1],by simp[g2],fun n c hc=>?_⟩;cases n with
     |zero=>
      simp at hc;subst hc;rw[iW,sY];exact⟨cells,xs,rfl,k2,k3,fun k hk=>by have:=qd 0 j ver k rfl (k4 k hk);rwa [iW] at this⟩
     |succ n=>simp at hc;have:=g3 n c hc;rw[e] at this;simpa using this
theorem arU (h:Inv C S ρ σ own hv w0 σ0 A a w)(hC:CtxOK C σ0)(dz:∀j,S.ver j=0){fn:Func}{s:Sig}{pe:PE}(hr:xZ C fn s S=some pe):Ma C w0 σ0 fn s (pe.ev ρ) a w:=by
 unfold xZ at hr;split at hr
 ·rename_i shs obs hm;simp only[adP,aq] at hr;obtain⟨r,aO,hr⟩:=hr;obtain⟨σ1,dq,vs,hle,h1,wX,m9,sU,ni⟩:=SC hC _ h aO;cases hb:PF r.1 shs obs<;>simp only[hb,cond_true,cond_false] at hr
  ·cases hr
  simp only[az] at hr;obtain⟨e,he,rfl⟩:=hr;simp only[PF,ao] at hb;have bL:=arS he m9 sU ni;obtain⟨t,fx,cx,hf,_⟩:=h1.frame;have rf:Compat r.1 hv (fY shs obs) hv:=⟨fun j=>by rw[adN _ aO,dz];exact pA _,fun _ _=>rfl⟩
  have OS:(PE.evs ρ (e::obs.map fun x=>.o x.1))=e.ev ρ::obs.map (fun x=>ρ.o x.1):=by simp[PE.evs_eq,GF,PE.ev]
  refine⟨_,σ1,⟨dq,t,fx,cx,hf,(fun J e=>by rw[hm] at e;cases e),fun SO aA8 e'=>?_⟩,xY wX,h1.le,h1.ok,h1.below,h1.newc,h1.newm,by unfold l8;rw[hm];trivial⟩;rw[hm] at e';cases e';refine⟨hv,e.ev ρ,obs.map fun x=>ρ.o x.1,by simp only[PE.ev];rw[OS],by simp,h1.owns,fun t sh hs hd d=>?_,fun j=>?_,bL⟩
  ·obtain⟨fC,e1⟩:=ZV hb.1 t sh hs hd;rcases e1 with e1|e1
   ·subst e1;trivial
   ·rw[gS] at e1;have:=h1.regs t;rw[e1] at this;have eI:∀gs s',sh≠.opt gs s':=fun gs s' e=>by subst e;cases fC
    have:=aH.mono' (S':=fY shs obs) (ρ':=mE obs [] (obs.map fun x=>ρ.o x.1)) (.refl σ1) rf eI this;cases sh with
    |dat t=>cases hd
    |opt gs s=>cases fC
    |eptr j v o q=>cases fC
    |agg l=>cases fC
    |_=>exact this
  ·rcases Z7 (ρ:=ρ) hb.2 j with e1|⟨e1,e2⟩
   ·rw[e1];trivial
   ·rw[←e1];exact(h1.objs j).mono (.refl σ1) rf rfl e2 (fun k hk=>⟨hk,rfl⟩)
 ·rename_i hm;simp only[adO,aq] at hr;obtain⟨r,aO,hr⟩:=hr;obtain⟨σ1,dq,vs,hle,h1,wX,m9,sU,ni⟩:=SC hC _ h aO;refine⟨_,σ1,h1.fr (fun J e=>by rw[hm] at e;cases e) (by rw[hm];rfl),xY wX,h.le.trans hle,h1.ok,h1.below,h1.newc,h1.newm,?_⟩;unfold l8;rw[hm];simp only;split at hr
  ·rename_i ty e e1 e2;rw[e1] at m9 ni;rw[e2] at ni;cases hb:Ty.sub ty s.res<;>simp only[hb,cond_true,cond_false] at hr
   ·cases hr
   cases hr;obtain⟨v,rfl⟩:∃v,vs=[v]:=by
        match vs,m9 with
        |[v],_=>exact⟨v,rfl⟩
   have:=ni 0 ty rfl;exact Rep.sub (by simpa [PE.evs,u7] using this) hb
  ·rename_i aw;cases hb:Ty.sub (.tup r.2.1) s.res<;>simp only[hb,cond_true,cond_false] at hr
   ·cases hr
   cases hr;have YS:=au3 (ty:=.bool) aw sU;have cn:u7 vs=Value.tuple vs.toArray:=by
        match vs,m9 with
        |[],_=>rfl
        |[v],hl=>rw[←hl] at YS;exact absurd rfl YS
        |_::_::_,_=>rfl
   rw[cn];refine Rep.sub (Rep.tup _ _ _ (by rw[m9]) (by rw[PE.evs_eq,eN,sU]) ni) hb
 ·rename_i l hm;have key:∃(v:Value) (x0:PE) (vs:List Value) (ds:List D) (ag:List AgC),(results fn a.tmps).run C.P w=.ok v w∧pe=.mk (ma x0 ag 0)∧x0.ev ρ=.agg ds∧v=.agg vs.toArray∧lW S ag l=true∧gM (nT ag)=true∧
        vs.length=ag.length∧ds.length=ag.length∧∀(i:Nat) (c:AgC),ag[i]?=some c→mS C S σ hv c (vs.getD i undef) (ds.getD i .none):=by
   unfold adS at hr;split at hr
   ·rename_i t dG;split at hr
    case h_2=>cases hr
    rename_i ag fV;cases hb:(lW S ag l&&gM (nT ag))<;>simp only[hb,cond_true,cond_false] at hr
    ·cases hr
    cases hr;simp only[ao] at hb;have gu:=(mK (gs:=[]) h rfl t).1;rw[fV] at gu;obtain⟨vs,ds,e1,e2,e3,e4,e5⟩:=gu;exact⟨_,.r t,vs,ds,ag,xY (vs:=[a.tmps.getD t undef]) (by rw[dG];exact⟨rfl,trivial⟩),rfl,e2,e1,hb.1,hb.2,e3,e4,e5⟩
   ·rename_i b U dG;split at hr
    case h_2=>cases hr
    rename_i ag t0 x0 hl;cases hb:((lW S ag l&&gM (nT ag))&&Nat.beq t0 0)<;>simp only[hb,cond_true,cond_false] at hr
    ·cases hr
    cases hr;simp only[ao] at hb;obtain⟨hb,Pa⟩:=hb;obtain rfl:=ay Pa;have hq:=ER (Φ:=fun _ _=>none) (dst:=0) (gs:=[]) h hC rfl hl (o:={(default:Oper) with op:=.load U (.tmp b)}) rfl;obtain⟨v,d,q1,q2,q3,_⟩:=hq _ rfl;obtain⟨vs,ds,e1,e2,e3,e4,e5⟩:=q3;have hd:x0.ev ρ=d:=by
     have:=congrArg (fun e:Env=>e.r 0) q1;simpa [Env.setR,bT] using this
    exact⟨_,x0,vs,ds,ag,xY (vs:=[v]) (by rw[dG];exact⟨JB rfl q2,trivial⟩),rfl,by rw[hd,e2],e1,hb.1,hb.2,e3,e4,e5⟩
   ·cases hr
  obtain⟨v,x0,vs,ds,ag,ah,rfl,e2,e1,b1,b2,e3,e4,e5⟩:=key
  obtain⟨g1,g2,g3⟩:=RB h (x0:=x0) (vs:=vs) (ds:=ds) e2 (fun k=>(own k).bind (rG ag)) ag l 0 b1 (fun n c hc=>by rw[gS];exact e5 n c hc) (fun n j ver k hc hk=>by
   show(own k).bind (rG ag)=some (0+n);rw[hk,j8,QZ (lL b2) hc,gS])
  simp only[gS] at g3;refine⟨_,σ,h.fr (fun J e=>by rw[hm] at e;cases e) (by rw[hm];rfl),ah,h.le,h.ok,h.below,h.newc,h.newm,?_⟩;unfold l8;rw[hm];refine⟨vs,PE.evc ρ (ma x0 ag 0),fun k=>(own k).bind (rG ag),e1,by simp only[PE.ev],by omega,g2,g3,fun k i hk=>?_⟩;cases ho:own k with
  |none=>
   have hk:(own k).bind (rG ag)=some i:=hk;rw[ho] at hk;cases hk
  |some j=>exact h.owns k j ho
 ·rename_i J hm;split at hr
  case h_2=>cases hr
  rename_i dG hJ;cases hr;obtain⟨t,fx,cx,h1,h2⟩:=h.frame;refine⟨_,σ,⟨own,t,fx,cx,h1,fun J' e=>?_,.no (by rw[hm];rfl)⟩,xY (vs:=[]) (by rw[dG];trivial),h.le,h.ok,h.below,h.newc,h.newm,by unfold l8;rw[hm];trivial⟩;exact(h2 J hJ).2
 ·rename_i T e hm;have key:∃v,(results fn a.tmps).run C.P w=.ok v w∧∃cells xs,pe.ev ρ=.list xs∧w.ownsRow w0.heap.size T e.size v xs.length cells∧eF C.cap σ e cells xs∧∀k,v.ownBlock=some k→(∀o,σ.c k o=none)∧σ.m k=none:=by
   unfold adQ at hr;split at hr
   ·rename_i t ht;split at hr
    case h_2=>cases hr
    rename_i j ver hs;have hc:=(mK (gs:=[]) h rfl t).1;rw[hs] at hc;exact⟨_,xY (vs:=[a.tmps.getD t undef]) (by rw[ht];exact⟨rfl,trivial⟩),adR h hc hr⟩
   ·rename_i b U hb;split at hr
    case h_2=>cases hr
    rename_i j ver t0 e0 hl;have hq:=ER (Φ:=fun _ _=>none) (dst:=0) (gs:=[]) h hC rfl hl (o:={(default:Oper) with op:=.load U (.tmp b)}) rfl;obtain⟨v,d,e1,e2,e3,e4⟩:=hq _ rfl;exact⟨_,xY (vs:=[v]) (by rw[hb];exact⟨JB rfl e2,trivial⟩),adR h e3 hr⟩
   ·cases hr
  obtain⟨v,h1,h2⟩:=key;refine⟨v,σ,h.fr (fun J e=>by rw[hm] at e;cases e) (by rw[hm];rfl),h1,h.le,h.ok,h.below,h.newc,h.newm,?_⟩;unfold l8;rw[hm];exact h2
theorem kJ.drop {σ:Im}{B D:Nat}:∀{ds:List Deferred},({target:=.collected D,args:=#[]}:Deferred)∉ds→kJ σ B ds→kJ (σ.drop D) B ds
 |[],_,_=>trivial
 |x::ds,hn,⟨⟨D',h1,h2,h3⟩,h⟩=>by
  simp only[cT,not_or] at hn;refine⟨⟨D',h1,?_,h3⟩,kJ.drop hn.2 h⟩;have:D'≠D:=fun e=>hn.1 (by rw[h1,e]);simp[Im.drop,this,h2]
theorem Inv.shut (h:Inv C S ρ σ own hv w0 σ0 A a w)(m5:σ0.fin){x:Deferred}{ds:List Deferred}(hd:a.defers=x::ds):
 ∃D,x.target=.collected D∧w.heap[D]?=some (.deferred (some []))∧Inv C S ρ (σ.drop D) own hv w0 σ0 A {a with defers:=ds} (w.putObj D (.deferred none)):=by
 have oh:=h.defers;rw[hd] at oh;obtain⟨⟨D,rfl,hm,hB,OG⟩,wH⟩:=oh;have hD:w.heap[D]?=some (.deferred (some [])):=by
  rcases h.ok.m D _ hm with⟨h1,_⟩|⟨_,h2⟩|⟨h3,_⟩
  ·exact absurd rfl h1
  ·exact h2
  ·exact absurd h3.symm tK
 have jh:∀k,k≠D→(w.putObj D (.deferred none)).heap[k]?=w.heap[k]?:=fun k hk=>World.putObj_heap_other hk;have bX:∀k j,own k=some j→k≠D:=fun k j hk e=>by subst e;rw[(h.owns k j hk).2.2.2] at hm;cases hm
 have hR:Im.leR C.cap σ (σ.drop D):=⟨fun r=>r.drop hm,fun _ _ _ e=>e⟩
 have DK:∀k x,(σ.drop D).m k=some x→k≠D∧σ.m k=some x:=by
  intro k x hx;simp only[Im.drop] at hx;split at hx
  ·cases hx
  ·rename_i aw;exact⟨aw,hx⟩
 refine⟨D,rfl,hD,wH.drop OG,⟨fun k o v hc=>?_,fun k es hc=>?_,h.ok.fz fun k o v hc=>jh k fun e=>by subst e;have h1:=h.ok.c k o v hc;simp[World.cell?,hD] at h1⟩,⟨h.le.c,fun k es hc=>?_⟩,h.old,h.newc,fun k es hc=>h.newm k es (DK k es hc).2,h.below.trans ⟨rfl,rfl,rfl,by simp,fun k hk=>jh k (by have:=h.bw;omega)⟩,h.bw,fun k j hk=>?_,fun t=>?_,fun j=>?_,h.opts,?_⟩
 ·have h1:=h.ok.c k o v hc;have aw:k≠D:=fun e=>by subst e;simp[World.cell?,hD] at h1
  rw[World.cell?_of_block (jh k aw)];exact h1
 ·exact(h.ok.m k es (DK k es hc).2).keep (jh k (DK k es hc).1)
 ·have aw:k≠D:=fun e=>by
   subst e;have:=h.le.m _ _ hc;rw[hm] at this;cases this;have:=h.old m5 _ hc;omega
  simp[Im.drop,aw,h.le.m k es hc]
 ·obtain⟨g1,g2,g3,g4⟩:=h.owns k j hk;exact⟨g1,by simpa using g2,g3,by simp only[Im.drop];split<;>first|rfl|exact g4⟩
 ·exact aH.monoR hR (.refl S hv) (fun _ _ _=>rfl) (fun gs s e=>(h.opts t gs s e).2) (h.regs t)
 ·exact(h.objs j).monoR hR (.refl S hv) rfl rfl (fun k hk=>⟨hk,jh k (bX k j hk)⟩)
 ·obtain⟨t,fx,cx,hf,ht⟩:=h.frame;exact⟨t,fx,cx,⟨σ0.keep _ _ _ _ _ hf.F ⟨rfl,rfl,rfl,by simp,fun k hk=>by omega⟩ (fun k hk=>jh k fun e=>by subst e;exact hf.d k hm hB hk),hf.own,hf.c,fun k x hx=>hf.m k x (DK k x hx).2,fun k hx=>hf.d k (DK k _ hx).2⟩,ht⟩
def qL (C:Ctx)(w0:World)(σ0:Base)(fn:Func)(s:Sig)(d:D)(tmps:Array Value):List Deferred→World→Prop
 |[],w=>Ma C w0 σ0 fn s d {tmps:=tmps,defers:=[]} w
 |x::ds,w=>∃D,x.target=.collected D∧w.heap[D]?=some (.deferred (some []))∧qL C w0 σ0 fn s d tmps ds (w.putObj D (.deferred none))
theorem Inv.retD (hC:CtxOK C σ0)(dz:∀j,S.ver j=0)(m5:σ0.fin){fn:Func}{s:Sig}{pe:PE}(hr:xZ C fn s S=some pe):∀(ds:List Deferred) {σ:Im} {a:Act} {w:World},Inv C S ρ σ own hv w0 σ0 A a w→a.defers=ds→qL C w0 σ0 fn s (pe.ev ρ) a.tmps ds w
 |[],σ,a,w,h,hd=>by
  have e:a={tmps:=a.tmps,defers:=[]}:=by cases a;simp only at hd;subst hd;rfl
  rw[e] at h;exact arU h hC dz hr
 |x::ds,σ,a,w,h,hd=>by
  obtain⟨D,h1,h2,h3⟩:=h.shut m5 hd;exact⟨D,h1,h2,Inv.retD hC dz m5 hr ds (a:={a with defers:=ds}) h3 rfl⟩
end
end Cx
namespace Cx
open Go Go.RowKit
def ly (C:Ctx)(f:Nat)(cts ys:List Ty)(ds xs:List D):Prop:=
 ∀(σ:Im) (w:World) (yv:Value) (vs:List Value) (F:D→(Nat→Prop)→(Nat→Prop)→World→Prop) (fx cx:Nat→Prop) (m:Nat),σ.ok w→CtxOK C σ→po C σ cts vs ds→m≤xs.length→
  (∀t fx cx w,F t fx cx w→∀k,fx k→k<w.heap.size)→(∀t fx cx w,F t fx cx w→∀k,cx k→fx k)→
  (∀t fx cx w w',F t fx cx w→Below 0 w w'→(∀k,fx k→w'.heap[k]?=w.heap[k]?)→F t fx cx w')→
  F (.list []) fx cx w→(∀k o x,σ.c k o=some x→¬cx k)→(∀k x,σ.m k=some x→¬cx k)→
  (∀(i:Nat) (fx cx:Nat→Prop) (w1:World) (σ1:Im) (args:List Value) (ds':List D),i≤m→xs[i]?=some (.tup ds')→F (.list (xs.take i)) fx cx w1→σ1.ok w1→po C σ1 ys args ds'→
    (∀k o x,σ1.c k o=some x→¬cx k)→(∀k x,σ1.m k=some x→¬cx k)→
    (∀k o x,σ1.c k o=some x→σ.c k o=some x∨w.heap.size≤k)→(∀k x,σ1.m k=some x→σ.m k=some x∨w.heap.size≤k)→
    V4 C.P yv args w1 fun u w2=>u=.bool (decide (i<m))∧Below 0 w1 w2∧(∀k,k<w1.heap.size→¬cx k→w2.heap[k]?=w1.heap[k]?)∧
     ∃m0 kf,F (.list (xs.take (i+1))) m0 kf w2∧(∀k,m0 k→k<w1.heap.size→fx k∨(∃o x,σ1.c k o=some x)∨(∃x,σ1.m k=some x∧x≠cD))∧(∀k,kf k→k<w1.heap.size→cx k))→
  Calls C.P f (#[yv]++vs.toArray) w fun e w'=>(∃v,e=.returned v)∧∃fx cx,F (.list (xs.take (m+1))) fx cx w'
def gi (C:Ctx)(Φ:aL):Prop:=∀f cs ys,C.cap f=some cs→jY cs.args cs.res=some ys→(∃fn,C.P.funcs[f]?=some fn∧fn.body.isSome=true∧(fn.name== "runtime.NumGoroutine")=false)∧
 ∀ds d,Φ f ds=some d→∃xs,d=.list xs∧(∀x,x∈xs→∃ds',x=.tup ds'∧ds'.length=ys.length)∧ly C f cs.caps ys ds xs
section
variable {C:Ctx} {S:St} {ρ:Env} {σ:Im} {own:Nat→Option Nat} {hv:Nat→Value} {w0:World} {σ0:Base} {A:Nat→Prop} {a:Act} {w:World}
theorem Inv.mono_regs (h:Inv C S ρ σ own hv w0 σ0 A a w){τ:Im}(hle:σ.le τ)(t:Nat):aH C S ρ τ hv (S.r t) (a.tmps.getD t undef) (ρ.r t):=
 aH.mono hle (.refl S hv) (fun _ _ _=>rfl) (fun gs s e=>(h.opts t gs s e).2) (h.regs t)
theorem Inv.joinIm (h:Inv C S ρ σ own hv w0 σ0 A a w){τ:Im}(hτ:τ.ok w)(hd:∀k,τ.m k≠some cD)(hoc:∀k o v,τ.c k o=some v→own k=none)(hom:∀k v,τ.m k=some v→own k=none)
 (da:∀k o v,τ.c k o=some v→σ.c k o=some v∨w0.heap.size≤k) (cQ:∀k v,τ.m k=some v→σ.m k=some v∨w0.heap.size≤k)
 (db:∀t fx cx,FrOK σ own w0.heap.size σ0 w t fx cx→(∀k o v,τ.c k o=some v→¬cx k)∧∀k v,τ.m k=some v→¬cx k):Inv C S ρ (σ.plus τ) own hv w0 σ0 A a w where
 defers:=h.defers.mono (Im.plus_le1 σ τ)
 ok:=Im.plus_ok h.ok hτ
 le:=h.le.trans (Im.plus_le1 σ τ)
 old:=h.old
 newc:=fun k o x e=>(Im.plus_c e).elim (h.newc k o x) fun e=>(da k o x e).elim (h.newc k o x) .inr
 newm:=fun k x e=>(Im.plus_m e).elim (h.newm k x) fun e=>(cQ k x e).elim (h.newm k x) .inr
 below:=h.below
 bw:=h.bw
 owns:=fun k j hk=>by
  obtain⟨g1,g2,g3,g4⟩:=h.owns k j hk;refine⟨g1,g2,fun o=>?_,?_⟩
  ·cases e:(σ.plus τ).c k o with
   |none=>rfl
   |some x=>
    rcases Im.plus_c e with e|e
    ·rw[g3 o] at e;cases e
    ·rw[hoc k o x e] at hk;cases hk
  ·cases e:(σ.plus τ).m k with
   |none=>rfl
   |some x=>
    rcases Im.plus_m e with e|e
    ·rw[g4] at e;cases e
    ·rw[hom k x e] at hk;cases hk
 regs:=h.mono_regs (Im.plus_le1 σ τ)
 objs:=fun j=>(h.objs j).mono (Im.plus_le1 σ τ) (.refl S hv) rfl rfl fun k hk=>⟨hk,rfl⟩
 opts:=h.opts
 frame:=by
  obtain⟨t,fx,cx,hf,ht⟩:=h.frame;obtain⟨h1,h2⟩:=db t fx cx hf;exact⟨t,fx,cx,⟨hf.F,hf.own,fun k o x e=>(Im.plus_c e).elim (hf.c k o x) (h1 k o x),fun k x e=>(Im.plus_m e).elim (hf.m k x) (h2 k x),fun k e=>(Im.plus_m e).elim (hf.d k) fun e=>absurd e (hd k)⟩,ht⟩
theorem Inv.keep (h:Inv C S ρ σ own hv w0 σ0 A a w){w':World}{X:Nat→Prop}(hb:Below 0 w w')(hX:∀k,X k→w'.heap[k]?=w.heap[k]?)(h0:∀k,k<w0.heap.size→X k)(ho:∀k j,own k=some j→X k)(hc:∀k o v,σ.c k o=some v→X k)(hm:∀k v,σ.m k=some v→X k)
 (db:∀t fx cx,FrOK σ own w0.heap.size σ0 w t fx cx→∀k,fx k→X k):Inv C S ρ σ own hv w0 σ0 A a w' where
 defers:=h.defers
 ok:=⟨fun k o v e=>by rw[World.cell?_of_block (hX k (hc k o v e))];exact h.ok.c k o v e,fun k v e=>(h.ok.m k v e).keep (hX k (hm k v e)),h.ok.fz fun k o v e=>hX k (hc k o v e)⟩
 le:=h.le
 old:=h.old
 newc:=h.newc
 newm:=h.newm
 below:=h.below.trans ⟨hb.os,hb.tape,hb.output,hb.size,fun k hk=>hX k (h0 k (sr hk h.bw))⟩
 bw:=h.bw
 owns:=fun k j hk=>let⟨g1,g2,g3⟩:=h.owns k j hk;⟨g1,sr g2 hb.size,g3⟩
 regs:=h.regs
 objs:=fun j=>(h.objs j).mono (.refl σ) (.refl S hv) rfl rfl fun k hk=>⟨hk,hX k (ho k j hk)⟩
 opts:=h.opts
 frame:=by
  obtain⟨t,fx,cx,hf,ht⟩:=h.frame;exact⟨t,fx,cx,⟨σ0.keep _ _ _ _ _ hf.F hb fun k hk=>hX k (db t fx cx hf k hk),hf.own,hf.c,hf.m,hf.d⟩,ht⟩
end
def Base.rnd (σ0:Base)(σ:Im)(own:Nat→Option Nat)(w:World)(t:D)(X:Nat→Prop):Base:=
 {σ with
  B:=σ0.B
  fin:=False
  F:=fun t' fx cx w'=>t'=t∧(∀k,fx k↔(k<w.heap.size∧own k=none∧σ.m k≠some cD∧¬X k))∧(∀k,cx k↔(fx k∧(∀o,σ.c k o=none)∧σ.m k=none))∧w.heap.size≤w'.heap.size∧∀k,fx k→w'.heap[k]?=w.heap[k]?
  lt:=fun t' fx cx w' h k hk=>sr ((h.2.1 k).1 hk).1 h.2.2.2.1
  sub:=fun t' fx cx w' h k hk=>((h.2.2.1 k).1 hk).1
  keep:=fun t' fx cx w' kH h hb hs=>⟨h.1,h.2.1,h.2.2.1,iv h.2.2.2.1 hb.size,fun k hk=>(hs k hk).trans (h.2.2.2.2 k hk)⟩}
section
variable {C:Ctx} {S S':St} {ρ ρ':Env} {σ σ':Im} {own own':Nat→Option Nat} {hv hv':Nat→Value} {w0:World} {σ0:Base} {A A':Nat→Prop} {a a':Act} {w w':World} {X:Nat→Prop}
theorem Inv.toRnd (h:Inv C S ρ σ own hv w0 σ0 A a w){t:D}(ht:∀j,S.o j=.tr→(∃ys,C.yl=some (j,ys))∧ρ.o j=t):Inv C S ρ σ own hv w0 (σ0.rnd σ own w t X) A a w:=by
 refine⟨h.defers,h.ok,.refl σ,(fun hf=>hf.elim),(fun _ _ _ e=>.inl e),(fun _ _ e=>.inl e),h.below,h.bw,h.owns,h.regs,h.objs,h.opts,t,fun k=>k<w.heap.size∧own k=none∧σ.m k≠some cD∧¬X k,fun k=>(k<w.heap.size∧own k=none∧σ.m k≠some cD∧¬X k)∧(∀o,σ.c k o=none)∧σ.m k=none,
  ⟨⟨rfl,fun _=>.rfl,fun _=>.rfl,bf _,fun _ _=>rfl⟩,fun k j hk hf=>?_,fun k o x e hc=>?_,fun k x e hc=>?_,fun k e _ hf=>hf.2.2.1 e⟩,ht⟩
 ·have:=hf.2.1;rw[hk] at this;cases this
 ·have:=hc.2.1 o;rw[e] at this;cases this
 ·have:=hc.2.2;rw[e] at this;cases this
theorem Inv.markSame {w1:World}(h:σ.ok w1)(h':σ'.ok w')(hle:σ.le σ'){k:Nat}(hk:σ.m k=some cD):w'.heap[k]?=w1.heap[k]?:=by
 have e1:w1.heap[k]?=some (.deferred (some [])):=by
  rcases h.m k _ hk with⟨h1,_⟩|⟨_,h2⟩|⟨h3,_⟩
  ·exact absurd rfl h1
  ·exact h2
  ·exact absurd h3.symm tK
 have e2:w'.heap[k]?=some (.deferred (some [])):=by
  rcases h'.m k _ (hle.m k _ hk) with⟨h1,_⟩|⟨_,h2⟩|⟨h3,_⟩
  ·exact absurd rfl h1
  ·exact h2
  ·exact absurd h3.symm tK
 rw[e1,e2]
theorem Inv.rndSame {w1:World}{t:D}(av:σ.ok w1)(h':Inv C S' ρ' σ' own' hv' w0 (σ0.rnd σ own w1 t X) A' a' w'){k:Nat}(hk:k<w1.heap.size)(ho:own k=none)(hX:¬X k):w'.heap[k]?=w1.heap[k]?:=by
 by_cases hd:σ.m k=some cD
 ·exact Inv.markSame av h'.ok h'.le hd
 ·obtain⟨t',fx,cx,hf,_⟩:=h'.frame;obtain⟨_,f2,_,_,f5⟩:=hf.F;exact f5 k ((f2 k).2 ⟨hk,ho,hd,hX⟩)
theorem Inv.rndBelow {w1:World}{t:D}(h:Inv C S ρ σ own hv w0 σ0 A a w1)(h':Inv C S' ρ' σ' own' hv' w0 (σ0.rnd σ own w1 t X) A' a' w'):Below 0 w1 w':=by
 obtain⟨t',fx,cx,hf,_⟩:=h'.frame;obtain⟨_,_,_,f4,_⟩:=hf.F;exact⟨h'.below.os.trans h.below.os.symm,h'.below.tape.trans h.below.tape.symm,h'.below.output.trans h.below.output.symm,f4,fun k hk=>by omega⟩
theorem Inv.rndOwn {w1:World}{t:D}(h':Inv C S' ρ' σ' own' hv' w0 (σ0.rnd σ own w1 t X) A' a' w'){k j:Nat}(hk:own' k=some j)(hX:¬X k):(∃i,own k=some i)∨w1.heap.size≤k:=by
 obtain⟨t',fx,cx,hf,_⟩:=h'.frame;obtain⟨_,f2,_,_,_⟩:=hf.F;cases e:own k with
 |some i=>exact .inl ⟨i,rfl⟩
 |none=>
  refine .inr (Nat.le_of_not_lt fun af=>?_);by_cases hd:σ.m k=some cD
  ·have:=(h'.owns k j hk).2.2.2;rw[h'.le.m k _ hd] at this;cases this
  ·exact hf.own k j hk ((f2 k).2 ⟨af,e,hd,hX⟩)
theorem Inv.rndC {w1:World}{t:D}(h':Inv C S' ρ' σ' own' hv' w0 (σ0.rnd σ own w1 t X) A' a' w'){k:Nat}(hk:(∃o x,σ'.c k o=some x)∨∃x,σ'.m k=some x)(hX:¬X k):(∃o x,σ.c k o=some x)∨(∃x,σ.m k=some x)∨(∃i,own k=some i)∨w1.heap.size≤k:=by
 obtain⟨t',fx,cx,hf,_⟩:=h'.frame;obtain⟨_,f2,f3,_,_⟩:=hf.F;cases e:own k with
 |some i=>exact .inr (.inr (.inl ⟨i,rfl⟩))
 |none=>
  by_cases hm:∃x,σ.m k=some x
  ·exact .inr (.inl hm)
  by_cases hc:∃o x,σ.c k o=some x
  ·exact .inl hc
  refine .inr (.inr (.inr (Nat.le_of_not_lt fun af=>?_)));have YO:σ.m k=none:=by
   cases e2:σ.m k with
   |none=>rfl
   |some x=>exact absurd ⟨x,e2⟩ hm
  have kP:cx k:=(f3 k).2 ⟨(f2 k).2 ⟨af,e,by rw[YO];simp,hX⟩,fun o=>by
   cases e2:σ.c k o with
   |none=>rfl
   |some x=>exact absurd ⟨o,x,e2⟩ hc,YO⟩
  rcases hk with⟨o,x,hk⟩|⟨x,hk⟩
  ·exact hf.c k o x hk kP
  ·exact hf.m k x hk kP
theorem Inv.ofRnd {w1:World}(h:Inv C S ρ σ own hv w0 σ0 A a w1){t:D}{fx cx:Nat→Prop}(db:FrOK σ own w0.heap.size σ0 w1 t fx cx)(hX:∀k,fx k→¬X k)(h':Inv C S' ρ' σ' own' hv' w0 (σ0.rnd σ own w1 t X) A' a' w'):
 Inv C S' ρ' σ' own' hv' w0 σ0 A' a' w':=by
 have hb:=h.rndBelow h';have kO:=h';obtain⟨t',m0,kf,hf,ht⟩:=kO.frame;obtain⟨f1,f2,f3,f4,f5⟩:=hf.F;have af:=σ0.lt _ _ _ _ db.F;have bS:=σ0.sub _ _ _ _ db.F
 have qa:∀k,fx k→own k=none:=fun k hk=>by
  cases e:own k with
  |none=>rfl
  |some j=>exact absurd hk (db.own k j e)
 have lJ:∀k,cx k→¬((∃o x,σ'.c k o=some x)∨∃x,σ'.m k=some x):=fun k hk hc=>by
  have h1:=bS k hk;rcases Inv.rndC h' hc (hX k h1) with⟨o,x,e⟩|⟨x,e⟩|⟨j,e⟩|e
  ·exact db.c k o x e hk
  ·exact db.m k x e hk
  ·exact db.own k j e h1
  ·have:=af k h1;omega
 refine⟨h'.defers,h'.ok,h.le.trans h'.le,h.old,fun k o x e=>(h'.newc k o x e).elim (h.newc k o x) .inr,fun k x e=>(h'.newm k x e).elim (h.newm k x) .inr,h'.below,h'.bw,h'.owns,h'.regs,h'.objs,h'.opts,t,fx,cx,
  ⟨σ0.keep _ _ _ _ _ db.F hb fun k hk=>Inv.rndSame h.ok h' (af k hk) (qa k hk) (hX k hk),fun k j hk kR=>?_,fun k o x e hc=>lJ k hc (.inl ⟨o,x,e⟩),fun k x e hc=>lJ k hc (.inr ⟨x,e⟩),fun k e hB kR=>?_⟩,fun j hj=>⟨(ht j hj).1,by rw[(ht j hj).2,f1]⟩⟩
 ·rcases Inv.rndOwn h' hk (hX k kR) with⟨i,e⟩|e
  ·exact db.own k i e kR
  ·have:=af k kR;omega
 ·by_cases hd:σ.m k=some cD
  ·exact db.d k hd hB kR
  ·exact hf.d k e hB ((f2 k).2 ⟨af k kR,qa k kR,hd,hX k kR⟩)
theorem Inv.restore (h:Inv C S ρ σ own hv w0 σ0 A a w)(hn:∀t gs s,S.r t≠.opt gs s)(hd:kJ σ w0.heap.size a'.defers)(hr:∀t,isNone (S.r t)=false→a'.tmps.getD t undef=a.tmps.getD t undef∧ρ'.r t=ρ.r t)(ho:∀j,oF (S.o j)=false→ρ'.o j=ρ.o j):
 Inv C S ρ' σ own hv w0 σ0 (fun _=>False) a' w:=by
 refine⟨hd,h.ok,h.le,h.old,h.newc,h.newm,h.below,h.bw,h.owns,fun t=>?_,fun j=>?_,fun t gs s e=>absurd e (hn t gs s),?_⟩
 ·cases hs:isNone (S.r t) with
  |true=>cases hc:S.r t<;>rw[hc] at hs<;>simp[isNone] at hs;trivial
  |false=>
   rw[(hr t hs).1,(hr t hs).2];exact aH.mono' (.refl σ) (.refl S hv) (hn t) (h.regs t)
 ·cases hs:oF (S.o j) with
  |true=>cases hc:S.o j<;>rw[hc] at hs<;>simp[oF] at hs;trivial
  |false=>exact(h.objs j).mono (.refl σ) (.refl S hv) rfl (ho j hs) (fun k hk=>⟨hk,rfl⟩)
 ·obtain⟨t,fx,cx,h1,h2⟩:=h.frame;exact⟨t,fx,cx,h1,fun j hj=>⟨(h2 j hj).1,by rw[ho j (by rw[hj];rfl)];exact(h2 j hj).2⟩⟩
theorem kJ.mem {σ:Im}{B:Nat}:∀{ds:List Deferred} {d:Deferred},d∈ds→kJ σ B ds→∃D,d={target:=.collected D,args:=#[]}∧σ.m D=some cD
 |x::ds,d,hm,⟨⟨D,h1,h2,_⟩,h⟩=>by
  rcases cT.1 hm with e|e
  ·subst e;exact⟨D,h1,h2⟩
  ·exact kJ.mem e h
def Im.mark (σ:Im)(D:Nat):Im:=⟨σ.c,fun k=>if k=D then some cD else σ.m k⟩
theorem Xj (w:World)(o1 o2:Obj):Below w.heap.size w ((w.alloc o1).alloc o2):=(((Below.refl _ w).alloc (bf _) o1).alloc (by simp) o2)
theorem Inv.enter (h:Inv C S ρ σ own hv w0 σ0 A a w)(r:Loop):
 Inv C S ρ (σ.mark w.heap.size) own hv w0 σ0 A {a with defers:={target:=.collected w.heap.size,args:=#[]}::a.defers} ((w.alloc (.deferred (some []))).alloc (.loop r)):=by
 have hD:((w.alloc (.deferred (some []))).alloc (.loop r)).heap[w.heap.size]?=some (.deferred (some [])):=(Below.heap_alloc _ _ _ (by simp)).trans (World.alloc_heap_new w _);have hle:σ.le (σ.mark w.heap.size):=by
  refine⟨fun _ _ _ e=>e,fun k x e=>?_⟩;have:k≠w.heap.size:=by have:=h.ltm e;omega
  simp[Im.mark,this,e]
 have wT:∀k x,(σ.mark w.heap.size).m k=some x→σ.m k=some x∨(k=w.heap.size∧x=cD):=by
  intro k x e;simp only[Im.mark] at e;split at e
  ·rename_i e2;cases e;exact .inr ⟨e2,rfl⟩
  ·exact .inl e
 have hb:=Xj w (.deferred (some [])) (.loop r);have av:(σ.mark w.heap.size).ok ((w.alloc (.deferred (some []))).alloc (.loop r)):=by
  have h1:=h.ok.below hb;refine⟨h1.c,fun k x e=>?_,h1.f⟩;rcases wT k x e with e|⟨rfl,rfl⟩
  ·exact h1.m k x e
  ·exact .inr (.inl ⟨rfl,hD⟩)
 have hw:=h.world hle av hb (fun _ _ _ e=>.inl e) (fun k x e=>(wT k x e).imp id fun e=>by omega);have oh:=hw.defers;refine⟨⟨⟨_,rfl,by simp[Im.mark],h.below.size,fun hm=>?_⟩,oh⟩,hw.ok,hw.le,hw.old,hw.newc,hw.newm,hw.below,hw.bw,hw.owns,hw.regs,hw.objs,hw.opts,hw.frame⟩;obtain⟨D,e1,e2⟩:=kJ.mem hm h.defers;have:D=w.heap.size:=by cases e1;rfl
 subst this;have:=h.ltm e2;omega
end
end Cx
