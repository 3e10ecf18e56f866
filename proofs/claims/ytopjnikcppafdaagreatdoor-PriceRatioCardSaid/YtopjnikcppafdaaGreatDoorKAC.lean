/-
  Shared texts of this claim.
-/
import Derived.Test.YtopjnikcppafdaaGreatDoorKAB
import Derived.Laws.OwnMore
import Derived.Lib.ConvBytes
set_option linter.unusedSimpArgs false
set_option linter.unusedVariables false
namespace Cx
open Go Go.RowKit
section
variable {C:Ctx} {S:St} {ρ:Env} {σ:Im} {own:Nat→Option Nat} {hv:Nat→Value} {w0:World} {σ0:Base} {A:Nat→Prop} {a:Act} {w:World} {gs:List (Nat×Bool)} {Φ:aW} {dst:Nat}
theorem wT {j:Nat}{e:PE}{ρ':Env}(h:PI.runs Φ [.setO j e] ρ=some ρ'):ρ'=ρ.setO j (e.ev ρ):=by
 simp[PI.runs,PI.run] at h;exact h.symm
theorem uX {ρ':Env}(h:PI.runs Φ [] ρ=some ρ'):ρ'=ρ:=by
 simp[PI.runs] at h;exact h.symm
def IS (C:Ctx)(w0:World)(σ0:Base)(Φ:aW)(S:St)(ρ:Env)(A:Nat→Prop)(a:Act)(w:World)(r:St×List PI):Prop:=
 ∀ρ',PI.runs Φ r.2 ρ=some ρ'→Good C w0 σ0 r.1 ρ' A a w
theorem apV (h:Inv C S ρ σ own hv w0 σ0 A a w){b:Nat}{r:St×List PI}(hr:Fb S b=some r):IS C w0 σ0 Φ S ρ A a w r:=by
 unfold Fb at hr;split at hr
 case h_2=>cases hr
 rename_i ag shs eo;simp only[aA] at hr;obtain⟨x,hx,hr⟩:=hr;have bt:=h.objs b;rw[eo] at bt;obtain⟨k,cs,T,ds,h1,h2,h3,h4,h5,h6,h7⟩:=bt;obtain⟨l1,es,⟨he,uy⟩,l2,bO⟩:=Q4 (b:=.o b) h (cs:=cs.toList) h5 shs 0 x (fun m s hm=>by rw[BU,je];exact(h7 m s hm).2) hx
 let σ':Im:={c:=fun k' o=>if k'=k then cs[o]? else σ.c k' o,m:=σ.m}
 have hle:σ.le σ':=by
  refine⟨fun k' o v hc=>?_,fun k es hc=>hc⟩;have:k'≠k:=fun e=>by subst e;rw[(h.owns k' b h2).2.2.1 o] at hc;cases hc
  simp[σ',this,hc]
 have key:∀(t:Ty) (v:Value) (d:D),Rep C.cap σ' t v d→(∀(i:Nat) (u:Value),v.cells[i]?=some u→cs[i]?=some u)→
  Inv C (S.setO b (.fbox t)) (ρ.setO b d) σ' (fun k'=>if k'=k then none else own k') hv w0 σ0 A a w:=by
  intro t v d hrv aZ
  refine h.step (fun i=>i=b) rfl hle ?_ (fun k' o x hx=>?_) (fun _ _ hx=>.inl hx) (.refl _ _) ⟨fun _=>bn _,fun _ _=>rfl⟩ (fun i hi=>⟨?_,?_,rfl,fun k' hk=>⟨?_,rfl⟩⟩) (fun i hi=>?_) (fun k' i hk=>?_) (fun _=>id) (fun t=>.inl ⟨rfl,rfl,rfl⟩) (fun _ _=>rfl) (fun _ _ _=>rfl) (fun k' i hk=>by
        split at hk
        ·cases hk
        ·exact .inl ⟨i,hk⟩) (fun i hi=>by subst hi;simp[St.setO,aS])
  ·refine⟨fun k' o v hc=>?_,h.ok.m,fun k' o v hc=>?_⟩
   all_goals simp only[σ'] at hc
   all_goals split at hc
   ·rename_i e;subst e;simp[World.cell?,h3,hc]
   ·exact h.ok.c k' o v hc
   ·rename_i e;subst e;exact .inr (aj9 h3 o)
   ·exact h.ok.f k' o v hc
  ·simp only[σ'] at hx;split at hx
   ·rename_i e;subst e;exact .inr ⟨(h.owns k' b h2).1,.inl ⟨b,h2⟩⟩
   ·exact .inl hx
  ·simp[St.setO,bM _ _ hi]
  ·simp[Env.setO,bM _ _ hi]
  ·have:k'≠k:=fun e=>by subst e;rw[h2] at hk;simp at hk;exact hi hk.symm
   simp[this,hk]
  ·subst hi;simp only[St.setO,aS];exact⟨k,v,h1,by simp only[Env.setO,aS];exact hrv,fun i u hu=>by simp[σ',aZ i u hu]⟩
  ·split at hk
   ·cases hk
   ·rename_i hn;obtain⟨g1,g2,g3,g4⟩:=h.owns k' i hk;exact⟨g1,g2,fun o=>by simp[σ',hn,g3 o],g4⟩
 have la:∀(m:Nat) (t:Ty),x.1[m]?=some t→t.one=true∧Rep C.cap σ' t (cs.toList.getD m undef) (es.getD m .none):=fun m t hm=>by
  obtain⟨g1,g2⟩:=bO m t hm;rw[je] at g2;exact⟨g1,g2.mono hle⟩
 intro ρ' ao;cases ag with
 |true=>
  simp only[cond_true] at hr;cases hr;have:=wT ao;subst this;refine⟨_,_,_,key (.agg x.1) (.agg cs.toList.toArray) _ ?_ (fun i u hu=>by simpa [Value.cells] using hu)⟩;simp only[PE.ev,he];exact .agg _ _ _ (by simp;omega) (by omega) (fun m t hm=>(la m t hm).2) (fun m t hm=>(la m t hm).1)
 |false=>
  simp only[cond_false] at hr;split at hr
  ·rename_i t e et ee;cases hr;have:=wT ao;subst this;obtain⟨g1,g2⟩:=la 0 t (by rw[et];rfl);have lg:es=[e.ev ρ]:=by rw[←uy,ee];rfl
   subst lg;refine⟨_,_,_,key t (cs.toList.getD 0 undef) _ (by simpa using g2) (fun i u hu=>?_)⟩;rw[(g2.oneCell g1).1] at hu;have hi:i=0:=by
        have:=(ei.1 hu).1;simpa using this
   subst hi;simp at hu;subst hu;have:0<cs.size:=by rw[h4];rw[et] at l1;simp at l1;omega
   rw[jz this];simp[aI,jz this]
  ·cases hr
theorem Inv.mv (h:Inv C S ρ σ own hv w0 σ0 A a w){j j':Nat}(ay:j≠j')(hk:pA (S.o j)=true):
 Inv C (S.mv j j') (ρ.setO j' (ρ.o j)) σ (fun k=>if own k=some j then some j' else if own k=some j' then none else own k) (cd hv j' (hv j)) w0 σ0 A a w:=by
 have bt:=h.objs j
 refine h.step (fun i=>i=j∨i=j') rfl (.refl σ) h.ok (fun _ _ _ hx=>.inl hx) (fun _ _ hx=>.inl hx) (.refl _ _) ⟨fun i=>?_,fun i e=>?_⟩ (fun i hi=>?_) (fun i hi=>?_) (fun k i hk=>?_) (fun _=>id) (fun t=>.inl ⟨rfl,rfl,rfl⟩) (fun _ _=>rfl) (fun _ _ _=>rfl) (fun k i hk=>by
        split at hk
        ·rename_i e;exact .inl ⟨j,e⟩
        ·split at hk
         ·cases hk
         ·exact .inl ⟨i,hk⟩) (fun i hi=>by
        rcases hi with rfl|rfl
        ·simp[St.mv,aS]
        ·simp only[St.mv,bM _ _ (xM ay),aS];intro e;rw[e] at hk;cases hk)
 ·simp only[St.mv,fJ];split
  ·rename_i e;subst e;omega
  ·split
   ·rename_i e;subst e;omega
   ·omega
 ·simp only[St.mv,fJ] at e;split at e
  ·rename_i e';subst e';omega
  ·split at e
   ·rename_i e';subst e';omega
   ·rename_i SO;exact bM _ _ SO
 ·simp only[not_or] at hi;refine⟨by simp[St.mv,bM _ _ hi.1,bM _ _ hi.2],by simp[Env.setO,bM _ _ hi.2],bM _ _ hi.2,fun k hk=>⟨?_,rfl⟩⟩;have e1:i≠j:=hi.1;have e2:i≠j':=hi.2;simp[hk,e1,e2]
 ·rcases hi with rfl|rfl
  ·simp only[St.mv,aS];trivial
  ·simp only[St.mv,bM _ _ (xM ay),aS];cases cW:S.o j with
   |row T e=>
    rw[cW] at bt;obtain⟨cells,xs,h1,h2,h3,h4⟩:=bt;refine⟨cells,xs,by simp only[Env.setO,aS];exact h1,by rw[aS];exact h2,h3,fun k hk=>?_⟩;rw[aS] at hk;simp[h4 k hk]
   |mp kt et=>
    rw[cW] at bt;obtain⟨k0,arr,clock,es,h1,h2,h3,h4,h5,h6⟩:=bt;exact⟨k0,arr,clock,es,by rw[aS];exact h1,by simp[h2],h3,by simp only[Env.setO,aS];exact h4,h5,h6⟩
   |_=>rw[cW] at hk;simp[pA] at hk
 ·split at hk
  ·rename_i e;exact h.owns k j e
  ·split at hk
   ·cases hk
   ·exact h.owns k i hk
theorem axQ (h:Inv C S ρ σ own hv w0 σ0 A a w){t j':Nat}{r:St×List PI}(hr:Ie S t j'=some r):IS C w0 σ0 Φ S ρ A a w r:=by
 intro ρ' ao;unfold Ie at hr;split at hr
 ·rename_i j ver es;cases hb:(Nat.beq ver (S.ver j)&&pA (S.o j)&& !Nat.beq j j')<;>simp only[hb,cond_true,cond_false] at hr
  ·cases hr;rw[uX ao];exact⟨_,_,_,h⟩
  ·cases hr;simp only[aw,mi] at hb;have ed:=aD hb.1.1;have ay:j≠j':=fun e=>by subst e;simp at hb
   have sG:=h.mv ay hb.1.2;have mK:=h.regs t;rw[es] at mK;have cT:=mK.2 ed;rw[wT ao];refine⟨_,_,_,sG.step (S':=(S.mv j j').setR t (.obj j' (S.ver j'+1))) (fun _=>False) rfl (.refl σ) sG.ok (fun _ _ _ hx=>.inl hx) (fun _ _ hx=>.inl hx) (.refl _ _) ⟨fun _=>bn _,fun _ _=>rfl⟩ (fun i _=>⟨rfl,rfl,rfl,fun k hk=>⟨hk,rfl⟩⟩) (fun _ hf=>hf.elim) sG.owns (fun _=>id) (fun u=>?_) (fun _ _=>rfl) (fun _ _ _=>rfl) (fun k i hk=>.inl ⟨i,hk⟩) (fun _ hf=>hf.elim)⟩;by_cases hu:u=t
   ·subst hu;refine .inr ⟨?_,fun gs s e=>by simp[St.setR,aS] at e⟩;simp only[St.setR,aS];refine⟨?_,fun _=>?_⟩
    ·simp[St.mv,bM _ _ (xM ay),aS]
    ·rw[aS];exact cT
   ·exact .inl ⟨by simp[St.setR,bM _ _ hu],rfl,rfl⟩
 ·cases hr;rw[uX ao];exact⟨_,_,_,h⟩
theorem ash (h:Inv C S ρ σ own hv w0 σ0 A a w){b i j:Nat}{T:TypeId}{r:St×List PI}(hr:FV C S b i j T=some r):IS C w0 σ0 Φ S ρ A a w r:=by
 intro ρ' ao;unfold FV at hr;split at hr
 ·rename_i ag shs eo;split at hr
  ·rename_i e0 e es et;cases hb:(!Nat.beq b j)<;>simp only[hb,cond_true,cond_false] at hr
   ·cases hr;rw[uX ao];exact⟨_,_,_,h⟩
   ·cases hr;have ay:b≠j:=fun e=>by subst e;simp at hb
    have bt:=h.objs b;rw[eo] at bt;obtain⟨k,cs,T0,ds,h1,h2,h3,h4,h5,h6,h7⟩:=bt;have cT:cs.getD i undef=.slice none 0 0:=by
     have:=(h7 i _ es).2;generalize cs.getD i undef=v at this;generalize ds.getD i .none=d at this;cases this;rfl
    have lU:=h.newO j (.row T e) (.list []) (.slice none 0 0) (fun _=>false) (.refl _ _) (by simp) ⟨[],[],by simp[Env.setO,aS],by rw[aS];exact World.ownsRow_nil _ _ _ _,⟨fun _=>undef,by simp,by simp⟩,by rw[aS];simp[Value.ownBlock]⟩;rw[wT ao];have eo':(S.newO j (.row T e)).o b=.box ag shs:=by simp[St.newO,bM _ _ ay,eo]
    have aef:=lU.objs b;rw[eo'] at aef;refine⟨_,_,_,lU.step (S':=(S.newO j (.row T e)).setO b (.box ag (shs.set i (.obj j (S.ver j+1))))) (fun m=>m=b) rfl (.refl σ) lU.ok (fun _ _ _ hx=>.inl hx) (fun _ _ hx=>.inl hx) (.refl _ _) ⟨fun _=>bn _,fun _ _=>rfl⟩ (fun m hm=>⟨by simp[St.setO,bM _ _ hm],rfl,rfl,fun k hk=>⟨hk,rfl⟩⟩) (fun m hm=>?_) lU.owns (fun _=>id) (fun t=>.inl ⟨rfl,rfl,rfl⟩) (fun _ _=>rfl) (fun _ _ _=>rfl) (fun k i hk=>.inl ⟨i,hk⟩) (fun m hm=>by subst hm;simp[St.setO,aS])⟩;subst hm;rw[St.setO_o];obtain⟨k1,cs1,T1,Ro,g1,g2,g3,g4,g5,g6,g7⟩:=aef;have e1:cs1=cs:=by
     rw[bM _ _ ay,h1] at g1;cases g1;rw[h3] at g3;cases g3;rfl
    refine⟨k1,cs1,T1,Ro,g1,g2,g3,by simpa using g4,g5,by simpa using g6,fun q x hq=>?_⟩;rw[IY] at hq;split at hq
    ·rename_i e';subst e';split at hq
     ·cases hq;refine⟨(fun _ _ e=>by cases e),?_,fun _=>?_⟩
      ·simp[St.setO,St.newO,aS]
      ·rw[aS,e1];exact cT
     ·cases hq
    ·obtain⟨f1,f2⟩:=g7 q x hq;exact⟨f1,f2.mono' (.refl σ) (Compat.setO _ _ _ _) f1⟩
  ·cases hr;rw[uX ao];exact⟨_,_,_,h⟩
 ·cases hr;rw[uX ao];exact⟨_,_,_,h⟩
end
end Cx
namespace Cx
open Go Go.RowKit
def mkObj (S:St)(dst:Nat)(ob:Ob):St:=(S.newO dst ob).setR dst (.obj dst (S.ver dst+1))
def mkPtr (S:St)(dst:Nat)(ob:Ob):St:=(S.newO dst ob).setR dst (.ptr dst (S.ver dst+1) 0)
abbrev kT:=Option (St×List PI)
def EV (C:Ctx)(S:St)(dst:Nat)(T:TypeId)(x:Operand):kT:=
 match use C S [] x,C.P.underlying T with
 |some (.nils _,_),some (.slice E)=>(p9 C.P E).map fun e=>(mkObj S dst (.row E e),[.setO dst (.con (.list [])),.setR dst (.con .none)])
 |_,_=>Option.none
def EL (C:Ctx)(S:St)(dst:Nat)(T:TypeId):kT:=
 match p9 C.P T,C.P.info? T,qZ C.P T with
 |some t,some inf,some ag=>
  bif u9 inf t&&(t.rowT||t.one) then
   (qa t).map fun z=>(mkPtr S dst (.box ag (z.1.flat.map .dat)),[.setO dst (.con (.agg z.2.cells)),.setR dst (.con .none)])
  else Option.none
 |_,_,_=>Option.none
def EN (C:Ctx)(S:St)(dst:Nat)(T:TypeId)(x:Operand):kT:=
 match use C S [] x,qZ C.P T with
 |some (t,e),some ag=>
  bif t.rowT||t.one then some (mkPtr S dst (.box ag (t.flat.map .dat)),[.setO dst (.mk [e]),.setR dst (.con .none)]) else Option.none
 |Option.none,some true=>
  match gD S [] x with
  |.agg l=>some (mkPtr S dst (.box true (l.map AgC.sh)),[.setO dst (tn x),.setR dst (.con .none)])
  |_=>Option.none
 |_,_=>Option.none
def ES (C:Ctx)(S:St)(dst:Nat)(T:TypeId)(r:Option Operand):kT:=
 match C.P.underlying T,r with
 |some (.map K E),Option.none=>
  (p9 C.P K).bind fun kt=>(p9 C.P E).map fun et=>(mkObj S dst (.mp kt et),[.setO dst (.con (.map [])),.setR dst (.con .none)])
 |_,_=>Option.none
def ET (C:Ctx)(S:St)(dst:Nat)(T:TypeId)(l c:Operand):kT:=
 match C.P.underlying T,use C S [] l,use C S [] c with
 |some (.slice E),some (.int _,n),some (.int _,m)=>
  (p9 C.P E).bind fun e=>
    bif sk C.P E e then
     (qa e).bind fun z=>
        bif Ty.sub z.1 e then some (mkObj S dst (.row E e),[.chk (TY n),.chk (.ci .eql n m),.setO dst (.rep n (.con z.2)),.setR dst (.con .none)]) else Option.none
    else Option.none
 |_,_,_=>Option.none
def EW (C:Ctx)(S:St)(dst:Nat)(T:TypeId)(x:Operand):kT:=
 match C.P.underlying T,gD S [] x with
 |some (.map _ _),.obj j ver=>
  bif Nat.beq ver (S.ver j)&& !Nat.beq j dst then
   match S.o j with
   |.mp kt et=>some (mkObj (S.mv j dst) dst (.it kt et),[.setO dst (.tup [.lst [],.o j]),.setR dst (.con .none)])
   |_=>Option.none
  else Option.none
 |_,_=>Option.none
def EO (C:Ctx)(S:St)(dst:Nat)(s d:TypeId)(x:Operand):kT:=
 match use C S [] x,C.P.underlying s,C.P.underlying d with
 |some (.str,e),some .string,some (.slice E)=>
  (match C.P.underlying E with
   |some (.int .u8)=>some (S.setR dst (.dat (.slice (.int .u8))),[.chk (.ci .leq (.slen e) (.con (.int om))),.setR dst (.bytes e)])
   |_=>Option.none)
 |_,_,_=>Option.none
section
variable {C:Ctx} {S:St} {ρ:Env} {σ:Im} {own:Nat→Option Nat} {hv:Nat→Value} {w0:World} {σ0:Base} {A:Nat→Prop} {a:Act} {w:World} {gs:List (Nat×Bool)} {Φ:aW} {dst:Nat}
def bZ (C:Ctx)(w0:World)(σ0:Base)(Φ:aW)(S:St)(ρ:Env)(A:Nat→Prop)(a:Act)(w:World)(o:Oper)(r:St×List PI):Prop:=
 ∀ρ',PI.runs Φ r.2 ρ=some ρ'→∀(K:Act→World→Prop) (Q:Exit→Act→World→Prop),(∀a' w',Good C w0 σ0 r.1 ρ' (fun u=>A u∨o.dst=some u) a' w'→a'.tmps.size=a.tmps.size→K a' w')→o.wp C.P a w K Q
theorem size_put (a:Act)(d:Option Tmp)(v:Value):(a.put d v).tmps.size=a.tmps.size:=by
 cases d<;>simp[Act.put]
theorem bZ.value {o:Oper}{r:St×List PI}(hd:o.dst=some dst)(hx:∀ρ',PI.runs Φ r.2 ρ=some ρ'→∃v w',(execOp a.eval o).run C.P w=.ok (.value v) w'∧Good C w0 σ0 r.1 ρ' (fun u=>A u∨u=dst) (a.put (some dst) v) w'):bZ C w0 σ0 Φ S ρ A a w o r:=by
 intro ρ' ao K Q hK;obtain⟨v,w',h1,h2⟩:=hx ρ' ao;simp only[Oper.wp,h1,Oper.upon,hd];refine hK _ _ ?_ (size_put _ _ _)
 have:(fun u=>A u∨o.dst=some u)=(fun u=>A u∨u=dst):=by
  funext u;rw[hd];simp[eq_comm]
 rw[this];exact h2
theorem bZ.skip {o:Oper}{r:St×List PI}(hd:o.dst=none)(hx:∀ρ',PI.runs Φ r.2 ρ=some ρ'→∃w',(execOp a.eval o).run C.P w=.ok .skip w'∧Good C w0 σ0 r.1 ρ' A a w'):bZ C w0 σ0 Φ S ρ A a w o r:=by
 intro ρ' ao K Q hK;obtain⟨w',h1,h2⟩:=hx ρ' ao;simp only[Oper.wp,h1,Oper.upon,hd]
 have:(fun u=>A u∨o.dst=some u)=A:=by
  funext u;rw[hd];simp
 rw[this] at hK;exact hK _ _ h2 (size_put _ _ _)
theorem eK.eff (h:Inv C S ρ σ own hv w0 σ0 A a w)(ht:¬A dst)(af:dst<a.tmps.size){o:Oper}(hd:o.dst=some dst){s:Sh}{GJ:List PI}(hq:eK C S ρ σ hv Φ dst a w o (s,GJ)):bZ C w0 σ0 Φ S ρ A a w o (S.setR dst s,GJ):=by
 refine bZ.value hd fun ρ' ao=>?_;obtain⟨v,d,rfl,h1,h2,h3⟩:=hq ρ' ao;exact⟨v,w,h1,σ,own,hv,h.setReg ht (aJ.mono' (.refl σ) (.refl S hv) h3 h2) af (fun gs s' e=>absurd e (h3 gs s'))⟩
theorem eK.effG (h:Inv C S ρ σ own hv w0 σ0 A a w)(ht:¬A dst)(af:dst<a.tmps.size)(eC:∀g,g∈gs→A g.1)(hg:holds gs ρ=true){o:Oper}(hd:o.dst=some dst){s:Sh}{GJ:List PI}(hq:eK C S ρ σ hv Φ dst a w o (s,GJ)):bZ C w0 σ0 Φ S ρ A a w o (S.setR dst (.opt gs s),GJ):=by
 refine bZ.value hd fun ρ' ao=>?_;obtain⟨v,d,rfl,h1,h2,h3⟩:=hq ρ' ao;have hh:holds gs (ρ.setR dst d)=true:=by rw[FU (t:=dst) (d:=d) fun g hm e=>ht (by rw[←e];exact eC g hm)];exact hg
 refine⟨v,w,h1,σ,own,hv,h.setReg ht ⟨fun _=>aJ.mono' (.refl σ) (.refl S hv) h3 h2,fun e=>absurd (hh.symm.trans e) (by decide)⟩ af (fun bP s' e=>?_)⟩;cases e;exact⟨eC,h3⟩
theorem Inv.passed (h:Inv C S ρ σ own hv w0 σ0 A a w)(ht:¬A dst)(af:dst<a.tmps.size)(eC:∀g,g∈gs→A g.1)(hg:holds gs ρ=false){s:Sh}(hs:∀bP s',s≠.opt bP s')(d:D):Inv C (S.setR dst (.opt gs s)) (ρ.setR dst d) σ own hv w0 σ0 (fun u=>A u∨u=dst) (a.put (some dst) undef) w:=by
 have hh:holds gs (ρ.setR dst d)=false:=by rw[FU (t:=dst) (d:=d) fun g hm e=>ht (by rw[←e];exact eC g hm)];exact hg
 refine h.setReg ht (s:=.opt gs s) (v:=undef) (d:=d) ⟨fun e=>absurd (hh.symm.trans e) (by decide),fun _=>rfl⟩ af (fun bP s' e=>?_);cases e;exact⟨eC,hs⟩
theorem Inv.mkObj (h:Inv C S ρ σ own hv w0 σ0 A a w)(ht:¬A dst)(af:dst<a.tmps.size)(ob:Ob)(d:D)(v:Value)(nb:Nat→Bool){w':World}(hw:Below w.heap.size w w')(dS:∀k,nb k=true→w.heap.size≤k∧k<w'.heap.size)
 (cW:cA C (S.newO dst ob) (ρ.setO dst d) σ (fH own dst nb) (cd hv dst v) w' w0.heap.size dst ob) (qW:ob≠.tr:=by intro h;cases h):
 Good C w0 σ0 (Cx.mkObj S dst ob) ((ρ.setO dst d).setR dst .none) (fun u=>A u∨u=dst) (a.put (some dst) v) w':=by
 have h1:=h.newO dst ob d v nb hw dS cW qW;have h2:=h1.setObj ht (j:=dst) (v:=v) (aS _ _ _) af;have e:(S.newO dst ob).ver dst=S.ver dst+1:=aS _ _ _;rw[e] at h2;exact⟨_,_,_,h2⟩
theorem Inv.mkPtr (h:Inv C S ρ σ own hv w0 σ0 A a w)(ht:¬A dst)(af:dst<a.tmps.size)(ob:Ob)(d:D)(k:Nat)(nb:Nat→Bool){w':World}(hw:Below w.heap.size w w')(dS:∀k,nb k=true→w.heap.size≤k∧k<w'.heap.size)
 (cW:cA C (S.newO dst ob) (ρ.setO dst d) σ (fH own dst nb) (cd hv dst (.pointer (some ⟨k,0,none⟩))) w' w0.heap.size dst ob) (qW:ob≠.tr:=by intro h;cases h):
 Good C w0 σ0 (Cx.mkPtr S dst ob) ((ρ.setO dst d).setR dst .none) (fun u=>A u∨u=dst) (a.put (some dst) (.pointer (some ⟨k,0,none⟩))) w':=by
 have h1:=h.newO dst ob d _ nb hw dS cW qW;have e:(S.newO dst ob).ver dst=S.ver dst+1:=aS _ _ _;have h2:=h1.setReg ht (s:=.ptr dst (S.ver dst+1) 0) (v:=.pointer (some ⟨k,0,none⟩)) (d:=.none) ⟨Nat.le_of_eq e.symm,fun _=>⟨k,aS _ _ _,rfl⟩⟩ af (fun _ _ e=>by cases e);exact⟨_,_,_,h2⟩
theorem Dq {e:PE}{ρ':Env}(h:PI.runs Φ [.setO dst e,.setR dst (.con .none)] ρ=some ρ'):ρ'=(ρ.setO dst (e.ev ρ)).setR dst .none:=by
 simp[PI.runs,PI.run,PE.ev] at h;exact h.symm
theorem abJ (h:Inv C S ρ σ own hv w0 σ0 A a w){t:Ty}{v:Value}{d:D}(hr:Rep C.cap σ t v d)(ho:t.rowT=true∨t.one=true)(ag:Bool)(T:TypeId):
 cA C (S.newO dst (.box ag (t.flat.map .dat))) (ρ.setO dst (.agg d.cells)) σ (fH own dst (fun k=>Nat.beq k w.heap.size)) (cd hv dst (.pointer (some ⟨w.heap.size,0,none⟩))) (w.alloc (.cells v.cells T)) w0.heap.size dst (.box ag (t.flat.map .dat)):=by
 obtain⟨f1,f2,f3⟩:=hr.flat ho;refine⟨w.heap.size,v.cells,T,d.cells,aS _ _ _,by simp[fH],heap_alloc_new w _,by rw[hr.size];simp[f1],by simp[Env.setO,aS],by simp[f1,f2],fun i s hi=>?_⟩;simp only[ct,aC] at hi;obtain⟨ti,Tt,rfl⟩:=hi;exact⟨fun _ _ e=>(by cases e),(f3 i ti Tt).2⟩
theorem an2 (h:Inv C S ρ σ own hv w0 σ0 A a w)(hC:CtxOK C σ0)(ht:¬A dst)(af:dst<a.tmps.size){T:TypeId}{x:Operand}{r:St×List PI}(hr:EV C S dst T x=some r){o:Oper}(hd:o.dst=some dst)(ho:o.op=.assign x):bZ C w0 σ0 Φ S ρ A a w o r:=by
 unfold EV at hr;split at hr
 case h_2=>cases hr
 rename_i e0 e1 E hu hT;simp only[aC] at hr;obtain⟨e,he,rfl⟩:=hr;have hx:=cw h hC rfl hu;have cT:a.eval x=.slice none 0 0:=by
  generalize a.eval x=v at hx;generalize e1.ev ρ=d at hx;cases hx;rfl
 refine bZ.value hd fun ρ' ao=>⟨.slice none 0 0,w,by simp[execOp,ho,cT],?_⟩
 rw[Dq ao];exact h.mkObj ht af (.row E e) _ _ (fun _=>false) (.refl _ _) (by simp) ⟨[],[],by simp[Env.setO,aS,PE.ev],by rw[aS];exact World.ownsRow_nil _ _ _ _,⟨fun _=>undef,by simp,by simp⟩,by rw[aS];simp[Value.ownBlock]⟩
theorem anz (h:Inv C S ρ σ own hv w0 σ0 A a w)(ht:¬A dst)(af:dst<a.tmps.size){T:TypeId}{r:St×List PI}(hr:EL C S dst T=some r){o:Oper}(hd:o.dst=some dst)(ho:o.op=.alloc T):bZ C w0 σ0 Φ S ρ A a w o r:=by
 unfold EL at hr;split at hr
 case h_2=>cases hr
 rename_i t inf ag Tu hi ha;cases hc:(u9 inf t&&(t.rowT||t.one))<;>simp only[hc,cond_true,cond_false] at hr
 ·cases hr
 simp only[aw,lN] at hc;simp only[aC] at hr;obtain⟨z,hz,rfl⟩:=hr;obtain⟨v0,eT,Cw⟩:∃v0,inf.zero=some v0∧jV t v0=true:=by
  have:=hc.1;unfold u9 at this;split at this
  ·exact⟨_,by assumption,this⟩
  ·cases this
 obtain⟨k1,k2,k3⟩:=z8 (cap:=C.cap) (σ:=σ) hz Cw;have de:z.1.rowT=true∨z.1.one=true:=by
  rcases hc.2 with e|e
  ·left;cases t<;>simp[Ty.rowT] at e;simp[qa] at hz;obtain⟨_,_,rfl⟩:=hz;rfl
  ·right;rw[k3];exact e
 refine bZ.value hd fun ρ' ao=>⟨.pointer (some ⟨w.heap.size,0,none⟩),w.alloc (.cells v0.cells T),?_,?_⟩
 ·simp[execOp,ho,Instr.alloc,zeroValue,run_typeInfo w hi,eT,newVar,newRow]
 ·rw[Dq ao];exact h.mkPtr ht af _ _ _ (fun k=>Nat.beq k w.heap.size) ((Below.refl _ _).alloc (bn _) _) (fun k hk=>by simp at hk;simp;omega) (abJ h k1 de ag T)
theorem Compat.newO (S:St)(hv:Nat→Value)(j:Nat)(ob:Ob)(v:Value):Compat S hv (S.newO j ob) (cd hv j v):=by
 refine⟨fun i=>?_,fun i e=>?_⟩
 ·simp only[St.newO,fJ];split<;>rename_i e
  ·subst e;omega
  ·omega
 ·simp only[St.newO,fJ] at e;split at e
  ·rename_i e';subst e';omega
  ·rename_i ay;exact bM _ _ ay
theorem anD (h:Inv C S ρ σ own hv w0 σ0 A a w)(hC:CtxOK C σ0)(ht:¬A dst)(af:dst<a.tmps.size){T:TypeId}{x:Operand}{r:St×List PI}(hr:EN C S dst T x=some r){o:Oper}(hd:o.dst=some dst)(ho:o.op=.box T x):bZ C w0 σ0 Φ S ρ A a w o r:=by
 unfold EN at hr;split at hr
 case h_3=>cases hr
 case h_2=>
  rename_i hu ha;split at hr
  case h_2=>cases hr
  rename_i l oa;cases hr;have mK:=(uZ h (gs:=[]) rfl x).1;rw[oa] at mK;obtain⟨vs,ds,e1,e2,e3,e4,e5⟩:=mK;refine bZ.value hd fun ρ' ao=>⟨.pointer (some ⟨w.heap.size,0,none⟩),w.alloc (.cells (a.eval x).cells T),?_,?_⟩
  ·simp[execOp,ho,Instr.box,newVar,newRow]
  ·rw[Dq ao,e2];refine h.mkPtr ht af _ _ _ (fun k=>Nat.beq k w.heap.size) ((Below.refl _ _).alloc (bn _) _) (fun k hk=>by simp at hk;simp;omega) ⟨w.heap.size,(a.eval x).cells,T,ds,aS _ _ _,by simp[fH],heap_alloc_new w _,by rw[e1];simp[Value.cells,e3],by simp[Env.setO,aS],by simp[e4],fun i s hi=>?_⟩;simp only[ct,aC] at hi;obtain⟨c,hc,rfl⟩:=hi;have bN:(a.eval x).cells.getD i undef=vs.getD i undef:=by rw[e1];simp[Value.cells,aI,gG]
   have h6:=(e5 i c hc).monoR (Im.le.leR (.refl σ)) (Compat.newO S hv dst (.box true (l.map AgC.sh)) (.pointer (some ⟨w.heap.size,0,none⟩)));rw[bN];cases c with
   |dat t=>exact⟨fun _ _ e=>(by cases e),h6.2⟩
   |obj j ver=>exact⟨fun _ _ e=>(by cases e),h6⟩
 rename_i t e ag hu ha;cases hc:(t.rowT||t.one)<;>simp only[hc,cond_true,cond_false] at hr
 ·cases hr
 cases hr;simp only[lN] at hc;have hx:=cw h hC rfl hu;refine bZ.value hd fun ρ' ao=>⟨.pointer (some ⟨w.heap.size,0,none⟩),w.alloc (.cells (a.eval x).cells T),?_,?_⟩
 ·simp[execOp,ho,Instr.box,newVar,newRow]
 ·rw[Dq ao];have:(PE.mk [e]).ev ρ=.agg (e.ev ρ).cells:=by simp[PE.ev,PE.evc]
  rw[this];exact h.mkPtr ht af _ _ _ (fun k=>Nat.beq k w.heap.size) ((Below.refl _ _).alloc (bn _) _) (fun k hk=>by simp at hk;simp;omega) (abJ h hx hc ag T)
theorem anW (h:Inv C S ρ σ own hv w0 σ0 A a w)(ht:¬A dst)(af:dst<a.tmps.size){T:TypeId}{m:Option Operand}{r:St×List PI}(hr:ES C S dst T m=some r){o:Oper}(hd:o.dst=some dst)(ho:o.op=.makeMap T m):bZ C w0 σ0 Φ S ρ A a w o r:=by
 unfold ES at hr;split at hr
 case h_2=>cases hr
 rename_i K E hT;simp only[aA,aC] at hr;obtain⟨kt,hk,et,he,rfl⟩:=hr;refine bZ.value hd fun ρ' ao=>⟨.map (some w.heap.size),w.alloc (.map #[] 0),?_,?_⟩
 ·simp[execOp,ho,Instr.makeMap]
 ·rw[Dq ao]
  exact h.mkObj ht af (.mp kt et) _ _ (fun k=>Nat.beq k w.heap.size) ((Below.refl _ _).alloc (bn _) _) (fun k hk=>by simp at hk;simp;omega)
   ⟨w.heap.size,#[],0,[],aS _ _ _,by simp[fH],heap_alloc_new w _,by simp[Env.setO,aS,PE.ev],rfl,⟨by simp,by simp[nm]⟩,by simp⟩
theorem an4 (h:Inv C S ρ σ own hv w0 σ0 A a w)(ht:¬A dst)(af:dst<a.tmps.size){T:TypeId}{x:Operand}{r:St×List PI}(hr:EW C S dst T x=some r){o:Oper}(hd:o.dst=some dst)(ho:o.op=.range T x):bZ C w0 σ0 Φ S ρ A a w o r:=by
 unfold EW at hr;split at hr
 case h_2=>cases hr
 rename_i K E j ver hT es;obtain⟨dU,_⟩:=uZ h (gs:=[]) rfl x;rw[es] at dU;cases hb:(Nat.beq ver (S.ver j)&& !Nat.beq j dst)<;>simp only[hb,cond_true,cond_false] at hr
 ·cases hr
 simp only[aw,mi] at hb;have cT:=dU.2 (aD hb.1);have ay:j≠dst:=fun e=>by subst e;simp at hb
 have bt:=h.objs j;split at hr
 case h_2=>cases hr
 rename_i kt et eo;cases hr;rw[eo] at bt;obtain⟨m,arr,clock,ds,h1,h2,h3,h4,h5,⟨h6,sv⟩,h7⟩:=bt;have sG:=h.mv ay (by rw[eo];rfl);have qU:m<w.heap.size:=(ei.1 h3).1;have SF:w0.heap.size≤m:=(h.owns m j h2).1;refine bZ.value hd fun ρ' ao=>⟨.pointer (some ⟨w.heap.size,0,none⟩),w.alloc (.mapIter (some m) clock #[] clock),?_,?_⟩
 ·simp[execOp,ho,Instr.range,cT,h1,run_underlying hT,getObj,Sem.run,h3]
 have hρ:ρ'=((ρ.setO dst (.tup [.list [],.map ds])).setR dst .none):=by
  simp[PI.runs,PI.run,PE.ev,PE.evs,h4] at ao;exact ao.symm
 subst hρ;have eB:Below w.heap.size w (w.alloc (.mapIter (some m) clock #[] clock)):=(Below.refl _ _).alloc (bn _) _;have yS:=sG.step (S':=(S.mv j dst).newO dst (.it kt et)) (ρ':=(ρ.setO dst (.tup [.list [],.map ds]))) (σ':=σ) (hv':=cd (cd hv dst (hv j)) dst (.pointer (some ⟨w.heap.size,0,none⟩)))
  (own':=fun k=>if k=w.heap.size then some dst else(if own k=some j then some dst else if own k=some dst then none else own k)) (a':=a) (A':=A) (w':=w.alloc (.mapIter (some m) clock #[] clock)) (fun i=>i=dst)
  rfl (.refl σ) (h.ok.below eB) (fun _ _ _ hx=>.inl hx) (fun _ _ hx=>.inl hx) (eB.mono h.below.size) ⟨fun i=>?_,fun i e=>?_⟩ (fun i hi=>⟨?_,?_,?_,fun k hk=>⟨?_,?_⟩⟩) (fun i hi=>?_) (fun k i hk=>?_) (fun _=>id) (fun t=>.inl ⟨rfl,rfl,rfl⟩) (fun _ _=>rfl) (fun k hk _=>eB.block k hk) (fun k i hk=>?_) (fun i hi=>by subst hi;simp[St.newO,aS])
 ·have iP:=yS.setObj ht (j:=dst) (v:=.pointer (some ⟨w.heap.size,0,none⟩)) (aS _ _ _) af;have e:((S.mv j dst).newO dst (.it kt et)).ver dst=(S.mv j dst).ver dst+1:=aS _ _ _;rw[e] at iP;exact⟨_,_,_,iP⟩
 ·simp only[St.newO,fJ];split<;>rename_i e
  ·subst e;omega
  ·omega
 ·simp only[St.newO,fJ] at e;split at e
  ·rename_i e';subst e';omega
  ·rename_i SO;exact bM _ _ SO
 ·simp[St.newO,bM _ _ hi]
 ·simp[Env.setO,bM _ _ hi]
 ·exact bM _ _ hi
 ·have aHr:=(sG.owns k i hk).2.1;have bp:k≠w.heap.size:=by omega
  simp only[if_neg bp];exact hk
 ·exact eB.block k (sG.owns k i hk).2.1
 ·subst hi;simp only[St.newO,aS];have fE:m≠w.heap.size:=by omega
  refine⟨w.heap.size,m,arr,clock,ds,[],aS _ _ _,by simp,by simp[fE,h2],by omega,?_,heap_alloc_new w _,by simp[Env.setO,aS,hZ],List.nodup_nil,by simp,h5,sv,h7⟩;rw[eB.block m qU];exact h3
 ·split at hk
  ·rename_i e;subst e;refine⟨h.below.size,by simp,fun o=>?_,?_⟩
   ·cases hc:σ.c w.heap.size o with
    |none=>rfl
    |some u=>have:=h.lt hc;omega
   ·cases hc:σ.m w.heap.size with
    |none=>rfl
    |some u=>have:=h.ltm hc;omega
  ·obtain⟨g1,g2,g3,g4⟩:=sG.owns k i hk;exact⟨g1,by simp;omega,g3,g4⟩
 ·split at hk
  ·rename_i e;subst e;exact .inr (bn _)
  ·exact .inl ⟨i,hk⟩
theorem anH (h:Inv C S ρ σ own hv w0 σ0 A a w)(hC:CtxOK C σ0)(ht:¬A dst)(af:dst<a.tmps.size){T U:TypeId}{x:Operand}{r:St×List PI}(hr:EO C S dst T U x=some r){o:Oper}(hd:o.dst=some dst)(ho:o.op=.convert T U x):bZ C w0 σ0 Φ S ρ A a w o r:=by
 unfold EO at hr;split at hr
 case h_2=>cases hr
 rename_i e E hu hT hU;split at hr
 case h_2=>cases hr
 rename_i hE;cases hr;have hx:=cw h hC rfl hu;obtain⟨s,aL,bB,hs⟩:=hx.str_inv;have sN:=Lib.run_convert_string_bytes (P:=C.P) w T U E s hT hU hE;refine bZ.value hd fun ρ' ao=>⟨.slice (some ⟨w.heap.size,0,none⟩) s.size (grownCap w s.size 0 E),Lib.bytesWorld w E s,by simp[execOp,ho,aL,sN],?_⟩
 simp only[PI.runs,PI.run,aA] at ao;obtain⟨ρ1,g1,ρ2,g2,g3⟩:=ao;cases c1:((PE.ci BinOp.leq (.slen e) (.con (.int om))).ev ρ).b<;>simp only[c1,cond_true,cond_false] at g1
 ·cases g1
 cases g1;cases g2;cases g3;have arO:s.size≤4294967296:=by
  simp[PE.ev,bB,D.s,D.i,D.b,jD,D.int,om] at c1;omega
 have eB:Below w.heap.size w (Lib.bytesWorld w E s):=⟨rfl,rfl,rfl,by rw[Lib.bytesWorld_size];omega,fun k hk=>Lib.bytesWorld_at_old w E s k hk⟩
 have aP:(Lib.bytesWorld w E s).heap.size=w.heap.size+1:=Lib.bytesWorld_size w E s
 let σ':Im:={c:=fun k i=>if k=w.heap.size then(if i<s.size then some (.int .u8 (s.data.toList.getD i 0).toNat) else none) else σ.c k i,m:=σ.m}
 have hle:σ.le σ':=by
  refine⟨fun k o v hc=>?_,fun k es hc=>hc⟩;have:k≠w.heap.size:=by have:=h.lt hc;omega
  simp[σ',this,hc]
 have ax:σ'.ok (Lib.bytesWorld w E s):=by
  refine⟨fun k i v hc=>?_,(h.ok.below eB).m,fun k i v hc=>?_⟩
  all_goals simp only[σ'] at hc
  all_goals split at hc
  ·rename_i ek;subst ek;split at hc
   ·rename_i hi;cases hc;exact Lib.bytesWorld_cell w E s i hi
   ·cases hc
  ·exact(h.ok.below eB).c k i v hc
  ·split at hc<;>cases hc
  ·exact(h.ok.below eB).f k i v hc
 have h1:=h.step (S':=S) (ρ':=ρ) (σ':=σ') (own':=own) (hv':=hv) (A':=A) (a':=a) (w':=Lib.bytesWorld w E s) (fun _=>False) rfl hle ax (fun k i v hc=>?_) (fun k es hc=>.inl hc) (eB.mono h.below.size) ⟨fun _=>bn _,fun _ _=>rfl⟩
  (fun j _=>⟨rfl,rfl,rfl,fun k hk=>⟨hk,eB.block k (h.owns k j hk).2.1⟩⟩) (fun j hj=>hj.elim) (fun k j hk=>?_) (fun _=>id) (fun t=>.inl ⟨rfl,rfl,rfl⟩) (fun _ _=>rfl) (fun k hk _=>eB.block k hk) (fun k i hk=>.inl ⟨i,hk⟩) (fun _ hf=>hf.elim)
 ·refine⟨_,_,_,h1.setReg ht (s:=.dat (.slice (.int .u8))) ?_ af (fun _ _ e=>by cases e)⟩;show Rep C.cap σ' _ _ _;simp only[PE.ev,bB,D.s];refine .slice (.int .u8) w.heap.size 0 s.size _ _ (fun i=>.int .u8 (s.data.toList.getD i 0).toNat) (by simp) (grownCap_ge w s.size 0 E) (grownCap_le_maxLen w s.size 0 E (by unfold maxLen;omega)) (fun i x hx=>?_) (fun i j u hi hu=>?_) (fun e=>by cases e)
  ·simp only[ct,aC] at hx;obtain⟨b,hb,rfl⟩:=hx;have:s.data.toList.getD i 0=b:=by simp[aI,hb]
   rw[this];have:=b.toNat_lt;exact .int .u8 _ (by show(0:Int)≤_;omega) (by show _≤(255:Int);omega)
  ·have hj:j=0:=by
        have:=(ei.1 hu).1;simp[Value.cells] at this;exact this
   subst hj;simp[Value.cells] at hu;subst hu;simp[σ',Ty.size,hi]
 ·simp only[σ'] at hc;split at hc
  ·rename_i ek;exact .inr ⟨by have:=h.below.size;omega,.inr (by omega)⟩
  ·exact .inl hc
 ·obtain⟨g1,g2,g3,g4⟩:=h.owns k j hk;refine⟨g1,by omega,fun i=>?_,g4⟩;have:k≠w.heap.size:=by omega
  simp[σ',this,g3 i]
end
end Cx
namespace Cx
open Go Go.RowKit
def K6 (C:Ctx)(S:St)(gs:List (Nat×Bool))(e:Ty)(z:D)(parts:List (Nat×Operand))(i:Nat):Option PE:=
 match parts.find? (fun p=>Nat.beq p.1 i) with
 |some p=>(use C S gs p.2).bind fun a=>bif Ty.sub a.1 e then some a.2 else Option.none
 |Option.none=>some (PE.con z)
def yc (C:Ctx)(S:St)(gs:List (Nat×Bool))(dst:Nat)(T:TypeId)(len:Nat)(parts:List (Nat×Operand)):kT:=
 match C.P.underlying T with
 |some (.slice E)=>
  (p9 C.P E).bind fun e=>(qa e).bind fun z=>
    bif sk C.P E e&&Ty.sub z.1 e&&kf (parts.map (·.1))&&parts.all (fun p=>Nat.blt p.1 len)&&Nat.ble (len*e.size) 16777216 then
     ((List.range len).mapM (K6 C S gs e z.2 parts)).map fun es=>(mkObj S dst (.row E e),[.setO dst (.lst es),.setR dst (.con .none)])
    else Option.none
 |_=>Option.none
def BJ (C:Ctx)(S:St)(gs:List (Nat×Bool))(dst:Nat)(T:TypeId)(len:Nat)(parts:List (Nat×Operand)):kT:=
 match C.P.underlying T,yc C S gs dst T len parts with
 |some (.slice E),some r=>
  (p9 C.P E).bind fun e=>
    match r.2 with
    |.setO _ x::_=>some ((S.newO dst .dead).setR dst (match gs with|[]=>.dat (.slice e.rol)|_=>.opt gs (.dat (.slice e.rol))),[.setR dst x])
    |_=>Option.none
 |_,_=>Option.none
def EX (C:Ctx)(S:St)(T:TypeId)(x v:Operand):kT:=
 match C.P.info? T with
 |some inf=>
  match gD S [] x with
  |.ptr j ver off=>
   bif Nat.beq ver (S.ver j) then
    match S.o j with
    |.box ag shs=>
     match use C S [] v with
     |some (t,e)=>
      bif Nat.beq inf.size t.size&&(t.rowT||t.one)&&Nat.ble (off+t.size) shs.length then
             some (S.setO j (.box ag (shs.take off++t.flat.map .dat++shs.drop (off+t.size))),[.setO j (.setc (.o j) off e)])
      else Option.none
     |Option.none=>
      match gD S [] v with
      |.obj j' tA=>
       bif Nat.beq tA (S.ver j')&&pA (S.o j')&&Nat.beq inf.size 1&&Nat.blt off shs.length then
              some (S.setO j (.box ag (shs.set off (.obj j' tA))),[.setO j (.setc (.o j) off (.con .none))])
       else Option.none
      |_=>Option.none
    |_=>Option.none
   else Option.none
  |.eptr j ver size off=>
   bif Nat.beq ver (S.ver j) then
    match S.o j,use C S [] v with
    |.row _ (.agg ts),some (t,e)=>
     bif Nat.beq inf.size t.size&&(t.rowT||t.one)&&Nat.beq size ts.length&&Nat.ble (off+t.size) ts.length&&Ty.subs t.flat ((ts.drop off).take t.size) then
         some (S,[.setO j (.setn (.o j) (tn x) off e)])
     else Option.none
    |.row _ e0,some (t,e)=>
     bif Nat.beq inf.size 1&&Nat.beq size 1&&Nat.beq off 0&&e0.one&&Ty.sub t e0 then some (S,[.setO j (.setn (.o j) (tn x) 0 e)]) else Option.none
    |_,_=>Option.none
   else Option.none
  |_=>Option.none
 |Option.none=>Option.none
def BK (C:Ctx)(S:St)(T:TypeId)(m k v:Operand):kT:=
 match C.P.underlying T,gD S [] m with
 |some (.map K _),.obj j ver=>
  bif Nat.beq ver (S.ver j) then
   match S.o j,use C S [] k,use C S [] v with
   |.mp kt et,some (tk,ek),some (tv,ev)=>
    bif Ty.beq tk kt&&wg C.P K kt&&Ty.sub tv et then some (S,[.chk (.ci .lss (.mlen (.o j)) (.con (.int om))),.setO j (.put (.o j) ek ev)]) else Option.none
   |_,_,_=>Option.none
  else Option.none
 |_,_=>Option.none
def Mr (x y:PE):PE:=.ci .leq (.llen (.app x y)) (.con (.int om))
def OP:Ty→Ty→Bool
 |.slice e',e=>Ty.beq e'.unf e
 |.nils _,_=>true
 |_,_=>false
def EM (C:Ctx)(S:St)(dst:Nat)(T:TypeId)(s x:Operand):kT:=
 match C.P.underlying T with
 |some (.slice E)=>
  (p9 C.P E).bind fun e=>
    match view C S [] x with
    |some (tx,ex)=>
     bif sk C.P E e&&OP tx e then
        match use C S [] s with
        |some (.nils _,_)=>some (mkObj S dst (.row E e),[.chk (Mr (.con (.list [])) ex),.setO dst (.app (.con (.list [])) ex),.setR dst (.con .none)])
        |some _=>Option.none
        |Option.none=>
         match gD S [] s with
         |.obj j ver=>
          bif Nat.beq ver (S.ver j) then
             match S.o j with
             |.row E' e'=>
              bif Nat.beq E' E&&Ty.beq e' e then
                some ((S.newO j (.row E e)).setR dst (.obj j (S.ver j+1)),[.chk (Mr (.o j) ex),.setO j (.app (.o j) ex),.setR dst (.con .none)])
              else Option.none
             |_=>Option.none
          else Option.none
         |_=>Option.none
     else Option.none
    |Option.none=>Option.none
 |_=>Option.none
theorem Rv {P:Program}{T:TypeId}{e:Ty}(h:sk P T e=true):∃inf z,P.info? T=some inf∧inf.size=e.size∧inf.bytes≤y9∧1≤e.size∧inf.zero=some z∧jV e z=true:=by
 unfold sk at h;split at h
 ·rename_i i hi;simp only[aw] at h;have h4:=h.2;unfold u9 at h4;split at h4
  ·rename_i z hz;exact⟨i,z,hi,aD h.1.1.1,lQ h.1.1.2,lQ h.1.2,hz,h4⟩
  ·cases h4
 ·cases h
theorem aaB {e:Ty}{z:Value}(h:jV e z=true):z.cells.size=e.size:=by
 cases e with
 |agg ts=>
  cases z with
  |agg vs=>simp only[jV] at h;have:=(aaC ts vs.toList h).1;simpa [Value.cells,Ty.size] using this
  |_=>simp[jV] at h
 |_=>cases z<;>simp_all [jV,z7,Value.cells,Ty.size]
theorem amF {ρ:Env}{x y:PE}(h:((PE.ci .lss x y).ev ρ).b=true):(x.ev ρ).i<(y.ev ρ).i:=by
 simpa [PE.ev,D.b_bool,jD] using h
theorem abX {ρ:Env}{x y:PE}(h:((PE.ci .leq x y).ev ρ).b=true):(x.ev ρ).i≤(y.ev ρ).i:=by
 simpa [PE.ev,D.b_bool,jD] using h
theorem atV {n:Nat}(h:(n:Int)<om):n<4294967296:=by unfold om at h;omega
theorem afr {n:Nat}(h:(n:Int)≤om):n≤4294967296:=by unfold om at h;omega
theorem St.setO_self {S:St}{j:Nat}{ob:Ob}(h:S.o j=ob):S.setO j ob=S:=by
 have:cd S.o j ob=S.o:=by
  funext i;rw[fJ];split
  ·rename_i e;subst e;exact h.symm
  ·rfl
 cases S;simp only[St.setO] at this ⊢;rw[this]
section
variable {C:Ctx} {S:St} {ρ:Env} {σ:Im} {own:Nat→Option Nat} {hv:Nat→Value} {w0:World} {σ0:Base} {A:Nat→Prop} {a:Act} {w:World} {gs:List (Nat×Bool)} {Φ:aW} {dst:Nat}
theorem Inv.updO (h:Inv C S ρ σ own hv w0 σ0 A a w)(j:Nat)(ob:Ob)(d:D)(v:Value)(nb:Nat→Bool){w':World}(hw:Below w0.heap.size w w')
 (qQ:∀k,k<w.heap.size→own k≠some j→w'.heap[k]?=w.heap[k]?) (dS:∀k,nb k=true→(own k=some j∨w.heap.size≤k)∧k<w'.heap.size)
 (cW:cA C (S.newO j ob) (ρ.setO j d) σ (fH own j nb) (cd hv j v) w' w0.heap.size j ob) (qW:ob≠.tr:=by intro h;cases h):Inv C (S.newO j ob) (ρ.setO j d) σ (fH own j nb) (cd hv j v) w0 σ0 A a w':=by
 have aP:w0.heap.size≤w.heap.size:=h.below.size;have bC:∀k i,i≠j→own k=some i→fH own j nb k=some i:=by
  intro k i hi hk;have h1:=h.owns k i hk;have h2:nb k=false:=by
   cases hn:nb k with
   |false=>rfl
   |true=>
    rcases(dS k hn).1 with e|e
    ·rw[hk] at e;simp at e;exact absurd e hi
    ·omega
  simp[fH,h2,hk,hi]
 have ax:σ.ok w':=by
  refine⟨fun k o u hc=>?_,fun k es hc=>?_,h.ok.fz fun k o v hc=>qQ k (h.lt hc) fun e=>by rw[(h.owns k j e).2.2.1 o] at hc;cases hc⟩
  ·have ay:own k≠some j:=fun e=>by rw[(h.owns k j e).2.2.1 o] at hc;cases hc
   rw[World.cell?_of_block (qQ k (h.lt hc) ay)];exact h.ok.c k o u hc
  ·have ay:own k≠some j:=fun e=>by rw[(h.owns k j e).2.2.2] at hc;cases hc
   exact(h.ok.m k es hc).keep (qQ k (h.ltm hc) ay)
 refine h.step (fun i=>i=j) rfl (.refl σ) ax (fun _ _ _ hx=>.inl hx) (fun _ _ hx=>.inl hx) hw ⟨fun i=>?_,fun i e=>?_⟩ (fun i hi=>⟨?_,?_,?_,fun k hk=>⟨bC k i hi hk,?_⟩⟩) (fun i hi=>?_) (fun k i hk=>?_) (fun _=>id) (fun t=>.inl ⟨rfl,rfl,rfl⟩) (fun _ _=>rfl) (fun k hk e=>qQ k hk (by rw[e];simp)) (fun k i hk=>by
  unfold fH at hk;split at hk
  ·rename_i hn;rcases(dS k hn).1 with e|e
   ·exact .inl ⟨j,e⟩
   ·exact .inr e
  ·split at hk
   ·cases hk
   ·exact .inl ⟨i,hk⟩) (fun i hi=>by subst hi;simpa only[St.newO,aS] using qW)
 ·simp only[St.newO,fJ];split<;>rename_i e
  ·subst e;omega
  ·omega
 ·simp only[St.newO,fJ] at e;split at e
  ·rename_i e';subst e';omega
  ·rename_i ay;exact bM _ _ ay
 ·simp[St.newO,bM _ _ hi]
 ·simp[Env.setO,bM _ _ hi]
 ·exact bM _ _ hi
 ·exact qQ k (h.owns k i hk).2.1 (by rw[hk];simpa using hi)
 ·subst hi;simp only[St.newO,aS];exact cW
 ·unfold fH at hk;split at hk
  ·rename_i hn;obtain⟨g1,g2⟩:=dS k hn;rcases g1 with e|e
   ·obtain⟨f1,f2,f3,f4⟩:=h.owns k j e;exact⟨f1,g2,f3,f4⟩
   ·refine⟨by omega,g2,fun o=>?_,?_⟩
    ·cases hc:σ.c k o with
     |none=>rfl
     |some u=>have:=h.lt hc;omega
    ·cases hc:σ.m k with
     |none=>rfl
     |some u=>have:=h.ltm hc;omega
  ·split at hk
   ·cases hk
   ·obtain⟨g1,g2,g3,g4⟩:=h.owns k i hk;exact⟨g1,by have:=hw.size;omega,g3,g4⟩
theorem Inv.updB (h:Inv C S ρ σ own hv w0 σ0 A a w)(j:Nat)(ob:Ob)(d:D){w':World}(hw:Below w0.heap.size w w')
 (qQ:∀k,k<w.heap.size→own k≠some j→w'.heap[k]?=w.heap[k]?)
 (cW:cA C (S.setO j ob) (ρ.setO j d) σ own hv w' w0.heap.size j ob) (qW:ob≠.tr:=by intro h;cases h):Inv C (S.setO j ob) (ρ.setO j d) σ own hv w0 σ0 A a w':=by
 have ax:σ.ok w':=by
  refine⟨fun k o u hc=>?_,fun k es hc=>?_,h.ok.fz fun k o v hc=>qQ k (h.lt hc) fun e=>by rw[(h.owns k j e).2.2.1 o] at hc;cases hc⟩
  ·have ay:own k≠some j:=fun e=>by rw[(h.owns k j e).2.2.1 o] at hc;cases hc
   rw[World.cell?_of_block (qQ k (h.lt hc) ay)];exact h.ok.c k o u hc
  ·have ay:own k≠some j:=fun e=>by rw[(h.owns k j e).2.2.2] at hc;cases hc
   exact(h.ok.m k es hc).keep (qQ k (h.ltm hc) ay)
 refine h.step (fun i=>i=j) rfl (.refl σ) ax (fun _ _ _ hx=>.inl hx) (fun _ _ hx=>.inl hx) hw (Compat.setO _ _ _ _) (fun i hi=>⟨by simp[St.setO,bM _ _ hi],by simp[Env.setO,bM _ _ hi],rfl,fun k hk=>⟨hk,qQ k (h.owns k i hk).2.1 (by rw[hk];simpa using hi)⟩⟩) (fun i hi=>?_) (fun k i hk=>?_) (fun _=>id) (fun t=>.inl ⟨rfl,rfl,rfl⟩) (fun _ _=>rfl) (fun k hk e=>qQ k hk (by rw[e];simp)) (fun k i hk=>.inl ⟨i,hk⟩) (fun i hi=>by subst hi;rw[St.setO_o];exact qW)
 ·subst hi;rw[St.setO_o];exact cW
 ·obtain⟨g1,g2,g3,g4⟩:=h.owns k i hk;exact⟨g1,by have:=hw.size;omega,g3,g4⟩
theorem acY {B:Nat}{w w':World}{row:Option Nat}(hg:w.grownBy w' row)(hB:B≤w.heap.size)(hr:∀k,row=some k→B≤k):Below B w w':=(Below.refl B w).grown hg hB hr
theorem afI {z:Array Value}{n i q:Nat}(hz:0<z.size)(hi:i<n)(hq:q<z.size):(madeCells z (n*z.size))[i*z.size+q]?=z[q]?:=by
 have af:i*z.size+q<n*z.size:=by
  have:(i+1)*z.size≤n*z.size:=ff _ hi;rw[gI] at this;omega
 have hm:(i*z.size+q)%z.size=q:=by rw[Nat.add_comm,alc,DW hq]
 simp[madeCells,Array.getElem?_range,af,hm,hq]
theorem anY (h:Inv C S ρ σ own hv w0 σ0 A a w)(hC:CtxOK C σ0)(ht:¬A dst)(af:dst<a.tmps.size){T:TypeId}{l c:Operand}{r:St×List PI}(hr:ET C S dst T l c=some r){o:Oper}(hd:o.dst=some dst)(ho:o.op=.makeSlice T l c):bZ C w0 σ0 Φ S ρ A a w o r:=by
 unfold ET at hr;split at hr
 case h_2=>cases hr
 rename_i E k1 n k2 m hT hl hc;simp only[aA] at hr;obtain⟨e,he,hr⟩:=hr;cases hf:sk C.P E e<;>simp only[hf,cond_true,cond_false] at hr
 ·cases hr
 obtain⟨inf,z0,hi,hs,hb,h1,hz,mN⟩:=Rv hf;simp only[aA] at hr;obtain⟨z,hzt,hr⟩:=hr;cases cM:Ty.sub z.1 e<;>simp only[cM,cond_true,cond_false] at hr
 ·cases hr
 cases hr;obtain⟨n1,aL,bB,b1,b2⟩:=(cw h hC rfl hl).int_inv;obtain⟨n2,gq,dR,b3,b4⟩:=(cw h hC rfl hc).int_inv;simp only at bB dR;have Ge:=((z8 (cap:=C.cap) (σ:=σ) hzt mN).1).sub cM;refine bZ.value hd fun ρ' ao=>?_;simp only[PI.runs,PI.run,aA] at ao;obtain⟨ρ1,g1,ρ2,g2,ao⟩:=ao;cases c1:((TY n).ev ρ).b<;>simp only[c1,cond_true,cond_false] at g1
 ·cases g1
 cases g1;cases c2:((PE.ci BinOp.eql n m).ev ρ).b<;>simp only[c2,cond_true,cond_false] at g2
 ·cases g2
 cases g2;have ar1:n1=n2:=by simpa [PE.ev,bB,dR,D.i_int,D.b_bool,jD] using c2
 subst ar1;have hb:0≤n1∧n1≤om:=by simpa [TY,PE.ev,bB,D.i_int,D.b_bool,jD,D.int] using c1
 obtain⟨nn,rfl⟩:=lO hb.1;have FP:nn≤4294967296:=by have:=hb.2;unfold om at this;omega
 have mO:z0.cells.size=e.size:=aaB mN;obtain⟨w',r1,r2,r3⟩:=run_make_full (P:=C.P) w w0.heap.size T E inf z0 e.size hT hi hz hs k1 k2 nn (by
  have:inf.bytes*nn≤y9*4294967296:=rV (by assumption) FP;unfold y9 at this;omega) (by unfold maxLen;omega) h.below.size
 refine⟨.slice (some ⟨w.heap.size,0,none⟩) nn nn,w',by simp[execOp,ho,aL,gq,r1],?_⟩;obtain⟨ρ3,g3,ρ4,g4,g5⟩:=ao;cases g3;cases g4;cases g5;simp only[PE.ev,bB,D.i_int,vb];have hlen:(List.replicate nn z.2).length=nn:=by simp
 refine h.mkObj ht af (.row E e) _ _ (fun k=>Nat.beq k w.heap.size) (acY r3 (bn _) (by simp)) (fun k hk=>?_) ⟨_,List.replicate nn z.2,by simp[Env.setO,aS],by rw[aS,hlen];exact r2,⟨fun _=>z0,fun i x hx=>?_,fun i j u hi hj=>?_⟩,fun k hk=>?_⟩
 ·have bp:k=w.heap.size:=aD hk;have:=(r2.lt _ rfl).2;subst bp;exact⟨bn _,this⟩
 ·have:=(fe.1 hx)
  obtain⟨q1,q2⟩:=this;simp at q2;subst q2;exact Ge
 ·rw[hlen] at hi;have bK:j<z0.cells.size:=(ei.1 hj).1;rw[qe,←mO];rw[afI (by omega) hi bK];exact hj
 ·rw[aS] at hk;simp[Value.ownBlock] at hk;simp[fH,hk]
theorem nm.push {arr:Array MapEntry}{clock:Nat}(h:nm arr clock)(k v:Value):nm (arr.push {key:=k,val:=v,born:=clock}) (clock+1):=by
 have key:∀(i:Nat) (e:MapEntry),(arr.push {key:=k,val:=v,born:=clock})[i]?=some e→(arr[i]?=some e∧e.born<clock)∨(i=arr.size∧e.born=clock):=by
  intro i e he;rw[Array.getElem?_push] at he;split at he
  ·rename_i hi;cases he;exact .inr ⟨hi,rfl⟩
  ·exact .inl ⟨he,h.1 i e he⟩
 refine⟨fun i e he=>?_,fun i j e f he hf hb=>?_⟩
 ·rcases key i e he with⟨_,h1⟩|⟨_,h1⟩<;>omega
 ·rcases key i e he with⟨h1,h2⟩|⟨h1,h2⟩<;>rcases key j f hf with⟨h3,h4⟩|⟨h3,h4⟩
  ·exact h.2 i j e f h1 h3 hb
  ·omega
  ·omega
  ·omega
theorem nm.modify {arr:Array MapEntry}{clock:Nat}(h:nm arr clock)(i0:Nat)(k v:Value):nm (arr.modify i0 fun e=>{e with key:=k,val:=v}) clock:=by
 have key:∀(i:Nat) (e:MapEntry),(arr.modify i0 fun e=>{e with key:=k,val:=v})[i]?=some e→∃e',arr[i]?=some e'∧e'.born=e.born:=by
  intro i e he;rw[Pp] at he;split at he
  ·simp only[aC] at he;obtain⟨e',h1,rfl⟩:=he;exact⟨e',h1,rfl⟩
  ·exact⟨e,he,rfl⟩
 refine⟨fun i e he=>?_,fun i j e f he hf hb=>?_⟩
 ·obtain⟨e',h1,h2⟩:=key i e he;rw[←h2];exact h.1 i e' h1
 ·obtain⟨e',h1,h2⟩:=key i e he;obtain⟨f',h3,h4⟩:=key j f hf;exact h.2 i j e' f' h1 h3 (by rw[h2,h4,hb])
theorem acq (h:Inv C S ρ σ own hv w0 σ0 A a w)(hC:CtxOK C σ0){T:TypeId}{m k v:Operand}{r:St×List PI}(hr:BK C S T m k v=some r){o:Oper}(hd:o.dst=none)(ho:o.op=.mapUpdate T m k v∨o.op=.insert T m k v):bZ C w0 σ0 Φ S ρ A a w o r:=by
 unfold BK at hr;split at hr
 case h_2=>cases hr
 rename_i K E j ver hT es;obtain⟨dU,_⟩:=uZ h (gs:=[]) rfl m;rw[es] at dU;cases hb:Nat.beq ver (S.ver j)<;>simp only[hb,cond_true,cond_false] at hr
 ·cases hr
 have cT:=dU.2 (aD hb);have bt:=h.objs j;split at hr
 case h_2=>cases hr
 rename_i kt et tk ek tv ev eo hk yW;rw[eo] at bt;cases hc:(Ty.beq tk kt&&wg C.P K kt&&Ty.sub tv et)<;>simp only[hc,cond_true,cond_false] at hr
 ·cases hr
 cases hr;simp only[aw] at hc;obtain⟨⟨LU,FG⟩,cM⟩:=hc;obtain⟨g,arr,clock,ds,h1,h2,h3,h4,h5,⟨h6,sv⟩,h7⟩:=bt;have bp:=cw h hC rfl hk;rw[Ty.beq_eq _ _ LU] at bp;have hv':=(cw h hC rfl yW).sub cM;refine bZ.skip hd fun ρ' ao=>?_;simp only[PI.runs,PI.run,aA] at ao;obtain⟨ρ1,g1,ρ2,g2,g3⟩:=ao;cases c1:((PE.ci BinOp.lss (.mlen (.o j)) (.con (.int om))).ev ρ).b<;>simp only[c1,cond_true,cond_false] at g1
 ·cases g1
 cases g1;cases g2;cases g3;have arO:ds.length<4294967296:=by
  have h8:=amF c1;simp only[PE.ev,h4,D.m,D.i_int,D.int] at h8;exact atV h8
 have lb:(Instr.checkKey false 10000 K (a.eval k)).run C.P w=.ok () w:=abW (cap:=C.cap) (σ:=σ) FG bp;have j9:∃vk BC ds',(Instr.mapUpdate T (a.eval m) (a.eval k) (a.eval v)).run C.P w=.ok () {w with heap:=w.heap.setIfInBounds g (.map vk BC)}∧fT (ek.ev ρ) (ev.ev ρ) ds=ds'∧ds'.length=vk.size∧(ds'.length≤maxLen∧nm vk BC)∧
  ∀(i:Nat) (e:MapEntry) (p:D×D),vk[i]?=some e→ds'[i]?=some p→Rep C.cap σ kt e.key p.1∧Rep C.cap σ et e.val p.2:=by
  rcases run_findKey FG bp arr ds h5 h7 w with⟨f1,f2,f3⟩|⟨i,e,p,f1,f2,f3,f4,f5,f6⟩
  ·refine⟨arr.push {key:=a.eval k,val:=a.eval v,born:=clock},clock+1,ds++[(ek.ev ρ,ev.ev ρ)],?_,f3 _,by simp[h5],⟨by simp;unfold maxLen;omega,sv.push _ _⟩,fun q e p he hp=>?_⟩
   ·rw[cT,h1];simp[Instr.mapUpdate,run_underlying hT,getObj,Sem.run,h3,lb,f1,setObj]
   ·rw[Array.getElem?_push] at he;rw[ml] at hp;by_cases hq:q=arr.size
    ·subst hq;simp at he;rw[if_neg (by omega)] at hp;simp[h5] at hp;subst he;subst hp;exact⟨bp,hv'⟩
    ·rw[if_neg hq] at he;have uG:q<arr.size:=(ei.1 he).1;rw[if_pos (by omega)] at hp;exact h7 q e p he hp
  ·refine⟨arr.modify i fun e=>{e with key:=a.eval k,val:=a.eval v},clock,ds.set i (ek.ev ρ,ev.ev ρ),?_,f5 _,by simp[h5],⟨by simp;exact h6,sv.modify _ _ _⟩,fun q e' p' he hp=>?_⟩
   ·rw[cT,h1];have df:(Instr.keyThatStays e.key (a.eval k)).run C.P w=.ok (a.eval k) w:=by simp[Instr.keyThatStays,f6]
    simp[Instr.mapUpdate,run_underlying hT,getObj,Sem.run,h3,lb,f3,f1,df,setObj]
   ·rw[Pp] at he;rw[IY] at hp;by_cases hq:i=q
    ·subst hq;simp only[if_true] at he hp;rw[f1] at he;simp at he;split at hp
     ·cases hp;subst he;exact⟨bp,hv'⟩
     ·cases hp
    ·rw[if_neg hq] at he hp;exact h7 q e' p' he hp
 obtain⟨vk,BC,ds',r1,r2,r3,r4,r5⟩:=j9;refine⟨{w with heap:=w.heap.setIfInBounds g (.map vk BC)},by rcases ho with ho|ho<;>simp[execOp,ho,r1],?_⟩;have yC:g<w.heap.size:=(ei.1 h3).1;have hgB:w0.heap.size≤g:=(h.owns g j h2).1;have bN:(PE.put (.o j) ek ev).ev ρ=.map ds':=by simp only[PE.ev,h4,D.m,r2]
 rw[bN]
 have:=h.updB j (.mp kt et) (.map ds') (w':={w with heap:=w.heap.setIfInBounds g (.map vk BC)}) ⟨rfl,rfl,rfl,by simp,fun k hk=>by simp;rw[aaD (by omega)]⟩
  (fun k hk ay=>by simp;rw[aaD (fun e=>ay (by rw[←e];exact h2))])
  ⟨g,vk,BC,ds',h1,h2,by simp[yC],by simp[Env.setO,aS],r3,r4,r5⟩
 have eS:S.setO j (.mp kt et)=S:=St.setO_self eo;rw[eS] at this;exact⟨_,_,_,this⟩
end
end Cx
namespace Cx
open Go Go.RowKit
theorem aCn {e:Ty}{z:Value}(h:jV e z=true):e.rowT=true∨e.one=true:=by
 cases e<;>first|exact .inl rfl|exact .inr rfl|(cases z<;>simp[jV,z7] at h)
theorem Rep.cellsOne {cap:Nat→Option CSig}{σ:Im}{t:Ty}{v:Value}{d:D}(h:Rep cap σ t v d)(ht:t.rowT=true∨t.one=true){m:Nat}{u:Value}(hu:v.cells[m]?=some u):u.oneCell'=true:=by
 obtain⟨f1,f2,f3⟩:=h.flat ht;have af:m<v.cells.size:=(ei.1 hu).1;rw[h.size] at af;obtain⟨g1,g2⟩:=f3 m _ (aX (by omega:m<t.flat.length));have:=(g2.oneCell g1).2;rw[gG,hu] at this;exact this
theorem aom {cap:Nat→Option CSig}{σ:Im}{e:Ty}{cells:List Value}{xs:List D}(h:dy cap σ e cells xs)(hl:cells.length=xs.length*e.size)(iT:e.rowT=true∨e.one=true):∀u∈cells,u.oneCell'=true:=by
 obtain⟨vs,h1,h2⟩:=h;intro u hu;obtain⟨p,hp,rfl⟩:=fX hu;rw[hl] at hp;have hs:0<e.size:=Nat.pos_of_ne_zero fun e0=>by rw[e0] at hp;simp at hp
 have hi:p/e.size<xs.length:=(xG hs).2 hp;have hq:p%e.size<e.size:=nr _ hs;have bO:=h1 _ _ (aX hi);have aP:=bO.size;have mC:(vs (p/e.size)).cells[p%e.size]?=some (vs (p/e.size)).cells[p%e.size]:=jz (by omega);have:=h2 _ _ _ hi mC;rw[xI,As] at this;have h3:cells[p]=(vs (p/e.size)).cells[p%e.size]:=by
  have h4:=aX (show p<cells.length by omega);rw[h4] at this;exact tO this
 rw[h3];exact bO.cellsOne iT mC
theorem aol {cap:Nat→Option CSig}{σ:Im}{e:Ty}{c1 c2:List Value}{xs ys:List D}(h:dy cap σ e c1 xs)(k:dy cap σ e c2 ys)(hl:c1.length=xs.length*e.size):dy cap σ e (c1++c2) (xs++ys):=by
 obtain⟨vs,h1,h2⟩:=h;obtain⟨us,k1,k2⟩:=k;refine⟨fun i=>if i<xs.length then vs i else us (i-xs.length),fun i x hx=>?_,fun i j u hi hj=>?_⟩
 ·rw[ml] at hx;split at hx
  ·rename_i af;simp only[af,if_true];exact h1 i x hx
  ·rename_i af;simp only[af,if_false];exact k1 _ x hx
 ·by_cases af:i<xs.length
  ·simp only[af,if_true] at hj;have:=h2 i j u af hj;rw[oJ (fe.1 this).1];exact this
  ·simp only[af,if_false] at hj;have db:i-xs.length<ys.length:=by simp at hi;omega
   have:=k2 _ j u db hj;have e1:i*e.size=c1.length+(i-xs.length)*e.size:=by rw[hl,←gI];congr 1;omega
   rw[oK (by omega)];rw[show i*e.size+j-c1.length=(i-xs.length)*e.size+j by omega];exact this
section
variable {C:Ctx} {S:St} {ρ:Env} {σ:Im} {own:Nat→Option Nat} {hv:Nat→Value} {w0:World} {σ0:Base} {A:Nat→Prop} {a:Act} {w:World} {gs:List (Nat×Bool)} {Φ:aW} {dst:Nat}
theorem aBV (h:Inv C S ρ σ own hv w0 σ0 A a w){B:Nat}{e f:Ty}{v:Value}{d:D}(hs:0<e.size)(iT:e.rowT=true∨e.one=true)(hf:f.unf=e)(TB:P1 C σ w B (.slice f) v d):
 ∃ys,d=.list ys∧ys.length≤maxLen∧((v=.slice none 0 0∧ys=[])∨∃(ad:Addr) (c:Nat) (news:List Value),v=.slice (some ad) ys.length c∧news.length=ys.length*e.size∧
  (∀j u,news[j]?=some u→w.cell? (ad.add j)=some u)∧dy C.cap σ e news ys):=by
 rcases TB with hr|⟨T,e',cells,xs,ht,hd,bC,du⟩|⟨k,arr,clock,es,kt,et,ht,_⟩
 ·obtain⟨xs,hd,sw⟩:=hr.slice_inv;rw[←f.unf_size,hf] at sw;rcases sw with⟨⟨p0,aL⟩,rfl⟩|⟨k,o,c,aL,h1,h2,vs,h3,h4⟩
  ·cases p0 with
   |none=>exact⟨[],hd,by simp,.inl ⟨aL,rfl⟩⟩
   |some a0=>exact⟨[],hd,by simp,.inr ⟨a0,0,[],aL,by simp,fun j u hu=>by simp at hu,fun _=>undef,fun i x hx=>by simp at hx,fun i j u hi=>by simp at hi⟩⟩
  ·refine⟨xs,hd,by omega,.inr ⟨⟨k,o,none⟩,c,(List.range (xs.length*e.size)).map fun p=>(vs (p/e.size)).cells.getD (p%e.size) undef,aL,by simp,fun j u hu=>?_,vs,h3,fun i j u hi hj=>?_⟩⟩
   ·simp only[ct,aC] at hu;obtain⟨p,hp,rfl⟩:=hu;have gS:j<xs.length*e.size:=by have:=(fe.1 hp).1;simpa using this
    rw[rU gS] at hp;cases hp;have hi:j/e.size<xs.length:=(xG hs).2 gS;have hq:j%e.size<e.size:=nr _ hs;have bO:=h3 _ _ (aX hi);have aP:=bO.size;have mC:(vs (j/e.size)).cells[j%e.size]?=some ((vs (j/e.size)).cells.getD (j%e.size) undef):=by
     rw[gG,jz (by omega)];rfl
    have:=h.cell (h4 _ _ _ hi mC);rw[tX]
    rwa [show o+j/e.size*e.size+j%e.size=o+j by rw[xF,xI,As]] at this
   ·have bO:=h3 _ _ (aX hi);have bK:j<e.size:=by rw[←bO.size];exact(ei.1 hj).1
    have af:i*e.size+j<xs.length*e.size:=by
     have:(i+1)*e.size≤xs.length*e.size:=ff _ hi;rw[gI] at this;omega
    have e1:(i*e.size+j)/e.size=i:=by rw[xI,Nat.mul_add_div hs,aa8 bK];omega
    have e2:(i*e.size+j)%e.size=j:=by rw[Nat.add_comm,alc,DW bK]
    simp only[ct,rU af,kW,e1,e2];rw[gG,hj];rfl
 ·cases ht;rw[Ty.unf_rol] at hf;obtain⟨b,c,aL,hm,_⟩:=zu bC;have du:dy C.cap σ e cells xs:=by
   obtain⟨us,u1,u2⟩:=du;refine⟨us,fun i x hx=>hf▸(u1 i x hx).unf,fun i j u hi hu=>?_⟩;rw[←hf,Ty.unf_size];exact u2 i j u hi hu
  have bC:w.ownsRow B T e.size v xs.length cells:=by rw[←hf,Ty.unf_size];exact bC
  rcases bC.2 with⟨e1,e2⟩|⟨g,cap,cur,e1,e2⟩
  ·have:xs=[]:=Pz e2;subst this;exact⟨[],hd,by simp,.inl ⟨e1,rfl⟩⟩
  ·exact⟨xs,hd,hm,.inr ⟨⟨g,0,none⟩,cap,cells,e1,bC.1,bC.cells (by rw[e1];rfl),du⟩⟩
 ·cases ht
theorem ax8 {P:Program}{B:Nat}{T E ty:TypeId}{inf:TypeInfo}{z:Value}{size:Nat}{v x:Value}{n m:Nat}{xs news:List Value}(hT:P.underlying T=some (.slice E))(hi:P.info? E=some inf)(hz:inf.zero=some z)
 (hs:inf.size=size) (mO:z.cells.size=size) (aP:0<size) (qP:inf.bytes≤y9) (bC:w.ownsRow B E size v n xs) (hB:B≤w.heap.size) (dv:n+m≤4294967296)
 (hx:(x=.slice none 0 0∧m=0∧news=[])∨∃(ad:Addr) (c:Nat),x=.slice (some ad) m c∧news.length=m*size∧(∀j u,news[j]?=some u→w.cell? (ad.add j)=some u)∧∀u∈news,u.oneCell'=true):
 ∃v' w',(Builtin.append_ #[T,T] ty #[v,x]).run P w=.ok v' w'∧w'.ownsRow B E size v' (n+m) (xs++news)∧w.grownBy w' v.ownBlock∧∀k,v'.ownBlock=some k→v.ownBlock=some k∨(w.heap.size≤k∧k<w'.heap.size):=by
 rcases hx with⟨rfl,rfl,rfl⟩|⟨ad,c,rfl,hl,L1,h1⟩
 ·refine⟨v,w,run_append_owned_none w B T ty E inf size hT hi v n xs bC,by simpa using bC,⟨rfl,rfl,rfl,bn _,fun _ _ _=>rfl⟩,fun k hk=>.inl hk⟩
 ·have Sc:(n+m)*inf.bytes≤140737488355328:=by
   have:(n+m)*inf.bytes≤4294967296*y9:=rV dv qP;unfold y9 at this;omega
  obtain⟨v',w',r1,r2,r3,r4⟩:=run_append_own (P:=P) w B T ty E inf z size inf.bytes hT hi hz hs rfl mO aP v n xs bC ad m c news hl L1 h1 (by unfold maxLen;omega) Sc hB;refine⟨v',w',r1,r2,r3,fun k hk=>?_⟩;have af:=(r2.lt k hk).2;subst hs;rcases bC.2 with⟨rfl,rfl⟩|⟨g,cap,cur,rfl,B3,hg,eD,nT,cK,F6⟩
  ·by_cases hm:m=0
   ·subst hm;have:=r4.2 ⟨rfl,rfl⟩;subst this;simp[Value.ownBlock] at hk
   ·have hr:=run_append_nil (P:=P) w T ty E inf z hT hi hz ad m c news hl L1 (by omega) (by omega) (by have hb:=Sc;simp only[je] at hb;omega);rw[hr] at r1;cases r1;simp[Value.ownBlock] at hk;subst hk;exact .inr ⟨bn _,af⟩
  ·by_cases aev:n+m≤cap
   ·have LK:n*inf.size+news.length≤cur.size:=by rw[hl,cK,←gI];exact ff _ aev
    have hr:=run_append_room (P:=P) w T ty E inf hT hi g n cap cur hg ad m c news hl L1 h1 aev LK;rw[hr] at r1;cases r1;exact .inl hk
   ·have hr:=run_append_grow (P:=P) w T ty E inf z hT hi hz ⟨g,0,none⟩ n cap xs bC.1 (bC.cells (g:=g) rfl) ad m c news hl L1 (by omega) (by omega) (growslice_fits (by omega) Sc);rw[hr] at r1;cases r1;simp[Value.ownBlock] at hk;subst hk;exact .inr ⟨bn _,af⟩
theorem anB (h:Inv C S ρ σ own hv w0 σ0 A a w)(hC:CtxOK C σ0)(ht:¬A dst)(af:dst<a.tmps.size){T:TypeId}{s x:Operand}{r:St×List PI}(hr:EM C S dst T s x=some r){o:Oper}(hd:o.dst=some dst)
 (ho:o.op=.call {callee:=.builtin .append,args:=#[s,x],argTypes:=#[T,T]}):bZ C w0 σ0 Φ S ρ A a w o r:=by
 unfold EM at hr;split at hr
 case h_2=>cases hr
 rename_i E hT;simp only[aA] at hr;obtain⟨e,he,hr⟩:=hr;split at hr
 case h_2=>cases hr
 rename_i tx ex TB;have hv':=aam h hC (gs:=[]) rfl TB;obtain⟨cs,ao⟩:=W8 (C:=C) (w:=w) (a:=a) ho;cases hc:(sk C.P E e&&OP tx e)<;>simp only[hc,cond_true,cond_false] at hr
 ·cases hr
 simp only[aw] at hc;obtain⟨inf,z,hi,hs,qP,h1,hz,mN⟩:=Rv hc.1;have mO:=aaB mN;have iT:=aCn mN;have TC:∃f:Ty,f.unf=e∧P1 C σ w w0.heap.size (.slice f) (a.eval x) (ex.ev ρ):=by
  have df:=hc.2;unfold OP at df;split at df
  ·exact⟨_,Ty.beq_eq _ _ df,hv'⟩
  ·refine⟨e,Ty.unf_ro iT,?_⟩;rcases hv' with hr|⟨_,_,_,_,ht,_⟩|⟨_,_,_,_,_,_,ht,_⟩
   ·exact .inl (hr.sub (by simp[Ty.sub]))
   ·cases ht
   ·cases ht
  ·cases df
 obtain⟨fv,eU,TC⟩:=TC;obtain⟨ys,LI,oc,asR⟩:=aBV h h1 iT eU TC;have hx:∃news,dy C.cap σ e news ys∧news.length=ys.length*e.size∧((a.eval x=.slice none 0 0∧ys.length=0∧news=[])∨∃(ad:Addr) (c:Nat),a.eval x=.slice (some ad) ys.length c∧news.length=ys.length*e.size∧(∀j u,news[j]?=some u→w.cell? (ad.add j)=some u)∧∀u∈news,u.oneCell'=true):=by
  rcases asR with⟨e1,rfl⟩|⟨ad,c,news,e1,e2,e3,e4⟩
  ·exact⟨[],⟨fun _=>undef,by simp,by simp⟩,by simp,.inl ⟨e1,rfl,rfl⟩⟩
  ·exact⟨news,e4,e2,.inr ⟨ad,c,e1,e2,e3,aom e4 e2 iT⟩⟩
 obtain⟨news,ay,hnl,hx⟩:=hx;have main:∀(j:Nat) (v:Value) (xs:List D) (cells:List Value),a.eval s=v→w.ownsRow w0.heap.size E e.size v xs.length cells→dy C.cap σ e cells xs→xs.length+ys.length≤4294967296→
  (∀k,v.ownBlock=some k→own k=some j)→
  ∃v' w',(execOp a.eval o).run C.P w=.ok (.value v') w'∧Good C w0 σ0 ((S.newO j (.row E e)).setR dst (.obj j (S.ver j+1))) ((ρ.setO j (.list (xs++ys))).setR dst .none) (fun u=>A u∨u=dst) (a.put (some dst) v') w':=by
  intro j v xs cells Ts bC du hlen cW;obtain⟨v',w',r1,r2,r3,r4⟩:=ax8 (P:=C.P) (ty:=o.type) hT hi hz hs mO h1 qP bC h.below.size hlen hx;refine⟨v',w',by rw[ao];simp[builtin,Ts,r1],?_⟩
  have Tx:=h.updO j (.row E e) (.list (xs++ys)) v' (fun k=>decide (v'.ownBlock=some k)) (w':=w') (acY r3 h.below.size (fun k hk=>(h.owns k j (cW k hk)).1)) (fun k hk ay=>r3.block k hk (fun e=>ay (cW k e.symm))) (fun k hk=>by
        have bp:v'.ownBlock=some k:=by simpa using hk
        rcases r4 k bp with e|e
        ·exact⟨.inl (cW k e),(r2.lt k bp).2⟩
        ·exact⟨.inr e.1,e.2⟩)
   ⟨cells++news,xs++ys,by simp[Env.setO,aS],by rw[aS,mm];exact r2,aol du ay bC.1,fun k hk=>by rw[aS] at hk;simp[fH,hk]⟩
  have h2:=Tx.setObj ht (j:=j) (v:=v') (aS _ _ _) af;have e:(S.newO j (.row E e)).ver j=S.ver j+1:=aS _ _ _;rw[e] at h2;exact⟨_,_,_,h2⟩
 split at hr
 ·rename_i e0 pe0 hu;cases hr;refine bZ.value hd fun ρ' pv=>?_;have vP:=cw h hC rfl hu;have Ts:a.eval s=.slice none 0 0:=by
   generalize a.eval s=v at vP;generalize pe0.ev ρ=d at vP;cases vP;rfl
  simp only[PI.runs,PI.run,aA] at pv;obtain⟨ρ1,g1,ρ2,g2,ρ3,g3,g4⟩:=pv;cases c1:((Mr (.con (.list [])) ex).ev ρ).b<;>simp only[c1,cond_true,cond_false] at g1
  ·cases g1
  cases g1;cases g2;cases g3;cases g4;have hlen:=abX c1;simp only[PE.ev,D.l_list,LI,xC,D.i_int,D.int] at hlen;have:=main dst (.slice none 0 0) [] [] Ts (World.ownsRow_nil _ _ _ _) ⟨fun _=>undef,by simp,by simp⟩ (by simpa using afr hlen) (by simp[Value.ownBlock]);simpa [PE.ev,D.l_list,LI,mkObj] using this
 ·cases hr
 ·obtain⟨dU,_⟩:=uZ h (gs:=[]) rfl s;split at hr
  case h_2=>cases hr
  rename_i j ver es;rw[es] at dU;cases hb:Nat.beq ver (S.ver j)<;>simp only[hb,cond_true,cond_false] at hr
  ·cases hr
  have cT:=dU.2 (aD hb);have bt:=h.objs j;split at hr
  case h_2=>cases hr
  rename_i E' e' eo;rw[eo] at bt;cases lf:(Nat.beq E' E&&Ty.beq e' e)<;>simp only[lf,cond_true,cond_false] at hr
  ·cases hr
  cases hr;simp only[aw] at lf;have e1:=aD lf.1;have e2:=Ty.beq_eq _ _ lf.2;subst e1;subst e2;obtain⟨cells,xs,k1,k2,k3,k4⟩:=bt;refine bZ.value hd fun ρ' pv=>?_;simp only[PI.runs,PI.run,aA] at pv;obtain⟨ρ1,g1,ρ2,g2,ρ3,g3,g4⟩:=pv;cases c1:((Mr (.o j) ex).ev ρ).b<;>simp only[c1,cond_true,cond_false] at g1
  ·cases g1
  cases g1;cases g2;cases g3;cases g4;have hlen:=abX c1;simp only[PE.ev,D.l_list,LI,k1,D.i_int,D.int] at hlen;have:=main j (hv j) xs cells cT k2 k3 (by have:=afr hlen;simpa using this) k4;simpa [PE.ev,D.l_list,LI,k1] using this
end
end Cx
namespace Cx
open Go Go.RowKit
theorem OD {P:Program}{a:Act}{w:World}{o:Oper}{T:TypeId}{x v:Operand}{inf:TypeInfo}{k off:Nat}{cs:Array Value}{E:TypeId}(ho:o.op=.store T x v)(hi:P.info? T=some inf)(hx:a.eval x=.pointer (some ⟨k,off,none⟩))
 (hs:(a.eval v).cells.size=inf.size) (eN:∀u∈(a.eval v).cells.toList,u.oneCell'=true) (hb:w.heap[k]?=some (.cells cs E (0,0))) (hle:off+inf.size≤cs.size):
 (execOp a.eval o).run P w=.ok .skip (w.setRow k (cs.toList.take off++(a.eval v).cells.toList++cs.toList.drop (off+inf.size)).toArray):=by
 have:=run_storeCells_at P k off E (a.eval v).cells.toList 0 cs w hb (by simp[hs];exact hle) eN;simp only[mq,Aa,hs] at this;simp[execOp,ho,Instr.storeAt,hx,Instr.sureAddr,storeVar,Go.sizeOf,run_typeInfo w hi,hs,this]
theorem ajQ {w:World}{B k:Nat}{cs:Array Value}(hB:B≤k):Below B w (w.setRow k cs)∧∀i,i≠k→(w.setRow k cs).heap[i]?=w.heap[i]?:=
 ⟨⟨rfl,rfl,rfl,by simp[World.setRow],fun i hi=>setRow_other w k i cs (by omega)⟩,fun i hi=>setRow_other w k i cs hi⟩
theorem Lg {α:Type}(xs ys:List α)(off:Nat)(d:α)(hle:off+ys.length≤xs.length)(i:Nat):(xs.take off++ys++xs.drop (off+ys.length)).getD i d=if off≤i∧i<off+ys.length then ys.getD (i-off) d else xs.getD i d:=by
 simp only[aI,rS];rw[ml,ej,mu (by omega)];split
 ·rename_i h;rw[if_neg (by omega),iI,if_pos h]
 ·rename_i h;rw[ml];split
  ·rename_i h2;rw[if_pos (by omega)]
  ·rename_i h2;rw[if_neg (by omega),jb];congr 2;omega
section
variable {C:Ctx} {S:St} {ρ:Env} {σ:Im} {own:Nat→Option Nat} {hv:Nat→Value} {w0:World} {σ0:Base} {A:Nat→Prop} {a:Act} {w:World} {gs:List (Nat×Bool)} {Φ:aW} {dst:Nat}
theorem Inv.storeBox (h:Inv C S ρ σ own hv w0 σ0 A a w){j k off:Nat}{ag:Bool}{shs news:List Sh}{cs:Array Value}{E:TypeId}{ds dn:List D}{vs:List Value}(eo:S.o j=.box ag shs)
 (h1:hv j=.pointer (some ⟨k,0,none⟩)) (h2:own k=some j) (h3:w.heap[k]?=some (.cells cs E (0,0))) (h4:cs.size=shs.length) (h5:ρ.o j=.agg ds) (h6:ds.length=shs.length)
 (h7:∀i s,shs[i]?=some s→(∀gs s',s≠.opt gs s')∧aJ C S ρ σ hv s (cs.getD i undef) (ds.getD i .none))
 (l1:news.length=vs.length) (l2:dn.length=vs.length) (hle:off+vs.length≤shs.length)
 (lU:∀i s,news[i]?=some s→(∀gs s',s≠.opt gs s')∧aJ C S ρ σ hv s (vs.getD i undef) (dn.getD i .none)):
 Inv C (S.setO j (.box ag (shs.take off++news++shs.drop (off+vs.length)))) (ρ.setO j (.agg (dK ds off dn))) σ own hv w0 σ0 A a (w.setRow k (cs.toList.take off++vs++cs.toList.drop (off+vs.length)).toArray):=by
 have hkB:w0.heap.size≤k:=(h.owns k j h2).1;obtain⟨b1,b2⟩:=ajQ (w:=w) (B:=w0.heap.size) (k:=k) (cs:=(cs.toList.take off++vs++cs.toList.drop (off+vs.length)).toArray) hkB;refine h.updB j _ _ b1 (fun i hi ay=>b2 i fun e=>ay (e▸h2)) ⟨k,_,E,dK ds off dn,h1,h2,setRow_heap w k cs _ E _ h3,?_,by simp[Env.setO,aS],?_,fun i s hi=>?_⟩
 ·simp[l1];omega
 ·simp[dK,l2,l1];omega
 ·have cK:(cs.toList.take off++vs++cs.toList.drop (off+vs.length)).toArray.getD i undef=if off≤i∧i<off+vs.length then vs.getD (i-off) undef else cs.getD i undef:=by
   have e0:∀l:List Value,l.toArray.getD i undef=l.getD i undef:=fun l=>by simp[gG,aI]
   rw[e0,Lg cs.toList vs off undef (by simp;omega),BU cs i]
  have jG:(dK ds off dn).getD i .none=if off≤i∧i<off+vs.length then dn.getD (i-off) .none else ds.getD i .none:=by
   rw[dK,Lg ds dn off .none (by omega),l2]
  rw[cK,jG];have ad9:∀s v d,(∀gs s',s≠.opt gs s')→aJ C S ρ σ hv s v d→aJ C (S.setO j (.box ag (shs.take off++news++shs.drop (off+vs.length)))) (ρ.setO j (.agg (dK ds off dn))) σ hv s v d:=
   fun s v d hn hk=>aJ.mono' (.refl σ) (Compat.setO _ _ _ _) hn hk
  have oa:(shs.take off++news++shs.drop (off+vs.length))[i]?=if off≤i∧i<off+vs.length then news[i-off]? else shs[i]?:=by
   rw[rS,ml,ej,mu (by omega)];split
   ·rename_i h;rw[if_neg (by omega),iI,if_pos h]
   ·rename_i h;rw[ml,l1];split
    ·rename_i h2;rw[if_pos (by omega)]
    ·rename_i h2;rw[if_neg (by omega),jb];congr 1;omega
  rw[oa] at hi;split
  ·rename_i hc;rw[if_pos hc] at hi;obtain⟨g1,g2⟩:=lU _ s hi;exact⟨g1,ad9 _ _ _ g1 g2⟩
  ·rename_i hc;rw[if_neg hc] at hi;obtain⟨g1,g2⟩:=h7 _ s hi;exact⟨g1,ad9 _ _ _ g1 g2⟩
theorem ax2 (h:Inv C S ρ σ own hv w0 σ0 A a w){j:Nat}(hr:pA (S.o j)=true):(hv j).cells=#[hv j]∧(hv j).oneCell'=true:=by
 have bt:=h.objs j;cases cW:S.o j with
 |row T e=>
  rw[cW] at bt;obtain⟨cells,xs,h1,h2,h3,h4⟩:=bt;obtain⟨b,c,e1,_⟩:=zu h2;rw[e1];exact⟨rfl,rfl⟩
 |mp kt et=>
  rw[cW] at bt;obtain⟨k0,arr,clock,es,h1,_⟩:=bt;rw[h1];exact⟨rfl,rfl⟩
 |_=>rw[cW] at hr;simp[pA] at hr
theorem Inv.storeRow (h:Inv C S ρ σ own hv w0 σ0 A a w){j k n c i p:Nat}{T:TypeId}{e:Ty}{cells vs:List Value}{xs:List D}{v':Value}{d':D}(eo:S.o j=.row T e)(eV:hv j=.slice (some ⟨k,0,none⟩) n c)
 (h1:ρ.o j=.list xs) (h2:w.ownsRow w0.heap.size T e.size (hv j) xs.length cells) (h3:dy C.cap σ e cells xs) (h4:∀k,(hv j).ownBlock=some k→own k=some j) (hi:i<xs.length)
 (Cj:i*e.size≤p) (fl:p+vs.length≤i*e.size+e.size) (hr:Rep C.cap σ e v' d')
 (hv':∀q u,v'.cells[q]?=some u→(cells.take p++vs++cells.drop (p+vs.length))[i*e.size+q]?=some u):
 ∃cur,w.heap[k]?=some (.cells cur T (0,0))∧p+vs.length≤cur.size∧Inv C S (ρ.setO j (.list (xs.set i d'))) σ own hv w0 σ0 A a (w.setRow k (cur.toList.take p++vs++cur.toList.drop (p+vs.length)).toArray):=by
 have aZ:=h2.1;rcases h2.2 with⟨e0,e1⟩|⟨g,cap,cur,e1,e2,e3,e4,e5,e6,e7⟩
 ·omega
 rw[eV] at e1;cases e1;have arD:i*e.size+e.size≤xs.length*e.size:=by
  have:(i+1)*e.size≤xs.length*e.size:=ff _ hi;rw[gI] at this;omega
 have aHe:xs.length*e.size≤c*e.size:=ff _ e4;have asr:p+vs.length≤cur.size:=by omega
 refine⟨cur,e3,asr,?_⟩;have bC:own k=some j:=h4 k (by rw[eV];rfl);obtain⟨b1,b2⟩:=ajQ (w:=w) (B:=w0.heap.size) (k:=k) (cs:=(cur.toList.take p++vs++cur.toList.drop (p+vs.length)).toArray) e2;have F6:(cur.toList.take p++vs++cur.toList.drop (p+vs.length)).take (xs.length*e.size)=cells.take p++vs++cells.drop (p+vs.length):=by
  rw[←e7];apply vc;intro q;simp only[rS,iI,ml,ej,jb,Aa];by_cases hq:q<xs.length*e.size
  ·rw[if_pos hq];by_cases yL:q<p
   ·simp[yL,Nat.lt_min,show q<cur.size by omega,hq]
   ·by_cases fO:q-p<vs.length
    ·rw[if_neg (by omega),mu (by omega),if_pos fO,if_neg (by omega),mu (by omega),if_pos fO]
    ·rw[if_neg (by omega),mu (by omega),if_neg fO,if_neg (by omega),mu (by omega),if_neg fO,if_pos (by omega)]
  ·rw[if_neg hq];have:¬q<p:=by omega
   rw[if_neg (by omega),mu (by omega),if_neg (by omega),if_neg (by omega)]
 have:=h.updB j (.row T e) (.list (xs.set i d')) b1 (fun q hq ay=>b2 q fun e=>ay (e▸bC))
  ⟨cells.take p++vs++cells.drop (p+vs.length),xs.set i d',by simp[Env.setO,aS],⟨by simp;omega,.inr ⟨k,c,_,by rw[eV];simp,e2,setRow_heap w k cur _ T _ e3,by simpa using e4,e5,by simp;omega,by simpa using F6⟩⟩,?_,h4⟩
 ·rw[St.setO_self eo] at this;exact this
 ·obtain⟨us,u1,u2⟩:=h3;refine⟨fun q=>if q=i then v' else us q,fun q x hx=>?_,fun q m u hq hm=>?_⟩
  ·rw[IY] at hx;by_cases Cl:i=q
   ·subst Cl;simp only[if_true] at hx ⊢;rw[if_pos hi] at hx;cases hx;exact hr
   ·rw[if_neg Cl] at hx;simp only[show ¬q=i from fun e=>Cl e.symm,if_false];exact u1 q x hx
  ·by_cases Cl:q=i
   ·subst Cl;simp only[if_true] at hm;exact hv' m u hm
   ·simp only[Cl,if_false] at hm;simp only[List.length_set] at hq;have h9:=u2 q m u hq hm;have aHw:m<e.size:=by rw[←(u1 q _ (aX hq)).size];exact(ei.1 hm).1
    have kD:q*e.size+m<p∨p+vs.length≤q*e.size+m:=by
     rcases I4 q i with af|fN
     ·left;have:(q+1)*e.size≤i*e.size:=ff _ af;rw[gI] at this;omega
     ·right;have:(i+1)*e.size≤q*e.size:=ff _ (by omega);rw[gI] at this;omega
    rw[rS,ml,ej,mu (by omega)];rcases kD with ho|ho
    ·rw[if_pos ho,iI,if_pos ho];exact h9
    ·rw[if_neg (by omega),oK (by omega),jb];rw[show p+vs.length+(q*e.size+m-p-vs.length)=q*e.size+m by omega];exact h9
theorem an6 (h:Inv C S ρ σ own hv w0 σ0 A a w)(hC:CtxOK C σ0){T:TypeId}{x v:Operand}{r:St×List PI}(hr:EX C S T x v=some r){o:Oper}(hd:o.dst=none)(ho:o.op=.store T x v):bZ C w0 σ0 Φ S ρ A a w o r:=by
 unfold EX at hr;split at hr
 case h_2=>cases hr
 rename_i inf hi;obtain⟨dU,_⟩:=uZ h (gs:=[]) rfl x;split at hr
 case h_3=>cases hr
 ·rename_i j ver off es;rw[es] at dU;cases hb:Nat.beq ver (S.ver j)<;>simp only[hb,cond_true,cond_false] at hr
  ·cases hr
  obtain⟨k,eV,gf⟩:=dU.2 (aD hb);have bt:=h.objs j;split at hr
  case h_2=>cases hr
  rename_i ag shs eo;rw[eo] at bt;obtain⟨k',cs,E,ds,h1,h2,h3,h4,h5,h6,h7⟩:=bt;have cJ:=h1;rw[eV] at h1;cases h1;split at hr
  ·rename_i t e hu;have hv':=cw h hC rfl hu;cases hc:(Nat.beq inf.size t.size&&(t.rowT||t.one)&&Nat.ble (off+t.size) shs.length)<;>simp only[hc,cond_true,cond_false] at hr
   ·cases hr
   cases hr;simp only[aw,lN] at hc;obtain⟨⟨aP,iT⟩,hle⟩:=hc;have aP:=aD aP;have hle:=lQ hle;obtain⟨f1,f2,f3⟩:=hv'.flat iT;have iU:=hv'.size;refine bZ.skip hd fun ρ' ao=>?_;rw[wT ao]
   refine⟨_,OD ho hi gf (by rw[iU,aP]) (fun u hu=>by
        obtain⟨m,hm,rfl⟩:=fX hu;exact hv'.cellsOne iT (m:=m) (by simp at hm ⊢)) h3 (by omega),?_⟩
   have df:=h.storeBox (off:=off) (news:=t.flat.map .dat) (vs:=(a.eval v).cells.toList) (dn:=(e.ev ρ).cells) eo cJ h2 h3 h4 h5 h6 h7 (by simp[f1,iU]) (by simp[f2,iU]) (by simp[iU];omega) (fun i s hi=>by
        simp only[ct,aC] at hi;obtain⟨ti,Tt,rfl⟩:=hi;refine⟨fun _ _ e=>(by cases e),?_⟩;rw[BU];exact(f3 i ti Tt).2)
   have e1:(a.eval v).cells.toList.length=t.size:=by simp[iU]
   rw[e1] at df;rw[aP];refine⟨σ,own,hv,?_⟩;simpa [PE.ev,h5,D.cells] using df
  ·split at hr
   case h_2=>cases hr
   rename_i j' tA gO;obtain⟨Tq,_⟩:=uZ h (gs:=[]) rfl v;rw[gO] at Tq;cases hc:(Nat.beq tA (S.ver j')&&pA (S.o j')&&Nat.beq inf.size 1&&Nat.blt off shs.length)<;>simp only[hc,cond_true,cond_false] at hr
   ·cases hr
   cases hr;simp only[aw] at hc;obtain⟨⟨⟨ate,gm⟩,aP⟩,af⟩:=hc;have aP:=aD aP;have af:off<shs.length:=by simpa [ql] using af
   have cT:=Tq.2 (aD ate);obtain⟨c1,c2⟩:=ax2 h gm;have la:(a.eval v).cells=#[a.eval v]:=by rw[cT];exact c1
   refine bZ.skip hd fun ρ' ao=>?_;rw[wT ao];refine⟨_,OD ho hi gf (by rw[la,aP];rfl) (fun u hu=>by rw[la] at hu;simp at hu;subst hu;rw[cT];exact c2) h3 (by omega),?_⟩
   have df:=h.storeBox (off:=off) (news:=[.obj j' tA]) (vs:=[a.eval v]) (dn:=[.none]) eo cJ h2 h3 h4 h5 h6 h7 rfl rfl (by simp;omega) (fun i s hi=>by
        match i,hi with
        |0,hi=>simp at hi;subst hi;exact⟨fun _ _ e=>(by cases e),Tq.1,fun _=>by simpa using cT⟩
        |i+1,hi=>simp at hi)
   rw[la,aP];have e2:shs.take off++[Sh.obj j' tA]++shs.drop (off+[a.eval v].length)=shs.set off (.obj j' tA):=by
        rw[List.set_eq_take_append_cons_drop,if_pos af];simp
   rw[e2] at df;refine⟨σ,own,hv,?_⟩;simpa [PE.ev,h5,D.cells] using df
 ·rename_i j ver size off es;rw[es] at dU;cases hb:Nat.beq ver (S.ver j)<;>simp only[hb,cond_true,cond_false] at hr
  ·cases hr
  obtain⟨k,n,c,ik,i,eV,vB,cf,gf⟩:=dU.2 (aD hb);have bt:=h.objs j;split at hr
  ·rename_i T' ts t e eo hu;rw[eo] at bt;have hv':=cw h hC rfl hu;cases hc:(Nat.beq inf.size t.size&&(t.rowT||t.one)&&Nat.beq size ts.length&&Nat.ble (off+t.size) ts.length&&Ty.subs t.flat ((ts.drop off).take t.size))<;>simp only[hc,cond_true,cond_false] at hr
   ·cases hr
   cases hr;simp only[aw,lN] at hc;obtain⟨⟨⟨⟨aP,iT⟩,yR⟩,hle⟩,cM⟩:=hc;have aP:=aD aP;have yR:=aD yR;have hle:=lQ hle;obtain⟨f1,f2,f3⟩:=hv'.flat iT;have iU:=hv'.size;have f1:t.flat.length=t.size:=f1;have f2:(e.ev ρ).cells.length=t.size:=f2;have iU:(a.eval v).cells.size=t.size:=iU;obtain⟨cells,xs,k1,k2,k3,k4⟩:=bt;obtain⟨b,c',e1,FK,FL⟩:=zu k2;rw[eV] at e1;cases e1;obtain⟨us,u1,u2⟩:=k3;obtain⟨y,hy⟩:∃y,xs[i]?=some y:=⟨_,aX cf⟩
   obtain⟨os,ds,vT,hd0,l1,l2,aO,eN⟩:=(u1 i y hy).agg_inv;have F8:(a.eval v).cells.toList.length=t.size:=by simp[iU]
   have lU:Rep C.cap σ (.agg ts) (.agg (os.take off++(a.eval v).cells.toList++os.drop (off+(a.eval v).cells.toList.length)).toArray) (.agg (dK ds off (e.ev ρ).cells)):=by
        refine .agg _ _ _ (by simp[iU];omega) (by simp[dK,f2];omega) (fun m tm hm=>?_) eN;rw[Lg os _ off undef (by rw[F8];omega),dK,Lg ds _ off .none (by rw[f2];omega),F8,f2];split
        ·rename_i hc;have asV:=Ty.subs_get _ _ cM (m-off) tm (by
          rw[iI,if_pos (by omega),jb,show off+(m-off)=m by omega];exact hm)
         obtain⟨tf,htf,df⟩:=asV;rw[BU];exact((f3 _ tf htf).2).sub df
        ·exact aO m tm hm
   have aZ:=k2.1;have arD:i*(Ty.agg ts).size+(Ty.agg ts).size≤xs.length*(Ty.agg ts).size:=by
        have:(i+1)*(Ty.agg ts).size≤xs.length*(Ty.agg ts).size:=ff _ cf;rw[gI] at this;omega
   have aeC:(Ty.agg ts).size=ts.length:=rfl
   obtain⟨cur,q1,q2,q3⟩:=h.storeRow (i:=i) (p:=i*(Ty.agg ts).size+off) (vs:=(a.eval v).cells.toList) eo eV k1 k2 ⟨us,u1,u2⟩ k4 cf (by omega) (by rw[F8];omega) lU (fun q u hq=>by
        have dI:(os.take off++(a.eval v).cells.toList++os.drop (off+(a.eval v).cells.toList.length))[q]?=some u:=by simpa [Value.cells] using hq
        have aHH:q<ts.length:=by have:=(fe.1 dI).1;simp[iU] at this;omega
        rw[rS,ml,ej,mu (by omega)] at dI;rw[rS,ml,ej,mu (by omega)];by_cases sL:q<off
        ·rw[if_pos sL,iI,if_pos sL] at dI;rw[if_pos (by omega),iI,if_pos (by omega)];exact u2 i q u cf (by rw[vT];simpa [Value.cells] using dI)
        ·rw[if_neg sL,ml] at dI;rw[if_neg (by omega),ml];rw[show i*(Ty.agg ts).size+q-(i*(Ty.agg ts).size+off)=q-off by omega];by_cases L7:q-off<(a.eval v).cells.toList.length
         ·rw[if_pos L7] at dI ⊢;exact dI
         ·rw[if_neg L7,jb] at dI;rw[if_neg L7,jb];rw[show off+(a.eval v).cells.toList.length+(q-off-(a.eval v).cells.toList.length)=q by omega] at dI;rw[show i*(Ty.agg ts).size+off+(a.eval v).cells.toList.length+(q-off-(a.eval v).cells.toList.length)=i*(Ty.agg ts).size+q by omega];exact u2 i q u cf (by rw[vT];simpa [Value.cells] using dI))
   refine bZ.skip hd fun ρ' ao=>?_;rw[wT ao]
   refine⟨_,OD ho hi (cs:=cur) (by rw[gf,yR]) (by rw[iU,aP]) (fun u hu=>by
        obtain⟨m,hm,rfl⟩:=fX hu;exact hv'.cellsOne iT (m:=m) (by simp at hm ⊢)) q1 (by rw[F8] at q2;rw[aP,←aeC];exact q2),σ,own,hv,?_⟩
   rw[F8] at q3;simp only[PE.ev,k1,D.l_list,vB,D.i_int,vb,uo hy,hd0,wV];rw[aP,←aeC];exact q3
  ·rename_i T' e0 t e ay eo hu;rw[eo] at bt;have hv':=cw h hC rfl hu;cases hc:(Nat.beq inf.size 1&&Nat.beq size 1&&Nat.beq off 0&&e0.one&&Ty.sub t e0)<;>simp only[hc,cond_true,cond_false] at hr
   ·cases hr
   cases hr;simp only[aw] at hc;obtain⟨⟨⟨⟨aP,yR⟩,iS⟩,eN⟩,cM⟩:=hc;have aP:=aD aP;have yR:=aD yR;have iS:=aD iS;subst iS;subst yR;have hve:=hv'.sub cM;obtain⟨c1,c2⟩:=hve.oneCell eN;have Fy:e0.size=1:=by cases e0<;>simp_all [Ty.size,Ty.one]
   obtain⟨cells,xs,k1,k2,k3,k4⟩:=bt;obtain⟨b,c',e1,FK,FL⟩:=zu k2;rw[eV] at e1;cases e1;obtain⟨y,hy⟩:∃y,xs[i]?=some y:=⟨_,aX cf⟩
   have aZ:=k2.1
   obtain⟨cur,q1,q2,q3⟩:=h.storeRow (i:=i) (p:=i*e0.size) (vs:=[a.eval v]) eo eV k1 k2 k3 k4 cf (bn _) (by rw[Fy];simp) hve (fun q u hq=>by
        rw[c1] at hq;have sK:q=0:=by have:=(ei.1 hq).1;simpa using this
        subst sK;simp at hq;subst hq;have:i*e0.size≤cells.length:=by rw[aZ];exact ff _ (by omega)
        rw[rS,oK (by simp;omega)];simp[mu this])
   refine bZ.skip hd fun ρ' ao=>?_;rw[wT ao];refine⟨_,OD ho hi (cs:=cur) (by rw[gf]) (by rw[c1,aP];rfl) (fun u hu=>by rw[c1] at hu;simp at hu;subst hu;exact c2) q1 (by rw[Fy] at q2;rw[aP];simpa using q2),σ,own,hv,?_⟩;rw[c1,aP];have Gd:wV y 0 (e.ev ρ)=e.ev ρ:=by
        obtain⟨us,u1,u2⟩:=k3;have:=(u1 i y hy).dcells eN;cases y with
        |agg ds=>have h8:=u1 i _ hy;generalize us i=vv at h8;cases h8;simp[Ty.one] at eN
        |_=>rfl
   simp only[PE.ev,k1,D.l_list,vB,D.i_int,vb,uo hy,Gd];rw[Fy] at q3;simpa using q3
  ·cases hr
end
end Cx
namespace Cx
open Go Go.RowKit
section
variable {C:Ctx} {S:St} {ρ:Env} {σ:Im} {own:Nat→Option Nat} {hv:Nat→Value} {w0:World} {σ0:Base} {A:Nat→Prop} {a:Act} {w:World} {gs:List (Nat×Bool)} {Φ:aW} {dst:Nat}
theorem aov {ρ:Env}{es:List PE}{i:Nat}{e:PE}(h:es[i]?=some e):(PE.evs ρ es)[i]?=some (e.ev ρ):=by
 rw[PE.evs_eq,ct,h];rfl
theorem acj (h:Inv C S ρ σ own hv w0 σ0 A a w)(hC:CtxOK C σ0)(hg:holds gs ρ=true){T:TypeId}{len:Nat}{ps:Array (Nat×Operand)}{r:St×List PI}(hr:yc C S gs dst T len ps.toList=some r){o:Oper}
 (ho:o.op=.buildSlice T len ps):∃(E:TypeId) (e:Ty) (es:List PE) (v:Value) (w':World),C.P.underlying T=some (.slice E)∧p9 C.P E=some e∧r=(mkObj S dst (.row E e),[.setO dst (.lst es),.setR dst (.con .none)])∧
   (execOp a.eval o).run C.P w=.ok (.value v) w'∧Below w.heap.size w w'∧(∀k,Nat.beq k w.heap.size=true→w.heap.size≤k∧k<w'.heap.size)∧
   cA C (S.newO dst (.row E e)) (ρ.setO dst (.list (PE.evs ρ es))) σ (fH own dst (fun k=>Nat.beq k w.heap.size)) (cd hv dst v) w' w0.heap.size dst (.row E e):=by
 unfold yc at hr;split at hr
 case h_2=>cases hr
 rename_i E hT;simp only[aA] at hr;obtain⟨e,he,z,hz,hr⟩:=hr;cases hc:(sk C.P E e&&Ty.sub z.1 e&&kf (ps.toList.map (·.1))&&ps.toList.all (fun p=>Nat.blt p.1 len)&&Nat.ble (len*e.size) 16777216)<;>simp only[hc,cond_true,cond_false] at hr
 ·cases hr
 simp only[aw] at hc;obtain⟨⟨⟨⟨hef,cM⟩,bx⟩,jH⟩,hle⟩:=hc;have hle:=lQ hle;obtain⟨inf,zv,hi,hs,qP,h1,hzv,mN⟩:=Rv hef;have mO:=aaB mN;have mI:=rf bx;have Ge:=((z8 (cap:=C.cap) (σ:=σ) hz mN).1).sub cM;simp only[aC] at hr;obtain⟨es,lg,rfl⟩:=hr;obtain⟨el1,el2⟩:=mapM_some _ _ _ lg;simp only[aa1] at el1;have adE:∀i,i<len→∃pe,es[i]?=some pe∧K6 C S gs e z.2 ps.toList i=some pe:=by
  intro i hi;obtain⟨y,hy1,uJ⟩:=el2 i i (by rw[rU hi]);exact⟨y,hy1,uJ⟩
 have sJ:∀x,x∈ps.toList→x.1<len∧∃t pe,use C S gs x.2=some (t,pe)∧Ty.sub t e=true∧es[x.1]?=some pe:=by
  intro x hx;have y0:x.1<len:=by
   have:=da.1 jH x hx;simpa [ql] using this
  refine⟨y0,?_⟩;obtain⟨pe,Cj,fl⟩:=adE x.1 y0;have FA:=acI mI (i:=x.1) (x:=x.2) hx;simp only[K6,FA,aA] at fl;obtain⟨y,hy,fl⟩:=fl;cases hs:Ty.sub y.1 e<;>simp only[hs,cond_true,cond_false] at fl
  ·cases fl
  cases fl;exact⟨y.1,y.2,hy,hs,Cj⟩
 let c0:Array Value:=madeCells zv.cells (len*e.size)
 have Fs:c0.size=len*e.size:=size_madeCells _ _
 have mL:∀p,p∈(ps.toList.map fun(x:Nat×Operand)=>(x.1,a.eval x.2))→∃o,(fun i=>some (i*e.size,e.size)) p.1=some (o,p.2.cells.size)∧o+p.2.cells.size≤c0.size:=by
  intro p hp;obtain⟨x,hx,rfl⟩:=cu.1 hp;obtain⟨y0,t,pe,hu,df,_⟩:=sJ x hx;have vN:=((cw h hC hg hu).sub df).size;simp only;refine⟨x.1*e.size,by rw[vN],?_⟩;rw[vN,Fs];have:(x.1+1)*e.size≤len*e.size:=ff _ y0;rw[gI] at this;omega
 have B6:∀(i j oi si oj sj:Nat),i≠j→(fun i=>some (i*e.size,e.size)) i=some (oi,si)→(fun i=>some (i*e.size,e.size)) j=some (oj,sj)→oi+si≤oj∨oj+sj≤oi:=by
  intro i j oi si oj sj ay hi hj;simp only[bj,oN] at hi hj;obtain⟨rfl,rfl⟩:=hi;obtain⟨rfl,rfl⟩:=hj;rcases I4 i j with af|fN
  ·left;have:(i+1)*e.size≤j*e.size:=ff _ af;rw[gI] at this;omega
  ·right;have:(j+1)*e.size≤i*e.size:=ff _ (by omega);rw[gI] at this;omega
 obtain⟨dp,f1,f2,f3,f4⟩:=RA (fun i=>some (i*e.size,e.size)) (ps.toList.map fun(x:Nat×Operand)=>(x.1,a.eval x.2)) c0 mL B6 (by simpa [Pu] using mI);have ao:(execOp a.eval o).run C.P w=.ok (.value (.slice (some ⟨w.heap.size,0,none⟩) len len)) (w.alloc (.cells dp E)):=by
  have n1:¬(len*inf.size>2^24):=by rw[hs];omega
  have K9:Instr.fill (fun i=>some (i*inf.size,inf.size)) c0 (ps.toList.map fun(x:Nat×Operand)=>(x.1,a.eval x.2))=some dp:=by rw[hs];exact f1
  by_cases h0:len*inf.size=0
  ·have B4:c0=#[]:=by
        apply Po;rw[Fs,←hs];exact h0
   rw[B4] at K9
   have aox:Instr.fill (fun i=>some (i*inf.size,inf.size)) (Array.map (fun _=>default) (Array.range 0)) (ps.toList.map fun(x:Nat×Operand)=>(x.1,a.eval x.2))=some dp:=by
        have:(Array.map (fun _=>(default:Value)) (Array.range 0))=#[]:=by simp
        rw[this];exact K9
   simp[execOp,ho,Instr.buildSlice,run_underlying hT,Go.sizeOf,run_typeInfo w hi,n1,h0,aox,newRow]
  ·have B4:c0=(Array.range (len*inf.size)).map (fun x=>zv.cells[x%zv.cells.size]!):=by simp only[c0,madeCells,hs]
   rw[B4] at K9;have h00:¬(len=0∨inf.size=0):=by rw[←abd];exact h0
   simp[execOp,ho,Instr.buildSlice,run_underlying hT,Go.sizeOf,run_typeInfo w hi,n1,h0,h00,zeroValue,hzv,K9,newRow]
 refine⟨E,e,es,_,_,hT,he,rfl,ao,(Below.refl _ _).alloc (bn _) _,fun k hk=>by simp at hk;simp;omega,?_⟩;have du:(PE.evs ρ es).length=len:=by rw[PE.evs_eq,dM,el1]
 have ark:∀(i:Nat) (x:D),(PE.evs ρ es)[i]?=some x→∃v,Rep C.cap σ e v x∧∀q u,v.cells[q]?=some u→dp.toList[i*e.size+q]?=some u:=by
  intro i x hx;have LP:i<len:=by have:=(fe.1 hx).1;omega
  obtain⟨pe,Cj,fl⟩:=adE i LP;rw[aov Cj] at hx;cases hx;unfold K6 at fl;split at fl
  ·rename_i p hp;have hpm:=DQ hp;have L6:p.1=i:=by have:=PB hp;simpa using this
   obtain⟨_,t,pe',hu,df,ln⟩:=sJ p hpm;rw[L6,Cj] at ln;cases ln;have bO:=(cw h hC hg hu).sub df;refine⟨_,bO,fun q u hq=>?_⟩;have uG:q<(a.eval p.2).cells.size:=(ei.1 hq).1;have:=f3 p.1 (a.eval p.2) (p.1*e.size) (cu.2 ⟨p,hpm,rfl⟩) (by simp[bO.size]) q uG;rw[L6] at this;simp[this,hq]
  ·rename_i hp;cases fl;refine⟨zv,Ge,fun q u hq=>?_⟩;have uG:q<zv.cells.size:=(ei.1 hq).1
   have sH:i∉(ps.toList.map fun(x:Nat×Operand)=>(x.1,a.eval x.2)).map (·.1):=by
        intro dc;simp only[nq,cu,Pu] at dc;obtain⟨x,Cv,e⟩:=dc;have:=An.1 hp x Cv;simp[e] at this
   have:=f4 i (i*e.size) e.size sH rfl q (by omega);have h9:c0[i*e.size+q]?=zv.cells[q]?:=by
        simp only[c0];rw[←mO];exact afI (by omega) LP uG
   simp[this,h9,hq]
 have iU:∃vs:Nat→Value,∀(i:Nat) (x:D),(PE.evs ρ es)[i]?=some x→Rep C.cap σ e (vs i) x∧∀q u,(vs i).cells[q]?=some u→dp.toList[i*e.size+q]?=some u:=by
  have kB:∀i,∃v,∀x,(PE.evs ρ es)[i]?=some x→Rep C.cap σ e v x∧∀q u,v.cells[q]?=some u→dp.toList[i*e.size+q]?=some u:=by
   intro i;cases hx:(PE.evs ρ es)[i]? with
   |none=>exact⟨undef,fun x dh=>by cases dh⟩
   |some x=>
    obtain⟨v,hv⟩:=ark i x hx;exact⟨v,fun y hy=>by cases hy;exact hv⟩
  exact⟨fun i=>Classical.choose (kB i),fun i x hx=>aaJ (kB i) x hx⟩
 obtain⟨vs,iU⟩:=iU;have cK:dp.size=len*e.size:=by rw[f2,Fs]
 refine⟨dp.toList,PE.evs ρ es,by simp[Env.setO,aS],?_,⟨vs,fun i x hx=>(iU i x hx).1,fun i j u hi hj=>(iU i _ (aX hi)).2 j u hj⟩,fun k hk=>by rw[aS] at hk;simp[Value.ownBlock] at hk;simp[fH,hk]⟩;rw[aS,du];have SA:len≤maxLen:=by
  have:len*1≤len*e.size:=I5 _ h1;unfold maxLen;omega
 exact⟨by simp[cK],.inr ⟨w.heap.size,len,dp,rfl,h.below.size,heap_alloc_new w _,bn _,SA,cK,by rw[xE (by simp[cK])]⟩⟩
theorem anF (h:Inv C S ρ σ own hv w0 σ0 A a w)(hC:CtxOK C σ0)(ht:¬A dst)(af:dst<a.tmps.size){T:TypeId}{len:Nat}{ps:Array (Nat×Operand)}{r:St×List PI}(hr:yc C S [] dst T len ps.toList=some r){o:Oper}(hd:o.dst=some dst)
 (ho:o.op=.buildSlice T len ps):bZ C w0 σ0 Φ S ρ A a w o r:=by
 obtain⟨E,e,es,v,w',_,_,rfl,ao,hb,dS,cW⟩:=acj h hC rfl hr ho;refine bZ.value hd fun ρ' pv=>⟨_,_,ao,?_⟩
 rw[Dq pv];exact h.mkObj ht af (.row E e) _ _ (fun k=>Nat.beq k w.heap.size) hb dS cW
theorem Inv.kill (h:Inv C S ρ σ own hv w0 σ0 A a w)(j:Nat):Inv C (S.newO j .dead) ρ σ own hv w0 σ0 A a w:=by
 have ed:∀i,S.ver i≤(S.newO j .dead).ver i:=by
  intro i;show S.ver i≤cd S.ver j (S.ver j+1) i;rw[fJ];by_cases e:i=j
  ·subst e;simp
  ·simp[e]
 have hc:Compat S hv (S.newO j .dead) hv:=⟨ed,fun _ _=>rfl⟩
 refine h.step (·=j) rfl (.refl σ) h.ok (fun _ _ _ hx=>.inl hx) (fun _ _ hx=>.inl hx) (.refl _ _) hc (fun i hi=>⟨by simp[St.newO,bM _ _ hi],rfl,rfl,fun k hk=>⟨hk,rfl⟩⟩) (fun i hi=>?_) h.owns (fun _=>id) (fun t=>.inl ⟨rfl,rfl,rfl⟩) (fun _ _=>rfl) (fun _ _ _=>rfl) (fun k i hk=>.inl ⟨i,hk⟩) (fun i hi=>by subst hi;simp[St.newO,aS]);subst hi;simp only[St.newO,aS];trivial
theorem anU (h:Inv C S ρ σ own hv w0 σ0 A a w)(hC:CtxOK C σ0)(ht:¬A dst)(af:dst<a.tmps.size)(eC:∀g,g∈gs→A g.1)(hg:holds gs ρ=true){T:TypeId}{len:Nat}{ps:Array (Nat×Operand)}{r:St×List PI}(hr:BJ C S gs dst T len ps.toList=some r){o:Oper}(hd:o.dst=some dst)
 (ho:o.op=.buildSlice T len ps):bZ C w0 σ0 Φ S ρ A a w o r:=by
 unfold BJ at hr;split at hr
 case h_2=>cases hr
 rename_i E q hT hq;simp only[aA] at hr;obtain⟨e,he,hr⟩:=hr;obtain⟨E',e',es,v,w',B0,uy,rfl,ao,hb,dS,cW⟩:=acj h hC hg hq ho;rw[hT] at B0;cases B0;rw[he] at uy;cases uy;cases hr;refine bZ.value hd fun ρ' pv=>⟨_,_,ao,?_⟩
 have hρ:ρ'=ρ.setR dst (.list (PE.evs ρ es)):=by simp[PI.runs,PI.run,PE.ev] at pv;exact pv.symm
 subst hρ;have h1:=h.newO dst (.row E e) (.list (PE.evs ρ es)) v (fun k=>Nat.beq k w.heap.size) hb dS cW;obtain⟨σ2,jx,_,h2⟩:=h1.fz dst;have Ca:(S.newO dst (.row E e)).fz dst=(S.newO dst (.row E e)).setO dst (.fz (.slice e.rol)):=by
  have:(S.newO dst (.row E e)).o dst=.row E e:=aS _ _ _;unfold St.fz;rw[this]
 rw[Ca] at h2;have bt:=h2.objs dst;have e1:((S.newO dst (.row E e)).setO dst (.fz (.slice e.rol))).o dst=.fz (.slice e.rol):=aS _ _ _;rw[e1] at bt;have bO:Rep C.cap σ2 (.slice e.rol) v (.list (PE.evs ρ es)):=by
  have:=bt.2
  rwa [aS,show(ρ.setO dst (.list (PE.evs ρ es))).o dst=.list (PE.evs ρ es) from aS _ _ _] at this
 have h3:Inv C (S.newO dst .dead) ρ σ2 jx (cd hv dst v) w0 σ0 A a w':=by
  refine h2.step (·=dst) rfl (.refl σ2) h2.ok (fun _ _ _ hx=>.inl hx) (fun _ _ hx=>.inl hx) (.refl _ _) ⟨fun i=>bn _,fun _ _=>rfl⟩ (fun i hi=>⟨?_,?_,rfl,fun k hk=>⟨hk,rfl⟩⟩) (fun i hi=>?_) h2.owns (fun _=>id) (fun t=>.inl ⟨rfl,rfl,rfl⟩) (fun _ _=>rfl) (fun _ _ _=>rfl) (fun k i hk=>.inl ⟨i,hk⟩) (fun i hi=>by subst hi;simp[St.newO,aS])
  ·simp[St.newO,St.setO,bM _ _ hi]
  ·simp[Env.setO,bM _ _ hi]
  ·subst hi;simp only[St.newO,aS];trivial
 have hh:holds gs (ρ.setR dst (.list (PE.evs ρ es)))=true:=by rw[FU (t:=dst) fun g hm e=>ht (by rw[←e];exact eC g hm)];exact hg
 cases gs with
 |nil=>exact⟨_,_,_,h3.setReg ht (s:=.dat (.slice e.rol)) bO af (fun _ _ e=>by cases e)⟩
 |cons g bP=>
  refine⟨_,_,_,h3.setReg ht (s:=.opt (g::bP) (.dat (.slice e.rol))) ⟨fun _=>bO,fun e=>absurd (hh.symm.trans e) (by decide)⟩ af (fun gs s e=>?_)⟩;cases e;exact⟨eC,fun _ _ e=>by cases e⟩
end
end Cx
