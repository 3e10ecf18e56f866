/-
  Shared texts of this claim.
-/
import Derived.Test.YtbeeplempgffoaaGreatDoorQAB
import Derived.Laws.OwnMore
import Derived.Lib.ConvBytes
set_option linter.unusedSimpArgs false
set_option linter.unusedVariables false
noncomputable section
namespace Cx
open Go Go.RowKit
def mkObj (S:St)(dst:Nat)(ob:Ob):St:=(S.newO dst ob).setR dst (.obj dst (S.ver dst+1))
def mkPtr (S:St)(dst:Nat)(ob:Ob):St:=(S.newO dst ob).setR dst (.ptr dst (S.ver dst+1) 0)
abbrev kW:=Option (St×List PI)
def Cf (C:Ctx)(S:St)(dst:Nat)(T:TypeId)(x:Operand):kW:=
 match use C S [] x,C.P.underlying T with
 |some (.nils _,_),some (.slice E)=>(nO C.P E).map fun e=>(mkObj S dst (.row E e),[.setO dst (.con (.list [])),.setR dst (.con .none)])
 |_,_=>Option.none
def B8 (C:Ctx)(S:St)(dst:Nat)(T:TypeId):kW:=
 match nO C.P T,C.P.info? T,oL C.P T with
 |some t,some inf,some ag=>
  bif sD inf t&&(t.rowT||t.one) then
   (nP t).map fun z=>(mkPtr S dst (.box ag (z.1.flat.map .dat)),[.setO dst (.con (.agg z.2.cells)),.setR dst (.con .none)])
  else Option.none
 |_,_,_=>Option.none
def Ca (C:Ctx)(S:St)(dst:Nat)(T:TypeId)(x:Operand):kW:=
 match use C S [] x,oL C.P T with
 |some (t,e),some ag=>
  bif t.rowT||t.one then some (mkPtr S dst (.box ag (t.flat.map .dat)),[.setO dst (.mk [e]),.setR dst (.con .none)]) else Option.none
 |_,_=>Option.none
def Cd (C:Ctx)(S:St)(dst:Nat)(T:TypeId)(r:Option Operand):kW:=
 match C.P.underlying T,r with
 |some (.map K E),Option.none=>
  (nO C.P K).bind fun kt=>(nO C.P E).map fun et=>(mkObj S dst (.mp kt et),[.setO dst (.con (.map [])),.setR dst (.con .none)])
 |_,_=>Option.none
def Ce (C:Ctx)(S:St)(dst:Nat)(T:TypeId)(l c:Operand):kW:=
 match C.P.underlying T,use C S [] l,use C S [] c with
 |some (.slice E),some (.int _,n),some (.int _,m)=>
  (nO C.P E).bind fun e=>
    bif pE C.P E e then
     (nP e).bind fun z=>
        bif Ty.sub z.1 e then some (mkObj S dst (.row E e),[.chk (Pq n),.chk (.ci .eql n m),.setO dst (.rep n (.con z.2)),.setR dst (.con .none)]) else Option.none
    else Option.none
 |_,_,_=>Option.none
def Cg (C:Ctx)(S:St)(dst:Nat)(T:TypeId)(x:Operand):kW:=
 match C.P.underlying T,jQ S [] x with
 |some (.map _ _),.obj j ver=>
  bif Nat.beq ver (S.ver j)&& !Nat.beq j dst then
   match S.o j with
   |.mp kt et=>some (mkObj (S.mv j dst) dst (.it kt et),[.setO dst (.tup [.lst [],.o j]),.setR dst (.con .none)])
   |_=>Option.none
  else Option.none
 |_,_=>Option.none
def Cb (C:Ctx)(S:St)(dst:Nat)(s d:TypeId)(x:Operand):kW:=
 match use C S [] x,C.P.underlying s,C.P.underlying d with
 |some (.str,e),some .string,some (.slice E)=>
  (match C.P.underlying E with
   |some (.int .u8)=>some (S.setR dst (.dat (.slice (.int .u8))),[.chk (.ci .leq (.slen e) (.con (.int mE))),.setR dst (.bytes e)])
   |_=>Option.none)
 |_,_,_=>Option.none
section
variable {C:Ctx} {S:St} {ρ:Env} {σ:Im} {own:Nat→Option Nat} {hv:Nat→Value} {w0:World} {σ0:Base} {A:Nat→Prop} {a:Act} {w:World} {gs:List (Nat×Bool)} {Φ:aR} {dst:Nat}
def cn (C:Ctx)(w0:World)(σ0:Base)(Φ:aR)(S:St)(ρ:Env)(A:Nat→Prop)(a:Act)(w:World)(o:Oper)(r:St×List PI):Prop:=
 ∀ρ',PI.runs Φ r.2 ρ=some ρ'→∀(K:Act→World→Prop) (Q:Exit→Act→World→Prop),(∀a' w',Good C w0 σ0 r.1 ρ' (fun u=>A u∨o.dst=some u) a' w'→a'.tmps.size=a.tmps.size→K a' w')→o.wp C.P a w K Q
theorem size_put (a:Act)(d:Option Tmp)(v:Value):(a.put d v).tmps.size=a.tmps.size:=by
 cases d<;>simp[Act.put]
theorem cn.value {o:Oper}{r:St×List PI}(hd:o.dst=some dst)(hx:∀ρ',PI.runs Φ r.2 ρ=some ρ'→∃v w',(execOp a.eval o).run C.P w=.ok (.value v) w'∧Good C w0 σ0 r.1 ρ' (fun u=>A u∨u=dst) (a.put (some dst) v) w'):cn C w0 σ0 Φ S ρ A a w o r:=by
 intro ρ' ax K Q hK;obtain⟨v,w',h1,h2⟩:=hx ρ' ax;simp only[Oper.wp,h1,Oper.upon,hd];refine hK _ _ ?_ (size_put _ _ _)
 have:(fun u=>A u∨o.dst=some u)=(fun u=>A u∨u=dst):=by
  funext u;rw[hd];simp[eq_comm]
 rw[this];exact h2
theorem cn.skip {o:Oper}{r:St×List PI}(hd:o.dst=none)(hx:∀ρ',PI.runs Φ r.2 ρ=some ρ'→∃w',(execOp a.eval o).run C.P w=.ok .skip w'∧Good C w0 σ0 r.1 ρ' A a w'):cn C w0 σ0 Φ S ρ A a w o r:=by
 intro ρ' ax K Q hK;obtain⟨w',h1,h2⟩:=hx ρ' ax;simp only[Oper.wp,h1,Oper.upon,hd]
 have:(fun u=>A u∨o.dst=some u)=A:=by
  funext u;rw[hd];simp
 rw[this] at hK;exact hK _ _ h2 (size_put _ _ _)
theorem ed.eff (h:Inv C S ρ σ own hv w0 σ0 A a w)(ht:¬A dst)(aq:dst<a.tmps.size){o:Oper}(hd:o.dst=some dst){s:Sh}{DL:List PI}(hq:ed C S ρ σ hv Φ dst a w o (s,DL)):cn C w0 σ0 Φ S ρ A a w o (S.setR dst s,DL):=by
 refine cn.value hd fun ρ' ax=>?_;obtain⟨v,d,rfl,h1,h2,h3⟩:=hq ρ' ax;exact⟨v,w,h1,σ,own,hv,h.setReg ht (aT.mono' (.refl σ) (.refl S hv) h3 h2) aq (fun gs s' e=>absurd e (h3 gs s'))⟩
theorem ed.effG (h:Inv C S ρ σ own hv w0 σ0 A a w)(ht:¬A dst)(aq:dst<a.tmps.size)(dU:∀g,g∈gs→A g.1)(hg:holds gs ρ=true){o:Oper}(hd:o.dst=some dst){s:Sh}{DL:List PI}(hq:ed C S ρ σ hv Φ dst a w o (s,DL)):cn C w0 σ0 Φ S ρ A a w o (S.setR dst (.opt gs s),DL):=by
 refine cn.value hd fun ρ' ax=>?_;obtain⟨v,d,rfl,h1,h2,h3⟩:=hq ρ' ax;have hh:holds gs (ρ.setR dst d)=true:=by rw[CX (t:=dst) (d:=d) fun g hm e=>ht (by rw[←e];exact dU g hm)];exact hg
 refine⟨v,w,h1,σ,own,hv,h.setReg ht ⟨fun _=>aT.mono' (.refl σ) (.refl S hv) h3 h2,fun e=>absurd (hh.symm.trans e) (by decide)⟩ aq (fun bT s' e=>?_)⟩;cases e;exact⟨dU,h3⟩
theorem Inv.passed (h:Inv C S ρ σ own hv w0 σ0 A a w)(ht:¬A dst)(aq:dst<a.tmps.size)(dU:∀g,g∈gs→A g.1)(hg:holds gs ρ=false){s:Sh}(hs:∀bT s',s≠.opt bT s')(d:D):Inv C (S.setR dst (.opt gs s)) (ρ.setR dst d) σ own hv w0 σ0 (fun u=>A u∨u=dst) (a.put (some dst) undef) w:=by
 have hh:holds gs (ρ.setR dst d)=false:=by rw[CX (t:=dst) (d:=d) fun g hm e=>ht (by rw[←e];exact dU g hm)];exact hg
 refine h.setReg ht (s:=.opt gs s) (v:=undef) (d:=d) ⟨fun e=>absurd (hh.symm.trans e) (by decide),fun _=>rfl⟩ aq (fun bT s' e=>?_);cases e;exact⟨dU,hs⟩
theorem Inv.mkObj (h:Inv C S ρ σ own hv w0 σ0 A a w)(ht:¬A dst)(aq:dst<a.tmps.size)(ob:Ob)(d:D)(v:Value)(nb:Nat→Bool){w':World}(hw:Below w.heap.size w w')(dL:∀k,nb k=true→w.heap.size≤k∧k<w'.heap.size)
 (cS:dI C (S.newO dst ob) (ρ.setO dst d) σ (fL own dst nb) (cu hv dst v) w' w0.heap.size dst ob) (oG:ob≠.tr:=by intro h;cases h):
 Good C w0 σ0 (Cx.mkObj S dst ob) ((ρ.setO dst d).setR dst .none) (fun u=>A u∨u=dst) (a.put (some dst) v) w':=by
 have h1:=h.newO dst ob d v nb hw dL cS oG;have h2:=h1.setObj ht (j:=dst) (v:=v) (aS _ _ _) aq;have e:(S.newO dst ob).ver dst=S.ver dst+1:=aS _ _ _;rw[e] at h2;exact⟨_,_,_,h2⟩
theorem Inv.mkPtr (h:Inv C S ρ σ own hv w0 σ0 A a w)(ht:¬A dst)(aq:dst<a.tmps.size)(ob:Ob)(d:D)(k:Nat)(nb:Nat→Bool){w':World}(hw:Below w.heap.size w w')(dL:∀k,nb k=true→w.heap.size≤k∧k<w'.heap.size)
 (cS:dI C (S.newO dst ob) (ρ.setO dst d) σ (fL own dst nb) (cu hv dst (.pointer (some ⟨k,0,none⟩))) w' w0.heap.size dst ob) (oG:ob≠.tr:=by intro h;cases h):
 Good C w0 σ0 (Cx.mkPtr S dst ob) ((ρ.setO dst d).setR dst .none) (fun u=>A u∨u=dst) (a.put (some dst) (.pointer (some ⟨k,0,none⟩))) w':=by
 have h1:=h.newO dst ob d _ nb hw dL cS oG;have e:(S.newO dst ob).ver dst=S.ver dst+1:=aS _ _ _;have h2:=h1.setReg ht (s:=.ptr dst (S.ver dst+1) 0) (v:=.pointer (some ⟨k,0,none⟩)) (d:=.none) ⟨Nat.le_of_eq e.symm,fun _=>⟨k,aS _ _ _,rfl⟩⟩ aq (fun _ _ e=>by cases e);exact⟨_,_,_,h2⟩
theorem Fl {e:PE}{ρ':Env}(h:PI.runs Φ [.setO dst e,.setR dst (.con .none)] ρ=some ρ'):ρ'=(ρ.setO dst (e.ev ρ)).setR dst .none:=by
 simp[PI.runs,PI.run,PE.ev] at h;exact h.symm
theorem Xa (h:Inv C S ρ σ own hv w0 σ0 A a w){t:Ty}{v:Value}{d:D}(hr:Rep C.cap σ t v d)(ho:t.rowT=true∨t.one=true)(ag:Bool)(T:TypeId):
 dI C (S.newO dst (.box ag (t.flat.map .dat))) (ρ.setO dst (.agg d.cells)) σ (fL own dst (fun k=>Nat.beq k w.heap.size)) (cu hv dst (.pointer (some ⟨w.heap.size,0,none⟩))) (w.alloc (.cells v.cells T)) w0.heap.size dst (.box ag (t.flat.map .dat)):=by
 obtain⟨f1,f2,f3⟩:=hr.flat ho;refine⟨w.heap.size,v.cells,T,d.cells,aS _ _ _,by simp[fL],heap_alloc_new w _,by rw[hr.size];simp[f1],by simp[Env.setO,aS],by simp[f1,f2],fun i s hi=>?_⟩;simp only[dm,aK] at hi;obtain⟨ti,Da,rfl⟩:=hi;exact⟨fun _ _ e=>(by cases e),(f3 i ti Da).2⟩
theorem aih (h:Inv C S ρ σ own hv w0 σ0 A a w)(hC:CtxOK C σ0)(ht:¬A dst)(aq:dst<a.tmps.size){T:TypeId}{x:Operand}{r:St×List PI}(hr:Cf C S dst T x=some r){o:Oper}(hd:o.dst=some dst)(ho:o.op=.assign x):cn C w0 σ0 Φ S ρ A a w o r:=by
 unfold Cf at hr;split at hr
 case h_2=>cases hr
 rename_i e0 e1 E hu hT;simp only[aK] at hr;obtain⟨e,he,rfl⟩:=hr;have hx:=cv h hC rfl hu;have cT:a.eval x=.slice none 0 0:=by
  generalize a.eval x=v at hx;generalize e1.ev ρ=d at hx;cases hx;rfl
 refine cn.value hd fun ρ' ax=>⟨.slice none 0 0,w,by simp[execOp,ho,cT],?_⟩
 rw[Fl ax];exact h.mkObj ht aq (.row E e) _ _ (fun _=>false) (.refl _ _) (by simp) ⟨[],[],by simp[Env.setO,aS,PE.ev],by rw[aS];exact World.ownsRow_nil _ _ _ _,⟨fun _=>undef,by simp,by simp⟩,by rw[aS];simp[Value.ownBlock]⟩
theorem ahS (h:Inv C S ρ σ own hv w0 σ0 A a w)(ht:¬A dst)(aq:dst<a.tmps.size){T:TypeId}{r:St×List PI}(hr:B8 C S dst T=some r){o:Oper}(hd:o.dst=some dst)(ho:o.op=.alloc T):cn C w0 σ0 Φ S ρ A a w o r:=by
 unfold B8 at hr;split at hr
 case h_2=>cases hr
 rename_i t inf ag O6 hi ha;cases hc:(sD inf t&&(t.rowT||t.one))<;>simp only[hc,cond_true,cond_false] at hr
 ·cases hr
 simp only[ay,kV] at hc;simp only[aK] at hr;obtain⟨z,hz,rfl⟩:=hr;obtain⟨v0,vU,Pj⟩:∃v0,inf.zero=some v0∧iV t v0=true:=by
  have:=hc.1;unfold sD at this;split at this
  ·exact⟨_,by assumption,this⟩
  ·cases this
 obtain⟨k1,k2,k3⟩:=xu (cap:=C.cap) (σ:=σ) hz Pj;have C5:z.1.rowT=true∨z.1.one=true:=by
  rcases hc.2 with e|e
  ·left;cases t<;>simp[Ty.rowT] at e;simp[nP] at hz;obtain⟨_,_,rfl⟩:=hz;rfl
  ·right;rw[k3];exact e
 refine cn.value hd fun ρ' ax=>⟨.pointer (some ⟨w.heap.size,0,none⟩),w.alloc (.cells v0.cells T),?_,?_⟩
 ·simp[execOp,ho,Instr.alloc,zeroValue,run_typeInfo w hi,vU,newVar,newRow]
 ·rw[Fl ax];exact h.mkPtr ht aq _ _ _ (fun k=>Nat.beq k w.heap.size) ((Below.refl _ _).alloc (bJ _) _) (fun k hk=>by simp at hk;simp;omega) (Xa h k1 C5 ag T)
theorem ahW (h:Inv C S ρ σ own hv w0 σ0 A a w)(hC:CtxOK C σ0)(ht:¬A dst)(aq:dst<a.tmps.size){T:TypeId}{x:Operand}{r:St×List PI}(hr:Ca C S dst T x=some r){o:Oper}(hd:o.dst=some dst)(ho:o.op=.box T x):cn C w0 σ0 Φ S ρ A a w o r:=by
 unfold Ca at hr;split at hr
 case h_2=>cases hr
 rename_i t e ag hu ha;cases hc:(t.rowT||t.one)<;>simp only[hc,cond_true,cond_false] at hr
 ·cases hr
 cases hr;simp only[kV] at hc;have hx:=cv h hC rfl hu;refine cn.value hd fun ρ' ax=>⟨.pointer (some ⟨w.heap.size,0,none⟩),w.alloc (.cells (a.eval x).cells T),?_,?_⟩
 ·simp[execOp,ho,Instr.box,newVar,newRow]
 ·rw[Fl ax];have:(PE.mk [e]).ev ρ=.agg (e.ev ρ).cells:=by simp[PE.ev,PE.evc]
  rw[this];exact h.mkPtr ht aq _ _ _ (fun k=>Nat.beq k w.heap.size) ((Below.refl _ _).alloc (bJ _) _) (fun k hk=>by simp at hk;simp;omega) (Xa h hx hc ag T)
theorem aia (h:Inv C S ρ σ own hv w0 σ0 A a w)(ht:¬A dst)(aq:dst<a.tmps.size){T:TypeId}{m:Option Operand}{r:St×List PI}(hr:Cd C S dst T m=some r){o:Oper}(hd:o.dst=some dst)(ho:o.op=.makeMap T m):cn C w0 σ0 Φ S ρ A a w o r:=by
 unfold Cd at hr;split at hr
 case h_2=>cases hr
 rename_i K E hT;simp only[aB,aK] at hr;obtain⟨kt,hk,et,he,rfl⟩:=hr;refine cn.value hd fun ρ' ax=>⟨.map (some w.heap.size),w.alloc (.map #[] 0),?_,?_⟩
 ·simp[execOp,ho,Instr.makeMap]
 ·rw[Fl ax]
  exact h.mkObj ht aq (.mp kt et) _ _ (fun k=>Nat.beq k w.heap.size) ((Below.refl _ _).alloc (bJ _) _) (fun k hk=>by simp at hk;simp;omega)
   ⟨w.heap.size,#[],0,[],aS _ _ _,by simp[fL],heap_alloc_new w _,by simp[Env.setO,aS,PE.ev],rfl,⟨by simp,by simp[lQ]⟩,by simp⟩
theorem aij (h:Inv C S ρ σ own hv w0 σ0 A a w)(ht:¬A dst)(aq:dst<a.tmps.size){T:TypeId}{x:Operand}{r:St×List PI}(hr:Cg C S dst T x=some r){o:Oper}(hd:o.dst=some dst)(ho:o.op=.range T x):cn C w0 σ0 Φ S ρ A a w o r:=by
 unfold Cg at hr;split at hr
 case h_2=>cases hr
 rename_i K E j ver hT es;obtain⟨eK,_⟩:=xl h (gs:=[]) rfl x;rw[es] at eK;cases hb:(Nat.beq ver (S.ver j)&& !Nat.beq j dst)<;>simp only[hb,cond_true,cond_false] at hr
 ·cases hr
 simp only[ay,kh] at hb;have cT:=eK.2 (aG hb.1);have aC:j≠dst:=fun e=>by subst e;simp at hb
 have bC:=h.objs j;split at hr
 case h_2=>cases hr
 rename_i kt et eo;cases hr;rw[eo] at bC;obtain⟨m,arr,clock,ds,h1,h2,h3,h4,h5,⟨h6,pK⟩,h7⟩:=bC;have mj:=h.mv aC (by rw[eo];rfl);have oD:m<w.heap.size:=(gl.1 h3).1;have Oz:w0.heap.size≤m:=(h.owns m j h2).1;refine cn.value hd fun ρ' ax=>⟨.pointer (some ⟨w.heap.size,0,none⟩),w.alloc (.mapIter (some m) clock #[] clock),?_,?_⟩
 ·simp[execOp,ho,Instr.range,cT,h1,run_underlying hT,getObj,Sem.run,h3]
 have hρ:ρ'=((ρ.setO dst (.tup [.list [],.map ds])).setR dst .none):=by
  simp[PI.runs,PI.run,PE.ev,PE.evs,h4] at ax;exact ax.symm
 subst hρ;have dS:Below w.heap.size w (w.alloc (.mapIter (some m) clock #[] clock)):=(Below.refl _ _).alloc (bJ _) _;have O2:=mj.step (S':=(S.mv j dst).newO dst (.it kt et)) (ρ':=(ρ.setO dst (.tup [.list [],.map ds]))) (σ':=σ) (hv':=cu (cu hv dst (hv j)) dst (.pointer (some ⟨w.heap.size,0,none⟩)))
  (own':=fun k=>if k=w.heap.size then some dst else(if own k=some j then some dst else if own k=some dst then none else own k)) (a':=a) (A':=A) (w':=w.alloc (.mapIter (some m) clock #[] clock)) (fun i=>i=dst)
  rfl (.refl σ) (h.ok.below dS) (fun _ _ _ hx=>.inl hx) (fun _ _ hx=>.inl hx) (dS.mono h.below.size) ⟨fun i=>?_,fun i e=>?_⟩ (fun i hi=>⟨?_,?_,?_,fun k hk=>⟨?_,?_⟩⟩) (fun i hi=>?_) (fun k i hk=>?_) (fun _=>id) (fun t=>.inl ⟨rfl,rfl,rfl⟩) (fun _ _=>rfl) (fun k hk _=>dS.block k hk) (fun k i hk=>?_) (fun i hi=>by subst hi;simp[St.newO,aS])
 ·have gF:=O2.setObj ht (j:=dst) (v:=.pointer (some ⟨w.heap.size,0,none⟩)) (aS _ _ _) aq;have e:((S.mv j dst).newO dst (.it kt et)).ver dst=(S.mv j dst).ver dst+1:=aS _ _ _;rw[e] at gF;exact⟨_,_,_,gF⟩
 ·simp only[St.newO,gj];split<;>rename_i e
  ·subst e;omega
  ·omega
 ·simp only[St.newO,gj] at e;split at e
  ·rename_i e';subst e';omega
  ·rename_i OF;exact bO _ _ OF
 ·simp[St.newO,bO _ _ hi]
 ·simp[Env.setO,bO _ _ hi]
 ·exact bO _ _ hi
 ·have aBk:=(mj.owns k i hk).2.1;have br:k≠w.heap.size:=by omega
  simp only[if_neg br];exact hk
 ·exact dS.block k (mj.owns k i hk).2.1
 ·subst hi;simp only[St.newO,aS];have cA:m≠w.heap.size:=by omega
  refine⟨w.heap.size,m,arr,clock,ds,[],aS _ _ _,by simp,by simp[cA,h2],by omega,?_,heap_alloc_new w _,by simp[Env.setO,aS,gh],List.nodup_nil,by simp,h5,pK,h7⟩;rw[dS.block m oD];exact h3
 ·split at hk
  ·rename_i e;subst e;refine⟨h.below.size,by simp,fun o=>?_,?_⟩
   ·cases hc:σ.c w.heap.size o with
    |none=>rfl
    |some u=>have:=h.lt hc;omega
   ·cases hc:σ.m w.heap.size with
    |none=>rfl
    |some u=>have:=h.ltm hc;omega
  ·obtain⟨g1,g2,g3,g4⟩:=mj.owns k i hk;exact⟨g1,by simp;omega,g3,g4⟩
 ·split at hk
  ·rename_i e;subst e;exact .inr (bJ _)
  ·exact .inl ⟨i,hk⟩
theorem ah0 (h:Inv C S ρ σ own hv w0 σ0 A a w)(hC:CtxOK C σ0)(ht:¬A dst)(aq:dst<a.tmps.size){T U:TypeId}{x:Operand}{r:St×List PI}(hr:Cb C S dst T U x=some r){o:Oper}(hd:o.dst=some dst)(ho:o.op=.convert T U x):cn C w0 σ0 Φ S ρ A a w o r:=by
 unfold Cb at hr;split at hr
 case h_2=>cases hr
 rename_i e E hu hT hU;split at hr
 case h_2=>cases hr
 rename_i hE;cases hr;have hx:=cv h hC rfl hu;obtain⟨s,bF,bB,hs⟩:=hx.str_inv;have tC:=Lib.run_convert_string_bytes (P:=C.P) w T U E s hT hU hE;refine cn.value hd fun ρ' ax=>⟨.slice (some ⟨w.heap.size,0,none⟩) s.size (grownCap w s.size 0 E),Lib.bytesWorld w E s,by simp[execOp,ho,bF,tC],?_⟩
 simp only[PI.runs,PI.run,aB] at ax;obtain⟨ρ1,g1,ρ2,g2,g3⟩:=ax;cases c1:((PE.ci BinOp.leq (.slen e) (.con (.int mE))).ev ρ).b<;>simp only[c1,cond_true,cond_false] at g1
 ·cases g1
 cases g1;cases g2;cases g3;have alM:s.size≤4294967296:=by
  simp[PE.ev,bB,D.s,D.i,D.b,gZ,D.int,mE] at c1;omega
 have dS:Below w.heap.size w (Lib.bytesWorld w E s):=⟨rfl,rfl,rfl,by rw[Lib.bytesWorld_size];omega,fun k hk=>Lib.bytesWorld_at_old w E s k hk⟩
 have bh:(Lib.bytesWorld w E s).heap.size=w.heap.size+1:=Lib.bytesWorld_size w E s
 let σ':Im:={c:=fun k i=>if k=w.heap.size then(if i<s.size then some (.int .u8 (s.data.toList.getD i 0).toNat) else none) else σ.c k i,m:=σ.m}
 have hle:σ.le σ':=by
  refine⟨fun k o v hc=>?_,fun k es hc=>hc⟩;have:k≠w.heap.size:=by have:=h.lt hc;omega
  simp[σ',this,hc]
 have az:σ'.ok (Lib.bytesWorld w E s):=by
  refine⟨fun k i v hc=>?_,(h.ok.below dS).m⟩;simp only[σ'] at hc;split at hc
  ·rename_i ek;subst ek;split at hc
   ·rename_i hi;cases hc;exact Lib.bytesWorld_cell w E s i hi
   ·cases hc
  ·exact(h.ok.below dS).c k i v hc
 have h1:=h.step (S':=S) (ρ':=ρ) (σ':=σ') (own':=own) (hv':=hv) (A':=A) (a':=a) (w':=Lib.bytesWorld w E s) (fun _=>False) rfl hle az (fun k i v hc=>?_) (fun k es hc=>.inl hc) (dS.mono h.below.size) ⟨fun _=>bJ _,fun _ _=>rfl⟩
  (fun j _=>⟨rfl,rfl,rfl,fun k hk=>⟨hk,dS.block k (h.owns k j hk).2.1⟩⟩) (fun j hj=>hj.elim) (fun k j hk=>?_) (fun _=>id) (fun t=>.inl ⟨rfl,rfl,rfl⟩) (fun _ _=>rfl) (fun k hk _=>dS.block k hk) (fun k i hk=>.inl ⟨i,hk⟩) (fun _ hf=>hf.elim)
 ·refine⟨_,_,_,h1.setReg ht (s:=.dat (.slice (.int .u8))) ?_ aq (fun _ _ e=>by cases e)⟩;show Rep C.cap σ' _ _ _;simp only[PE.ev,bB,D.s];refine .slice (.int .u8) w.heap.size 0 s.size _ _ (fun i=>.int .u8 (s.data.toList.getD i 0).toNat) (by simp) (grownCap_ge w s.size 0 E) (grownCap_le_maxLen w s.size 0 E (by unfold maxLen;omega)) (fun i x hx=>?_) (fun i j u hi hu=>?_)
  ·simp only[dm,aK] at hx;obtain⟨b,hb,rfl⟩:=hx;have:s.data.toList.getD i 0=b:=by simp[be,hb]
   rw[this];have:=b.toNat_lt;exact .int .u8 _ (by show(0:Int)≤_;omega) (by show _≤(255:Int);omega)
  ·have hj:j=0:=by
        have:=(gl.1 hu).1;simp[Value.cells] at this;exact this
   subst hj;simp[Value.cells] at hu;subst hu;simp[σ',Ty.size,hi]
 ·simp only[σ'] at hc;split at hc
  ·rename_i ek;exact .inr ⟨by have:=h.below.size;omega,.inr (by omega)⟩
  ·exact .inl hc
 ·obtain⟨g1,g2,g3,g4⟩:=h.owns k j hk;refine⟨g1,by omega,fun i=>?_,g4⟩;have:k≠w.heap.size:=by omega
  simp[σ',this,g3 i]
end
end Cx
namespace Cx
open Go Go.RowKit
def Ia (C:Ctx)(S:St)(gs:List (Nat×Bool))(e:Ty)(z:D)(parts:List (Nat×Operand))(i:Nat):Option PE:=
 match parts.find? (fun p=>Nat.beq p.1 i) with
 |some p=>(use C S gs p.2).bind fun a=>bif Ty.sub a.1 e then some a.2 else Option.none
 |Option.none=>some (PE.con z)
def vj (C:Ctx)(S:St)(gs:List (Nat×Bool))(dst:Nat)(T:TypeId)(len:Nat)(parts:List (Nat×Operand)):kW:=
 match C.P.underlying T with
 |some (.slice E)=>
  (nO C.P E).bind fun e=>(nP e).bind fun z=>
    bif pE C.P E e&&Ty.sub z.1 e&&lE (parts.map (·.1))&&parts.all (fun p=>Nat.blt p.1 len)&&Nat.ble (len*e.size) 16777216 then
     ((List.range len).mapM (Ia C S gs e z.2 parts)).map fun es=>(mkObj S dst (.row E e),[.setO dst (.lst es),.setR dst (.con .none)])
    else Option.none
 |_=>Option.none
def zd (C:Ctx)(S:St)(gs:List (Nat×Bool))(dst:Nat)(T:TypeId)(len:Nat)(parts:List (Nat×Operand)):kW:=
 match C.P.underlying T,vj C S gs dst T len parts with
 |some (.slice E),some r=>
  (nO C.P E).bind fun e=>
    match r.2 with
    |.setO _ x::_=>some ((S.newO dst .dead).setR dst (match gs with|[]=>.dat (.slice e.rol)|_=>.opt gs (.dat (.slice e.rol))),[.setR dst x])
    |_=>Option.none
 |_,_=>Option.none
def Ch (C:Ctx)(S:St)(T:TypeId)(x v:Operand):kW:=
 match C.P.info? T with
 |some inf=>
  match jQ S [] x with
  |.ptr j ver off=>
   bif Nat.beq ver (S.ver j) then
    match S.o j with
    |.box ag aJ=>
     match use C S [] v with
     |some (t,e)=>
      bif Nat.beq inf.size t.size&&(t.rowT||t.one)&&Nat.ble (off+t.size) aJ.length then
             some (S.setO j (.box ag (aJ.take off++t.flat.map .dat++aJ.drop (off+t.size))),[.setO j (.setc (.o j) off e)])
      else Option.none
     |Option.none=>
      match jQ S [] v with
      |.obj j' qz=>
       bif Nat.beq qz (S.ver j')&&mA (S.o j')&&Nat.beq inf.size 1&&Nat.blt off aJ.length then
              some (S.setO j (.box ag (aJ.set off (.obj j' qz))),[.setO j (.setc (.o j) off (.con .none))])
       else Option.none
      |_=>Option.none
    |_=>Option.none
   else Option.none
  |.eptr j ver size off=>
   bif Nat.beq ver (S.ver j) then
    match S.o j,use C S [] v with
    |.row _ (.agg ts),some (t,e)=>
     bif Nat.beq inf.size t.size&&(t.rowT||t.one)&&Nat.beq size ts.length&&Nat.ble (off+t.size) ts.length&&Ty.subs t.flat ((ts.drop off).take t.size) then
         some (S,[.setO j (.setn (.o j) (uo x) off e)])
     else Option.none
    |.row _ e0,some (t,e)=>
     bif Nat.beq inf.size 1&&Nat.beq size 1&&Nat.beq off 0&&e0.one&&Ty.sub t e0 then some (S,[.setO j (.setn (.o j) (uo x) 0 e)]) else Option.none
    |_,_=>Option.none
   else Option.none
  |_=>Option.none
 |Option.none=>Option.none
def ze (C:Ctx)(S:St)(T:TypeId)(m k v:Operand):kW:=
 match C.P.underlying T,jQ S [] m with
 |some (.map K _),.obj j ver=>
  bif Nat.beq ver (S.ver j) then
   match S.o j,use C S [] k,use C S [] v with
   |.mp kt et,some (tk,ek),some (tv,ev)=>
    bif Ty.beq tk kt&&tO C.P K kt&&Ty.sub tv et then some (S,[.chk (.ci .lss (.mlen (.o j)) (.con (.int mE))),.setO j (.put (.o j) ek ev)]) else Option.none
   |_,_,_=>Option.none
  else Option.none
 |_,_=>Option.none
def Jj (x y:PE):PE:=.ci .leq (.llen (.app x y)) (.con (.int mE))
def Lc:Ty→Ty→Bool
 |.slice e',e=>Ty.beq e'.unf e
 |.nils _,_=>true
 |_,_=>false
def B9 (C:Ctx)(S:St)(dst:Nat)(T:TypeId)(s x:Operand):kW:=
 match C.P.underlying T with
 |some (.slice E)=>
  (nO C.P E).bind fun e=>
    match view C S [] x with
    |some (tx,ex)=>
     bif pE C.P E e&&Lc tx e then
        match use C S [] s with
        |some (.nils _,_)=>some (mkObj S dst (.row E e),[.chk (Jj (.con (.list [])) ex),.setO dst (.app (.con (.list [])) ex),.setR dst (.con .none)])
        |some _=>Option.none
        |Option.none=>
         match jQ S [] s with
         |.obj j ver=>
          bif Nat.beq ver (S.ver j) then
             match S.o j with
             |.row E' e'=>
              bif Nat.beq E' E&&Ty.beq e' e then
                some ((S.newO j (.row E e)).setR dst (.obj j (S.ver j+1)),[.chk (Jj (.o j) ex),.setO j (.app (.o j) ex),.setR dst (.con .none)])
              else Option.none
             |_=>Option.none
          else Option.none
         |_=>Option.none
     else Option.none
    |Option.none=>Option.none
 |_=>Option.none
theorem NA {P:Program}{T:TypeId}{e:Ty}(h:pE P T e=true):∃inf z,P.info? T=some inf∧inf.size=e.size∧inf.bytes≤wj∧1≤e.size∧inf.zero=some z∧iV e z=true:=by
 unfold pE at h;split at h
 ·rename_i i hi;simp only[ay] at h;have h4:=h.2;unfold sD at h4;split at h4
  ·rename_i z hz;exact⟨i,z,hi,aG h.1.1.1,kZ h.1.1.2,kZ h.1.2,hz,h4⟩
  ·cases h4
 ·cases h
theorem Wq {e:Ty}{z:Value}(h:iV e z=true):z.cells.size=e.size:=by
 cases e with
 |agg ts=>
  cases z with
  |agg vs=>simp only[iV] at h;have:=(Wr ts vs.toList h).1;simpa [Value.cells,Ty.size] using this
  |_=>simp[iV] at h
 |_=>cases z<;>simp_all [iV,xt,Value.cells,Ty.size]
theorem ahl {ρ:Env}{x y:PE}(h:((PE.ci .lss x y).ev ρ).b=true):(x.ev ρ).i<(y.ev ρ).i:=by
 simpa [PE.ev,D.b_bool,gZ] using h
theorem Xl {ρ:Env}{x y:PE}(h:((PE.ci .leq x y).ev ρ).b=true):(x.ev ρ).i≤(y.ev ρ).i:=by
 simpa [PE.ev,D.b_bool,gZ] using h
theorem anK {n:Nat}(h:(n:Int)<mE):n<4294967296:=by unfold mE at h;omega
theorem aan {n:Nat}(h:(n:Int)≤mE):n≤4294967296:=by unfold mE at h;omega
theorem St.setO_self {S:St}{j:Nat}{ob:Ob}(h:S.o j=ob):S.setO j ob=S:=by
 have:cu S.o j ob=S.o:=by
  funext i;rw[gj];split
  ·rename_i e;subst e;exact h.symm
  ·rfl
 cases S;simp only[St.setO] at this ⊢;rw[this]
section
variable {C:Ctx} {S:St} {ρ:Env} {σ:Im} {own:Nat→Option Nat} {hv:Nat→Value} {w0:World} {σ0:Base} {A:Nat→Prop} {a:Act} {w:World} {gs:List (Nat×Bool)} {Φ:aR} {dst:Nat}
theorem Inv.updO (h:Inv C S ρ σ own hv w0 σ0 A a w)(j:Nat)(ob:Ob)(d:D)(v:Value)(nb:Nat→Bool){w':World}(hw:Below w0.heap.size w w')
 (rj:∀k,k<w.heap.size→own k≠some j→w'.heap[k]?=w.heap[k]?) (dL:∀k,nb k=true→(own k=some j∨w.heap.size≤k)∧k<w'.heap.size)
 (cS:dI C (S.newO j ob) (ρ.setO j d) σ (fL own j nb) (cu hv j v) w' w0.heap.size j ob) (oG:ob≠.tr:=by intro h;cases h):Inv C (S.newO j ob) (ρ.setO j d) σ (fL own j nb) (cu hv j v) w0 σ0 A a w':=by
 have bh:w0.heap.size≤w.heap.size:=h.below.size;have df:∀k i,i≠j→own k=some i→fL own j nb k=some i:=by
  intro k i hi hk;have h1:=h.owns k i hk;have h2:nb k=false:=by
   cases hn:nb k with
   |false=>rfl
   |true=>
    rcases(dL k hn).1 with e|e
    ·rw[hk] at e;simp at e;exact absurd e hi
    ·omega
  simp[fL,h2,hk,hi]
 have az:σ.ok w':=by
  refine⟨fun k o u hc=>?_,fun k es hc=>?_⟩
  ·have aC:own k≠some j:=fun e=>by rw[(h.owns k j e).2.2.1 o] at hc;cases hc
   rw[World.cell?_of_block (rj k (h.lt hc) aC)];exact h.ok.c k o u hc
  ·have aC:own k≠some j:=fun e=>by rw[(h.owns k j e).2.2.2] at hc;cases hc
   exact(h.ok.m k es hc).keep (rj k (h.ltm hc) aC)
 refine h.step (fun i=>i=j) rfl (.refl σ) az (fun _ _ _ hx=>.inl hx) (fun _ _ hx=>.inl hx) hw ⟨fun i=>?_,fun i e=>?_⟩ (fun i hi=>⟨?_,?_,?_,fun k hk=>⟨df k i hi hk,?_⟩⟩) (fun i hi=>?_) (fun k i hk=>?_) (fun _=>id) (fun t=>.inl ⟨rfl,rfl,rfl⟩) (fun _ _=>rfl) (fun k hk e=>rj k hk (by rw[e];simp)) (fun k i hk=>by
  unfold fL at hk;split at hk
  ·rename_i hn;rcases(dL k hn).1 with e|e
   ·exact .inl ⟨j,e⟩
   ·exact .inr e
  ·split at hk
   ·cases hk
   ·exact .inl ⟨i,hk⟩) (fun i hi=>by subst hi;simpa only[St.newO,aS] using oG)
 ·simp only[St.newO,gj];split<;>rename_i e
  ·subst e;omega
  ·omega
 ·simp only[St.newO,gj] at e;split at e
  ·rename_i e';subst e';omega
  ·rename_i aC;exact bO _ _ aC
 ·simp[St.newO,bO _ _ hi]
 ·simp[Env.setO,bO _ _ hi]
 ·exact bO _ _ hi
 ·exact rj k (h.owns k i hk).2.1 (by rw[hk];simpa using hi)
 ·subst hi;simp only[St.newO,aS];exact cS
 ·unfold fL at hk;split at hk
  ·rename_i hn;obtain⟨g1,g2⟩:=dL k hn;rcases g1 with e|e
   ·obtain⟨f1,f2,f3,f4⟩:=h.owns k j e;exact⟨f1,g2,f3,f4⟩
   ·refine⟨by omega,g2,fun o=>?_,?_⟩
    ·cases hc:σ.c k o with
     |none=>rfl
     |some u=>have:=h.lt hc;omega
    ·cases hc:σ.m k with
     |none=>rfl
     |some u=>have:=h.ltm hc;omega
  ·split at hk
   ·cases hk
   ·obtain⟨g1,g2,g3,g4⟩:=h.owns k i hk;exact⟨g1,by have:=hw.size;omega,g3,g4⟩
theorem Inv.updB (h:Inv C S ρ σ own hv w0 σ0 A a w)(j:Nat)(ob:Ob)(d:D){w':World}(hw:Below w0.heap.size w w')
 (rj:∀k,k<w.heap.size→own k≠some j→w'.heap[k]?=w.heap[k]?)
 (cS:dI C (S.setO j ob) (ρ.setO j d) σ own hv w' w0.heap.size j ob) (oG:ob≠.tr:=by intro h;cases h):Inv C (S.setO j ob) (ρ.setO j d) σ own hv w0 σ0 A a w':=by
 have az:σ.ok w':=by
  refine⟨fun k o u hc=>?_,fun k es hc=>?_⟩
  ·have aC:own k≠some j:=fun e=>by rw[(h.owns k j e).2.2.1 o] at hc;cases hc
   rw[World.cell?_of_block (rj k (h.lt hc) aC)];exact h.ok.c k o u hc
  ·have aC:own k≠some j:=fun e=>by rw[(h.owns k j e).2.2.2] at hc;cases hc
   exact(h.ok.m k es hc).keep (rj k (h.ltm hc) aC)
 refine h.step (fun i=>i=j) rfl (.refl σ) az (fun _ _ _ hx=>.inl hx) (fun _ _ hx=>.inl hx) hw (Compat.setO _ _ _ _) (fun i hi=>⟨by simp[St.setO,bO _ _ hi],by simp[Env.setO,bO _ _ hi],rfl,fun k hk=>⟨hk,rj k (h.owns k i hk).2.1 (by rw[hk];simpa using hi)⟩⟩) (fun i hi=>?_) (fun k i hk=>?_) (fun _=>id) (fun t=>.inl ⟨rfl,rfl,rfl⟩) (fun _ _=>rfl) (fun k hk e=>rj k hk (by rw[e];simp)) (fun k i hk=>.inl ⟨i,hk⟩) (fun i hi=>by subst hi;rw[St.setO_o];exact oG)
 ·subst hi;rw[St.setO_o];exact cS
 ·obtain⟨g1,g2,g3,g4⟩:=h.owns k i hk;exact⟨g1,by have:=hw.size;omega,g3,g4⟩
theorem X9 {B:Nat}{w w':World}{row:Option Nat}(hg:w.grownBy w' row)(hB:B≤w.heap.size)(hr:∀k,row=some k→B≤k):Below B w w':=(Below.refl B w).grown hg hB hr
theorem aaA {z:Array Value}{n i q:Nat}(hz:0<z.size)(hi:i<n)(hq:q<z.size):(madeCells z (n*z.size))[i*z.size+q]?=z[q]?:=by
 have aq:i*z.size+q<n*z.size:=by
  have:(i+1)*z.size≤n*z.size:=nV _ hi;rw[nT] at this;omega
 have hm:(i*z.size+q)%z.size=q:=by rw[Nat.add_comm,agn,Nat.mod_eq_of_lt hq]
 simp[madeCells,Array.getElem?_range,aq,hm,hq]
theorem aic (h:Inv C S ρ σ own hv w0 σ0 A a w)(hC:CtxOK C σ0)(ht:¬A dst)(aq:dst<a.tmps.size){T:TypeId}{l c:Operand}{r:St×List PI}(hr:Ce C S dst T l c=some r){o:Oper}(hd:o.dst=some dst)(ho:o.op=.makeSlice T l c):cn C w0 σ0 Φ S ρ A a w o r:=by
 unfold Ce at hr;split at hr
 case h_2=>cases hr
 rename_i E k1 n k2 m hT hl hc;simp only[aB] at hr;obtain⟨e,he,hr⟩:=hr;cases hf:pE C.P E e<;>simp only[hf,cond_true,cond_false] at hr
 ·cases hr
 obtain⟨inf,z0,hi,hs,hb,h1,hz,lz⟩:=NA hf;simp only[aB] at hr;obtain⟨z,hzt,hr⟩:=hr;cases cJ:Ty.sub z.1 e<;>simp only[cJ,cond_true,cond_false] at hr
 ·cases hr
 cases hr;obtain⟨n1,bF,bB,b1,b2⟩:=(cv h hC rfl hl).int_inv;obtain⟨n2,gL,dC,b3,b4⟩:=(cv h hC rfl hc).int_inv;simp only at bB dC;have Dl:=((xu (cap:=C.cap) (σ:=σ) hzt lz).1).sub cJ;refine cn.value hd fun ρ' ax=>?_;simp only[PI.runs,PI.run,aB] at ax;obtain⟨ρ1,g1,ρ2,g2,ax⟩:=ax;cases c1:((Pq n).ev ρ).b<;>simp only[c1,cond_true,cond_false] at g1
 ·cases g1
 cases g1;cases c2:((PE.ci BinOp.eql n m).ev ρ).b<;>simp only[c2,cond_true,cond_false] at g2
 ·cases g2
 cases g2;have alZ:n1=n2:=by simpa [PE.ev,bB,dC,D.i_int,D.b_bool,gZ] using c2
 subst alZ;have hb:0≤n1∧n1≤mE:=by simpa [Pq,PE.ev,bB,D.i_int,D.b_bool,gZ,D.int] using c1
 obtain⟨nn,rfl⟩:=mT hb.1;have vO:nn≤4294967296:=by have:=hb.2;unfold mE at this;omega
 have rF:z0.cells.size=e.size:=Wq lz;obtain⟨w',r1,r2,r3⟩:=run_make_full (P:=C.P) w w0.heap.size T E inf z0 e.size hT hi hz hs k1 k2 nn (by
  have:inf.bytes*nn≤wj*4294967296:=Nat.mul_le_mul (by assumption) vO;unfold wj at this;omega) (by unfold maxLen;omega) h.below.size
 refine⟨.slice (some ⟨w.heap.size,0,none⟩) nn nn,w',by simp[execOp,ho,bF,gL,r1],?_⟩;obtain⟨ρ3,g3,ρ4,g4,g5⟩:=ax;cases g3;cases g4;cases g5;simp only[PE.ev,bB,D.i_int,uQ];have hlen:(List.replicate nn z.2).length=nn:=by simp
 refine h.mkObj ht aq (.row E e) _ _ (fun k=>Nat.beq k w.heap.size) (X9 r3 (bJ _) (by simp)) (fun k hk=>?_) ⟨_,List.replicate nn z.2,by simp[Env.setO,aS],by rw[aS,hlen];exact r2,⟨fun _=>z0,fun i x hx=>?_,fun i j u hi hj=>?_⟩,fun k hk=>?_⟩
 ·have br:k=w.heap.size:=aG hk;have:=(r2.lt _ rfl).2;subst br;exact⟨bJ _,this⟩
 ·have:=(iu.1 hx)
  obtain⟨q1,q2⟩:=this;simp at q2;subst q2;exact Dl
 ·rw[hlen] at hi;have bm:j<z0.cells.size:=(gl.1 hj).1;rw[Bc,←rF];rw[aaA (by omega) hi bm];exact hj
 ·rw[aS] at hk;simp[Value.ownBlock] at hk;simp[fL,hk]
theorem lQ.push {arr:Array MapEntry}{clock:Nat}(h:lQ arr clock)(k v:Value):lQ (arr.push {key:=k,val:=v,born:=clock}) (clock+1):=by
 have key:∀(i:Nat) (e:MapEntry),(arr.push {key:=k,val:=v,born:=clock})[i]?=some e→(arr[i]?=some e∧e.born<clock)∨(i=arr.size∧e.born=clock):=by
  intro i e he;rw[Array.getElem?_push] at he;split at he
  ·rename_i hi;cases he;exact .inr ⟨hi,rfl⟩
  ·exact .inl ⟨he,h.1 i e he⟩
 refine⟨fun i e he=>?_,fun i j e f he hf hb=>?_⟩
 ·rcases key i e he with⟨_,h1⟩|⟨_,h1⟩<;>omega
 ·rcases key i e he with⟨h1,h2⟩|⟨h1,h2⟩<;>rcases key j f hf with⟨h3,h4⟩|⟨h3,h4⟩
  ·exact h.2 i j e f h1 h3 hb
  ·omega
  ·omega
  ·omega
theorem lQ.modify {arr:Array MapEntry}{clock:Nat}(h:lQ arr clock)(i0:Nat)(k v:Value):lQ (arr.modify i0 fun e=>{e with key:=k,val:=v}) clock:=by
 have key:∀(i:Nat) (e:MapEntry),(arr.modify i0 fun e=>{e with key:=k,val:=v})[i]?=some e→∃e',arr[i]?=some e'∧e'.born=e.born:=by
  intro i e he;rw[Array.getElem?_modify] at he;split at he
  ·simp only[aK] at he;obtain⟨e',h1,rfl⟩:=he;exact⟨e',h1,rfl⟩
  ·exact⟨e,he,rfl⟩
 refine⟨fun i e he=>?_,fun i j e f he hf hb=>?_⟩
 ·obtain⟨e',h1,h2⟩:=key i e he;rw[←h2];exact h.1 i e' h1
 ·obtain⟨e',h1,h2⟩:=key i e he;obtain⟨f',h3,h4⟩:=key j f hf;exact h.2 i j e' f' h1 h3 (by rw[h2,h4,hb])
theorem XG (h:Inv C S ρ σ own hv w0 σ0 A a w)(hC:CtxOK C σ0){T:TypeId}{m k v:Operand}{r:St×List PI}(hr:ze C S T m k v=some r){o:Oper}(hd:o.dst=none)(ho:o.op=.mapUpdate T m k v∨o.op=.insert T m k v):cn C w0 σ0 Φ S ρ A a w o r:=by
 unfold ze at hr;split at hr
 case h_2=>cases hr
 rename_i K E j ver hT es;obtain⟨eK,_⟩:=xl h (gs:=[]) rfl m;rw[es] at eK;cases hb:Nat.beq ver (S.ver j)<;>simp only[hb,cond_true,cond_false] at hr
 ·cases hr
 have cT:=eK.2 (aG hb);have bC:=h.objs j;split at hr
 case h_2=>cases hr
 rename_i kt et tk ek tv ev eo hk vV;rw[eo] at bC;cases hc:(Ty.beq tk kt&&tO C.P K kt&&Ty.sub tv et)<;>simp only[hc,cond_true,cond_false] at hr
 ·cases hr
 cases hr;simp only[ay] at hc;obtain⟨⟨IP,CQ⟩,cJ⟩:=hc;obtain⟨g,arr,clock,ds,h1,h2,h3,h4,h5,⟨h6,pK⟩,h7⟩:=bC;have br:=cv h hC rfl hk;rw[Ty.beq_eq _ _ IP] at br;have hv':=(cv h hC rfl vV).sub cJ;refine cn.skip hd fun ρ' ax=>?_;simp only[PI.runs,PI.run,aB] at ax;obtain⟨ρ1,g1,ρ2,g2,g3⟩:=ax;cases c1:((PE.ci BinOp.lss (.mlen (.o j)) (.con (.int mE))).ev ρ).b<;>simp only[c1,cond_true,cond_false] at g1
 ·cases g1
 cases g1;cases g2;cases g3;have alM:ds.length<4294967296:=by
  have h8:=ahl c1;simp only[PE.ev,h4,D.m,D.i_int,D.int] at h8;exact anK h8
 have gG:(Instr.checkKey false 10000 K (a.eval k)).run C.P w=.ok () w:=Xj (cap:=C.cap) (σ:=σ) CQ br;have mq:∃sQ y7 cw,(Instr.mapUpdate T (a.eval m) (a.eval k) (a.eval v)).run C.P w=.ok () {w with heap:=w.heap.setIfInBounds g (.map sQ y7)}∧dG (ek.ev ρ) (ev.ev ρ) ds=cw∧cw.length=sQ.size∧(cw.length≤maxLen∧lQ sQ y7)∧
  ∀(i:Nat) (e:MapEntry) (p:D×D),sQ[i]?=some e→cw[i]?=some p→Rep C.cap σ kt e.key p.1∧Rep C.cap σ et e.val p.2:=by
  rcases run_findKey CQ br arr ds h5 h7 w with⟨f1,f2,f3⟩|⟨i,e,p,f1,f2,f3,f4,f5,f6⟩
  ·refine⟨arr.push {key:=a.eval k,val:=a.eval v,born:=clock},clock+1,ds++[(ek.ev ρ,ev.ev ρ)],?_,f3 _,by simp[h5],⟨by simp;unfold maxLen;omega,pK.push _ _⟩,fun q e p he hp=>?_⟩
   ·rw[cT,h1];simp[Instr.mapUpdate,run_underlying hT,getObj,Sem.run,h3,gG,f1,setObj]
   ·rw[Array.getElem?_push] at he;rw[lS] at hp;by_cases hq:q=arr.size
    ·subst hq;simp at he;rw[if_neg (by omega)] at hp;simp[h5] at hp;subst he;subst hp;exact⟨br,hv'⟩
    ·rw[if_neg hq] at he;have I2:q<arr.size:=(gl.1 he).1;rw[if_pos (by omega)] at hp;exact h7 q e p he hp
  ·refine⟨arr.modify i fun e=>{e with key:=a.eval k,val:=a.eval v},clock,ds.set i (ek.ev ρ,ev.ev ρ),?_,f5 _,by simp[h5],⟨by simp;exact h6,pK.modify _ _ _⟩,fun q e' p' he hp=>?_⟩
   ·rw[cT,h1];have da:(Instr.keyThatStays e.key (a.eval k)).run C.P w=.ok (a.eval k) w:=by simp[Instr.keyThatStays,f6]
    simp[Instr.mapUpdate,run_underlying hT,getObj,Sem.run,h3,gG,f3,f1,da,setObj]
   ·rw[Array.getElem?_modify] at he;rw[Bk] at hp;by_cases hq:i=q
    ·subst hq;simp only[if_true] at he hp;rw[f1] at he;simp at he;split at hp
     ·cases hp;subst he;exact⟨br,hv'⟩
     ·cases hp
    ·rw[if_neg hq] at he hp;exact h7 q e' p' he hp
 obtain⟨sQ,y7,cw,r1,r2,r3,r4,r5⟩:=mq;refine⟨{w with heap:=w.heap.setIfInBounds g (.map sQ y7)},by rcases ho with ho|ho<;>simp[execOp,ho,r1],?_⟩;have hgl:g<w.heap.size:=(gl.1 h3).1;have hgB:w0.heap.size≤g:=(h.owns g j h2).1;have bU:(PE.put (.o j) ek ev).ev ρ=.map cw:=by simp only[PE.ev,h4,D.m,r2]
 rw[bU]
 have:=h.updB j (.mp kt et) (.map cw) (w':={w with heap:=w.heap.setIfInBounds g (.map sQ y7)}) ⟨rfl,rfl,rfl,by simp,fun k hk=>by simp;rw[Ws (by omega)]⟩
  (fun k hk aC=>by simp;rw[Ws (fun e=>aC (by rw[←e];exact h2))])
  ⟨g,sQ,y7,cw,h1,h2,by simp[hgl],by simp[Env.setO,aS],r3,r4,r5⟩
 have eS:S.setO j (.mp kt et)=S:=St.setO_self eo;rw[eS] at this;exact⟨_,_,_,this⟩
end
end Cx
namespace Cx
open Go Go.RowKit
theorem awy {e:Ty}{z:Value}(h:iV e z=true):e.rowT=true∨e.one=true:=by
 cases e<;>first|exact .inl rfl|exact .inr rfl|(cases z<;>simp[iV,xt] at h)
theorem Rep.cellsOne {cap:Nat→Option CSig}{σ:Im}{t:Ty}{v:Value}{d:D}(h:Rep cap σ t v d)(ht:t.rowT=true∨t.one=true){m:Nat}{u:Value}(hu:v.cells[m]?=some u):u.oneCell'=true:=by
 obtain⟨f1,f2,f3⟩:=h.flat ht;have aq:m<v.cells.size:=(gl.1 hu).1;rw[h.size] at aq;obtain⟨g1,g2⟩:=f3 m _ (bW (by omega:m<t.flat.length));have:=(g2.oneCell g1).2;rw[gA,hu] at this;exact this
theorem aiA {cap:Nat→Option CSig}{σ:Im}{e:Ty}{cells:List Value}{xs:List D}(h:iW cap σ e cells xs)(hl:cells.length=xs.length*e.size)(gJ:e.rowT=true∨e.one=true):∀u∈cells,u.oneCell'=true:=by
 obtain⟨vs,h1,h2⟩:=h;intro u hu;obtain⟨p,hp,rfl⟩:=jt hu;rw[hl] at hp;have hs:0<e.size:=Nat.pos_of_ne_zero fun e0=>by rw[e0] at hp;simp at hp
 have hi:p/e.size<xs.length:=(Nat.div_lt_iff_lt_mul hs).2 hp;have hq:p%e.size<e.size:=Nat.mod_lt _ hs;have cB:=h1 _ _ (bW hi);have bh:=cB.size;have ox:(vs (p/e.size)).cells[p%e.size]?=some (vs (p/e.size)).cells[p%e.size]:=jo (by omega);have:=h2 _ _ _ hi ox;rw[Nat.mul_comm,Nat.div_add_mod] at this;have h3:cells[p]=(vs (p/e.size)).cells[p%e.size]:=by
  have h4:=bW (show p<cells.length by omega);rw[h4] at this;exact Bo this
 rw[h3];exact cB.cellsOne gJ ox
theorem aiz {cap:Nat→Option CSig}{σ:Im}{e:Ty}{c1 c2:List Value}{xs ys:List D}(h:iW cap σ e c1 xs)(k:iW cap σ e c2 ys)(hl:c1.length=xs.length*e.size):iW cap σ e (c1++c2) (xs++ys):=by
 obtain⟨vs,h1,h2⟩:=h;obtain⟨us,k1,k2⟩:=k;refine⟨fun i=>if i<xs.length then vs i else us (i-xs.length),fun i x hx=>?_,fun i j u hi hj=>?_⟩
 ·rw[lS] at hx;split at hx
  ·rename_i aq;simp only[aq,if_true];exact h1 i x hx
  ·rename_i aq;simp only[aq,if_false];exact k1 _ x hx
 ·by_cases aq:i<xs.length
  ·simp only[aq,if_true] at hj;have:=h2 i j u aq hj;rw[qH (iu.1 this).1];exact this
  ·simp only[aq,if_false] at hj;have fo:i-xs.length<ys.length:=by simp at hi;omega
   have:=k2 _ j u fo hj;have e1:i*e.size=c1.length+(i-xs.length)*e.size:=by rw[hl,←nT];congr 1;omega
   rw[pv (by omega)];rw[show i*e.size+j-c1.length=(i-xs.length)*e.size+j by omega];exact this
section
variable {C:Ctx} {S:St} {ρ:Env} {σ:Im} {own:Nat→Option Nat} {hv:Nat→Value} {w0:World} {σ0:Base} {A:Nat→Prop} {a:Act} {w:World} {gs:List (Nat×Bool)} {Φ:aR} {dst:Nat}
theorem awn (h:Inv C S ρ σ own hv w0 σ0 A a w){B:Nat}{e f:Ty}{v:Value}{d:D}(hs:0<e.size)(gJ:e.rowT=true∨e.one=true)(hf:f.unf=e)(O9:Ma C σ w B (.slice f) v d):
 ∃ys,d=.list ys∧ys.length≤maxLen∧((v=.slice none 0 0∧ys=[])∨∃(ad:Addr) (c:Nat) (news:List Value),v=.slice (some ad) ys.length c∧news.length=ys.length*e.size∧
  (∀j u,news[j]?=some u→w.cell? (ad.add j)=some u)∧iW C.cap σ e news ys):=by
 rcases O9 with hr|⟨T,e',cells,xs,ht,hd,df,iy⟩|⟨k,arr,clock,es,kt,et,ht,_⟩
 ·obtain⟨xs,hd,zy⟩:=hr.slice_inv;rw[←f.unf_size,hf] at zy;rcases zy with⟨⟨p0,bF⟩,rfl⟩|⟨k,o,c,bF,h1,h2,vs,h3,h4⟩
  ·cases p0 with
   |none=>exact⟨[],hd,by simp,.inl ⟨bF,rfl⟩⟩
   |some a0=>exact⟨[],hd,by simp,.inr ⟨a0,0,[],bF,by simp,fun j u hu=>by simp at hu,fun _=>undef,fun i x hx=>by simp at hx,fun i j u hi=>by simp at hi⟩⟩
  ·refine⟨xs,hd,by omega,.inr ⟨⟨k,o,none⟩,c,(List.range (xs.length*e.size)).map fun p=>(vs (p/e.size)).cells.getD (p%e.size) undef,bF,by simp,fun j u hu=>?_,vs,h3,fun i j u hi hj=>?_⟩⟩
   ·simp only[dm,aK] at hu;obtain⟨p,hp,rfl⟩:=hu;have gI:j<xs.length*e.size:=by have:=(iu.1 hp).1;simpa using this
    rw[pw gI] at hp;cases hp;have hi:j/e.size<xs.length:=(Nat.div_lt_iff_lt_mul hs).2 gI;have hq:j%e.size<e.size:=Nat.mod_lt _ hs;have cB:=h3 _ _ (bW hi);have bh:=cB.size;have ox:(vs (j/e.size)).cells[j%e.size]?=some ((vs (j/e.size)).cells.getD (j%e.size) undef):=by
     rw[gA,jo (by omega)];rfl
    have:=h.cell (h4 _ _ _ hi ox);rw[sN]
    rwa [show o+j/e.size*e.size+j%e.size=o+j by rw[FO,Nat.mul_comm,Nat.div_add_mod]] at this
   ·have cB:=h3 _ _ (bW hi);have bm:j<e.size:=by rw[←cB.size];exact(gl.1 hj).1
    have aq:i*e.size+j<xs.length*e.size:=by
     have:(i+1)*e.size≤xs.length*e.size:=nV _ hi;rw[nT] at this;omega
    have e1:(i*e.size+j)/e.size=i:=by rw[Nat.mul_comm,Nat.mul_add_div hs,Nat.div_eq_of_lt bm];omega
    have e2:(i*e.size+j)%e.size=j:=by rw[Nat.add_comm,agn,Nat.mod_eq_of_lt bm]
    simp only[dm,pw aq,kj,e1,e2];rw[gA,hj];rfl
 ·cases ht;rw[Ty.unf_rol] at hf;obtain⟨b,c,bF,hm,_⟩:=wJ df;have iy:iW C.cap σ e cells xs:=by
   obtain⟨us,u1,u2⟩:=iy;refine⟨us,fun i x hx=>hf▸(u1 i x hx).unf,fun i j u hi hu=>?_⟩;rw[←hf,Ty.unf_size];exact u2 i j u hi hu
  have df:w.ownsRow B T e.size v xs.length cells:=by rw[←hf,Ty.unf_size];exact df
  rcases df.2 with⟨e1,e2⟩|⟨g,cap,cur,e1,e2⟩
  ·have:xs=[]:=Wz e2;subst this;exact⟨[],hd,by simp,.inl ⟨e1,rfl⟩⟩
  ·exact⟨xs,hd,hm,.inr ⟨⟨g,0,none⟩,cap,cells,e1,df.1,df.cells (by rw[e1];rfl),iy⟩⟩
 ·cases ht
theorem asd {P:Program}{B:Nat}{T E ty:TypeId}{inf:TypeInfo}{z:Value}{size:Nat}{v x:Value}{n m:Nat}{xs news:List Value}(hT:P.underlying T=some (.slice E))(hi:P.info? E=some inf)(hz:inf.zero=some z)
 (hs:inf.size=size) (rF:z.cells.size=size) (bh:0<size) (jZ:inf.bytes≤wj) (df:w.ownsRow B E size v n xs) (hB:B≤w.heap.size) (dM:n+m≤4294967296)
 (hx:(x=.slice none 0 0∧m=0∧news=[])∨∃(ad:Addr) (c:Nat),x=.slice (some ad) m c∧news.length=m*size∧(∀j u,news[j]?=some u→w.cell? (ad.add j)=some u)∧∀u∈news,u.oneCell'=true):
 ∃v' w',(Builtin.append_ #[T,T] ty #[v,x]).run P w=.ok v' w'∧w'.ownsRow B E size v' (n+m) (xs++news)∧w.grownBy w' v.ownBlock∧∀k,v'.ownBlock=some k→v.ownBlock=some k∨(w.heap.size≤k∧k<w'.heap.size):=by
 rcases hx with⟨rfl,rfl,rfl⟩|⟨ad,c,rfl,hl,IX,h1⟩
 ·refine⟨v,w,run_append_owned_none w B T ty E inf size hT hi v n xs df,by simpa using df,⟨rfl,rfl,rfl,bJ _,fun _ _ _=>rfl⟩,fun k hk=>.inl hk⟩
 ·have N7:(n+m)*inf.bytes≤140737488355328:=by
   have:(n+m)*inf.bytes≤4294967296*wj:=Nat.mul_le_mul dM jZ;unfold wj at this;omega
  obtain⟨v',w',r1,r2,r3,r4⟩:=run_append_own (P:=P) w B T ty E inf z size inf.bytes hT hi hz hs rfl rF bh v n xs df ad m c news hl IX h1 (by unfold maxLen;omega) N7 hB;refine⟨v',w',r1,r2,r3,fun k hk=>?_⟩;have aq:=(r2.lt k hk).2;subst hs;rcases df.2 with⟨rfl,rfl⟩|⟨g,cap,cur,rfl,hbg,hg,fK,ku,je,C9⟩
  ·by_cases hm:m=0
   ·subst hm;have:=r4.2 ⟨rfl,rfl⟩;subst this;simp[Value.ownBlock] at hk
   ·have hr:=run_append_nil (P:=P) w T ty E inf z hT hi hz ad m c news hl IX (by omega) (by omega) (by have hb:=N7;simp only[lV] at hb;omega);rw[hr] at r1;cases r1;simp[Value.ownBlock] at hk;subst hk;exact .inr ⟨bJ _,aq⟩
  ·by_cases ZF:n+m≤cap
   ·have ale:n*inf.size+news.length≤cur.size:=by rw[hl,je,←nT];exact nV _ ZF
    have hr:=run_append_room (P:=P) w T ty E inf hT hi g n cap cur hg ad m c news hl IX h1 ZF ale;rw[hr] at r1;cases r1;exact .inl hk
   ·have hr:=run_append_grow (P:=P) w T ty E inf z hT hi hz ⟨g,0,none⟩ n cap xs df.1 (df.cells (g:=g) rfl) ad m c news hl IX (by omega) (by omega) (growslice_fits (by omega) N7);rw[hr] at r1;cases r1;simp[Value.ownBlock] at hk;subst hk;exact .inr ⟨bJ _,aq⟩
theorem ahU (h:Inv C S ρ σ own hv w0 σ0 A a w)(hC:CtxOK C σ0)(ht:¬A dst)(aq:dst<a.tmps.size){T:TypeId}{s x:Operand}{r:St×List PI}(hr:B9 C S dst T s x=some r){o:Oper}(hd:o.dst=some dst)
 (ho:o.op=.call {callee:=.builtin .append,args:=#[s,x],argTypes:=#[T,T]}):cn C w0 σ0 Φ S ρ A a w o r:=by
 unfold B9 at hr;split at hr
 case h_2=>cases hr
 rename_i E hT;simp only[aB] at hr;obtain⟨e,he,hr⟩:=hr;split at hr
 case h_2=>cases hr
 rename_i tx ex O9;have hv':=Wl h hC (gs:=[]) rfl O9;obtain⟨cs,ax⟩:=SY (C:=C) (w:=w) (a:=a) ho;cases hc:(pE C.P E e&&Lc tx e)<;>simp only[hc,cond_true,cond_false] at hr
 ·cases hr
 simp only[ay] at hc;obtain⟨inf,z,hi,hs,jZ,h1,hz,lz⟩:=NA hc.1;have rF:=Wq lz;have gJ:=awy lz;have Pa:∃f:Ty,f.unf=e∧Ma C σ w w0.heap.size (.slice f) (a.eval x) (ex.ev ρ):=by
  have da:=hc.2;unfold Lc at da;split at da
  ·exact⟨_,Ty.beq_eq _ _ da,hv'⟩
  ·refine⟨e,Ty.unf_ro gJ,?_⟩;rcases hv' with hr|⟨_,_,_,_,ht,_⟩|⟨_,_,_,_,_,_,ht,_⟩
   ·exact .inl (hr.sub (by simp[Ty.sub]))
   ·cases ht
   ·cases ht
  ·cases da
 obtain⟨fv,hvf,Pa⟩:=Pa;obtain⟨ys,IF,my,amM⟩:=awn h h1 gJ hvf Pa;have hx:∃news,iW C.cap σ e news ys∧news.length=ys.length*e.size∧((a.eval x=.slice none 0 0∧ys.length=0∧news=[])∨∃(ad:Addr) (c:Nat),a.eval x=.slice (some ad) ys.length c∧news.length=ys.length*e.size∧(∀j u,news[j]?=some u→w.cell? (ad.add j)=some u)∧∀u∈news,u.oneCell'=true):=by
  rcases amM with⟨e1,rfl⟩|⟨ad,c,news,e1,e2,e3,e4⟩
  ·exact⟨[],⟨fun _=>undef,by simp,by simp⟩,by simp,.inl ⟨e1,rfl,rfl⟩⟩
  ·exact⟨news,e4,e2,.inr ⟨ad,c,e1,e2,e3,aiA e4 e2 gJ⟩⟩
 obtain⟨news,aC,OG,hx⟩:=hx;have main:∀(j:Nat) (v:Value) (xs:List D) (cells:List Value),a.eval s=v→w.ownsRow w0.heap.size E e.size v xs.length cells→iW C.cap σ e cells xs→xs.length+ys.length≤4294967296→
  (∀k,v.ownBlock=some k→own k=some j)→
  ∃v' w',(execOp a.eval o).run C.P w=.ok (.value v') w'∧Good C w0 σ0 ((S.newO j (.row E e)).setR dst (.obj j (S.ver j+1))) ((ρ.setO j (.list (xs++ys))).setR dst .none) (fun u=>A u∨u=dst) (a.put (some dst) v') w':=by
  intro j v xs cells C8 df iy hlen cS;obtain⟨v',w',r1,r2,r3,r4⟩:=asd (P:=C.P) (ty:=o.type) hT hi hz hs rF h1 jZ df h.below.size hlen hx;refine⟨v',w',by rw[ax];simp[builtin,C8,r1],?_⟩
  have am1:=h.updO j (.row E e) (.list (xs++ys)) v' (fun k=>decide (v'.ownBlock=some k)) (w':=w') (X9 r3 h.below.size (fun k hk=>(h.owns k j (cS k hk)).1)) (fun k hk aC=>r3.block k hk (fun e=>aC (cS k e.symm))) (fun k hk=>by
        have br:v'.ownBlock=some k:=by simpa using hk
        rcases r4 k br with e|e
        ·exact⟨.inl (cS k e),(r2.lt k br).2⟩
        ·exact⟨.inr e.1,e.2⟩)
   ⟨cells++news,xs++ys,by simp[Env.setO,aS],by rw[aS,lT];exact r2,aiz iy aC df.1,fun k hk=>by rw[aS] at hk;simp[fL,hk]⟩
  have h2:=am1.setObj ht (j:=j) (v:=v') (aS _ _ _) aq;have e:(S.newO j (.row E e)).ver j=S.ver j+1:=aS _ _ _;rw[e] at h2;exact⟨_,_,_,h2⟩
 split at hr
 ·rename_i e0 pe0 hu;cases hr;refine cn.value hd fun ρ' pV=>?_;have O3:=cv h hC rfl hu;have C8:a.eval s=.slice none 0 0:=by
   generalize a.eval s=v at O3;generalize pe0.ev ρ=d at O3;cases O3;rfl
  simp only[PI.runs,PI.run,aB] at pV;obtain⟨ρ1,g1,ρ2,g2,ρ3,g3,g4⟩:=pV;cases c1:((Jj (.con (.list [])) ex).ev ρ).b<;>simp only[c1,cond_true,cond_false] at g1
  ·cases g1
  cases g1;cases g2;cases g3;cases g4;have hlen:=Xl c1;simp only[PE.ev,D.l_list,IF,uT,D.i_int,D.int] at hlen;have:=main dst (.slice none 0 0) [] [] C8 (World.ownsRow_nil _ _ _ _) ⟨fun _=>undef,by simp,by simp⟩ (by simpa using aan hlen) (by simp[Value.ownBlock]);simpa [PE.ev,D.l_list,IF,mkObj] using this
 ·cases hr
 ·obtain⟨eK,_⟩:=xl h (gs:=[]) rfl s;split at hr
  case h_2=>cases hr
  rename_i j ver es;rw[es] at eK;cases hb:Nat.beq ver (S.ver j)<;>simp only[hb,cond_true,cond_false] at hr
  ·cases hr
  have cT:=eK.2 (aG hb);have bC:=h.objs j;split at hr
  case h_2=>cases hr
  rename_i E' e' eo;rw[eo] at bC;cases lu:(Nat.beq E' E&&Ty.beq e' e)<;>simp only[lu,cond_true,cond_false] at hr
  ·cases hr
  cases hr;simp only[ay] at lu;have e1:=aG lu.1;have e2:=Ty.beq_eq _ _ lu.2;subst e1;subst e2;obtain⟨cells,xs,k1,k2,k3,k4⟩:=bC;refine cn.value hd fun ρ' pV=>?_;simp only[PI.runs,PI.run,aB] at pV;obtain⟨ρ1,g1,ρ2,g2,ρ3,g3,g4⟩:=pV;cases c1:((Jj (.o j) ex).ev ρ).b<;>simp only[c1,cond_true,cond_false] at g1
  ·cases g1
  cases g1;cases g2;cases g3;cases g4;have hlen:=Xl c1;simp only[PE.ev,D.l_list,IF,k1,D.i_int,D.int] at hlen;have:=main j (hv j) xs cells cT k2 k3 (by have:=aan hlen;simpa using this) k4;simpa [PE.ev,D.l_list,IF,k1] using this
end
end Cx
namespace Cx
open Go Go.RowKit
theorem K1 {P:Program}{a:Act}{w:World}{o:Oper}{T:TypeId}{x v:Operand}{inf:TypeInfo}{k off:Nat}{cs:Array Value}{E:TypeId}(ho:o.op=.store T x v)(hi:P.info? T=some inf)(hx:a.eval x=.pointer (some ⟨k,off,none⟩))
 (hs:(a.eval v).cells.size=inf.size) (du:∀u∈(a.eval v).cells.toList,u.oneCell'=true) (hb:w.heap[k]?=some (.cells cs E (0,0))) (hle:off+inf.size≤cs.size):
 (execOp a.eval o).run P w=.ok .skip (w.setRow k (cs.toList.take off++(a.eval v).cells.toList++cs.toList.drop (off+inf.size)).toArray):=by
 have:=run_storeCells_at P k off E (a.eval v).cells.toList 0 cs w hb (by simp[hs];exact hle) du;simp only[qL,Bd,hs] at this;simp[execOp,ho,Instr.storeAt,hx,Instr.sureAddr,storeVar,Go.sizeOf,run_typeInfo w hi,hs,this]
theorem aeU {w:World}{B k:Nat}{cs:Array Value}(hB:B≤k):Below B w (w.setRow k cs)∧∀i,i≠k→(w.setRow k cs).heap[i]?=w.heap[i]?:=
 ⟨⟨rfl,rfl,rfl,by simp[World.setRow],fun i hi=>setRow_other w k i cs (by omega)⟩,fun i hi=>setRow_other w k i cs hi⟩
theorem Ih {α:Type}(xs ys:List α)(off:Nat)(d:α)(hle:off+ys.length≤xs.length)(i:Nat):(xs.take off++ys++xs.drop (off+ys.length)).getD i d=if off≤i∧i<off+ys.length then ys.getD (i-off) d else xs.getD i d:=by
 simp only[be,nS];rw[lS,dZ,nU (by omega)];split
 ·rename_i h;rw[if_neg (by omega),gB,if_pos h]
 ·rename_i h;rw[lS];split
  ·rename_i h2;rw[if_pos (by omega)]
  ·rename_i h2;rw[if_neg (by omega),gT];congr 2;omega
section
variable {C:Ctx} {S:St} {ρ:Env} {σ:Im} {own:Nat→Option Nat} {hv:Nat→Value} {w0:World} {σ0:Base} {A:Nat→Prop} {a:Act} {w:World} {gs:List (Nat×Bool)} {Φ:aR} {dst:Nat}
theorem Inv.storeBox (h:Inv C S ρ σ own hv w0 σ0 A a w){j k off:Nat}{ag:Bool}{aJ news:List Sh}{cs:Array Value}{E:TypeId}{ds dn:List D}{vs:List Value}(eo:S.o j=.box ag aJ)
 (h1:hv j=.pointer (some ⟨k,0,none⟩)) (h2:own k=some j) (h3:w.heap[k]?=some (.cells cs E (0,0))) (h4:cs.size=aJ.length) (h5:ρ.o j=.agg ds) (h6:ds.length=aJ.length)
 (h7:∀i s,aJ[i]?=some s→(∀gs s',s≠.opt gs s')∧aT C S ρ σ hv s (cs.getD i undef) (ds.getD i .none))
 (l1:news.length=vs.length) (l2:dn.length=vs.length) (hle:off+vs.length≤aJ.length)
 (kA:∀i s,news[i]?=some s→(∀gs s',s≠.opt gs s')∧aT C S ρ σ hv s (vs.getD i undef) (dn.getD i .none)):
 Inv C (S.setO j (.box ag (aJ.take off++news++aJ.drop (off+vs.length)))) (ρ.setO j (.agg (cV ds off dn))) σ own hv w0 σ0 A a (w.setRow k (cs.toList.take off++vs++cs.toList.drop (off+vs.length)).toArray):=by
 have hkB:w0.heap.size≤k:=(h.owns k j h2).1;obtain⟨b1,b2⟩:=aeU (w:=w) (B:=w0.heap.size) (k:=k) (cs:=(cs.toList.take off++vs++cs.toList.drop (off+vs.length)).toArray) hkB;refine h.updB j _ _ b1 (fun i hi aC=>b2 i fun e=>aC (e▸h2)) ⟨k,_,E,cV ds off dn,h1,h2,setRow_heap w k cs _ E _ h3,?_,by simp[Env.setO,aS],?_,fun i s hi=>?_⟩
 ·simp[l1];omega
 ·simp[cV,l2,l1];omega
 ·have je:(cs.toList.take off++vs++cs.toList.drop (off+vs.length)).toArray.getD i undef=if off≤i∧i<off+vs.length then vs.getD (i-off) undef else cs.getD i undef:=by
   have e0:∀l:List Value,l.toArray.getD i undef=l.getD i undef:=fun l=>by simp[gA,be]
   rw[e0,Ih cs.toList vs off undef (by simp;omega),zl cs i]
  have CG:(cV ds off dn).getD i .none=if off≤i∧i<off+vs.length then dn.getD (i-off) .none else ds.getD i .none:=by
   rw[cV,Ih ds dn off .none (by omega),l2]
  rw[je,CG];have Zk:∀s v d,(∀gs s',s≠.opt gs s')→aT C S ρ σ hv s v d→aT C (S.setO j (.box ag (aJ.take off++news++aJ.drop (off+vs.length)))) (ρ.setO j (.agg (cV ds off dn))) σ hv s v d:=
   fun s v d hn hk=>aT.mono' (.refl σ) (Compat.setO _ _ _ _) hn hk
  have zW:(aJ.take off++news++aJ.drop (off+vs.length))[i]?=if off≤i∧i<off+vs.length then news[i-off]? else aJ[i]?:=by
   rw[nS,lS,dZ,nU (by omega)];split
   ·rename_i h;rw[if_neg (by omega),gB,if_pos h]
   ·rename_i h;rw[lS,l1];split
    ·rename_i h2;rw[if_pos (by omega)]
    ·rename_i h2;rw[if_neg (by omega),gT];congr 1;omega
  rw[zW] at hi;split
  ·rename_i hc;rw[if_pos hc] at hi;obtain⟨g1,g2⟩:=kA _ s hi;exact⟨g1,Zk _ _ _ g1 g2⟩
  ·rename_i hc;rw[if_neg hc] at hi;obtain⟨g1,g2⟩:=h7 _ s hi;exact⟨g1,Zk _ _ _ g1 g2⟩
theorem asa (h:Inv C S ρ σ own hv w0 σ0 A a w){j:Nat}(hr:mA (S.o j)=true):(hv j).cells=#[hv j]∧(hv j).oneCell'=true:=by
 have bC:=h.objs j;cases cS:S.o j with
 |row T e=>
  rw[cS] at bC;obtain⟨cells,xs,h1,h2,h3,h4⟩:=bC;obtain⟨b,c,e1,_⟩:=wJ h2;rw[e1];exact⟨rfl,rfl⟩
 |mp kt et=>
  rw[cS] at bC;obtain⟨k0,arr,clock,es,h1,_⟩:=bC;rw[h1];exact⟨rfl,rfl⟩
 |_=>rw[cS] at hr;simp[mA] at hr
theorem Inv.storeRow (h:Inv C S ρ σ own hv w0 σ0 A a w){j k n c i p:Nat}{T:TypeId}{e:Ty}{cells vs:List Value}{xs:List D}{v':Value}{d':D}(eo:S.o j=.row T e)(eL:hv j=.slice (some ⟨k,0,none⟩) n c)
 (h1:ρ.o j=.list xs) (h2:w.ownsRow w0.heap.size T e.size (hv j) xs.length cells) (h3:iW C.cap σ e cells xs) (h4:∀k,(hv j).ownBlock=some k→own k=some j) (hi:i<xs.length)
 (CZ:i*e.size≤p) (fX:p+vs.length≤i*e.size+e.size) (hr:Rep C.cap σ e v' d')
 (hv':∀q u,v'.cells[q]?=some u→(cells.take p++vs++cells.drop (p+vs.length))[i*e.size+q]?=some u):
 ∃cur,w.heap[k]?=some (.cells cur T (0,0))∧p+vs.length≤cur.size∧Inv C S (ρ.setO j (.list (xs.set i d'))) σ own hv w0 σ0 A a (w.setRow k (cur.toList.take p++vs++cur.toList.drop (p+vs.length)).toArray):=by
 have bD:=h2.1;rcases h2.2 with⟨e0,e1⟩|⟨g,cap,cur,e1,e2,e3,e4,e5,e6,e7⟩
 ·omega
 rw[eL] at e1;cases e1;have aly:i*e.size+e.size≤xs.length*e.size:=by
  have:(i+1)*e.size≤xs.length*e.size:=nV _ hi;rw[nT] at this;omega
 have aBc:xs.length*e.size≤c*e.size:=nV _ e4;have amo:p+vs.length≤cur.size:=by omega
 refine⟨cur,e3,amo,?_⟩;have df:own k=some j:=h4 k (by rw[eL];rfl);obtain⟨b1,b2⟩:=aeU (w:=w) (B:=w0.heap.size) (k:=k) (cs:=(cur.toList.take p++vs++cur.toList.drop (p+vs.length)).toArray) e2;have C9:(cur.toList.take p++vs++cur.toList.drop (p+vs.length)).take (xs.length*e.size)=cells.take p++vs++cells.drop (p+vs.length):=by
  rw[←e7];apply WA;intro q;simp only[nS,gB,lS,dZ,gT,Bd];by_cases hq:q<xs.length*e.size
  ·rw[if_pos hq];by_cases ZB:q<p
   ·simp[ZB,Nat.lt_min,show q<cur.size by omega,hq]
   ·by_cases iJ:q-p<vs.length
    ·rw[if_neg (by omega),nU (by omega),if_pos iJ,if_neg (by omega),nU (by omega),if_pos iJ]
    ·rw[if_neg (by omega),nU (by omega),if_neg iJ,if_neg (by omega),nU (by omega),if_neg iJ,if_pos (by omega)]
  ·rw[if_neg hq];have:¬q<p:=by omega
   rw[if_neg (by omega),nU (by omega),if_neg (by omega),if_neg (by omega)]
 have:=h.updB j (.row T e) (.list (xs.set i d')) b1 (fun q hq aC=>b2 q fun e=>aC (e▸df))
  ⟨cells.take p++vs++cells.drop (p+vs.length),xs.set i d',by simp[Env.setO,aS],⟨by simp;omega,.inr ⟨k,c,_,by rw[eL];simp,e2,setRow_heap w k cur _ T _ e3,by simpa using e4,e5,by simp;omega,by simpa using C9⟩⟩,?_,h4⟩
 ·rw[St.setO_self eo] at this;exact this
 ·obtain⟨us,u1,u2⟩:=h3;refine⟨fun q=>if q=i then v' else us q,fun q x hx=>?_,fun q m u hq hm=>?_⟩
  ·rw[Bk] at hx;by_cases zU:i=q
   ·subst zU;simp only[if_true] at hx ⊢;rw[if_pos hi] at hx;cases hx;exact hr
   ·rw[if_neg zU] at hx;simp only[show ¬q=i from fun e=>zU e.symm,if_false];exact u1 q x hx
  ·by_cases zU:q=i
   ·subst zU;simp only[if_true] at hm;exact hv' m u hm
   ·simp only[zU,if_false] at hm;simp only[List.length_set] at hq;have h9:=u2 q m u hq hm;have aBp:m<e.size:=by rw[←(u1 q _ (bW hq)).size];exact(gl.1 hm).1
    have jD:q*e.size+m<p∨p+vs.length≤q*e.size+m:=by
     rcases L4 q i with aq|gH
     ·left;have:(q+1)*e.size≤i*e.size:=nV _ aq;rw[nT] at this;omega
     ·right;have:(i+1)*e.size≤q*e.size:=nV _ (by omega);rw[nT] at this;omega
    rw[nS,lS,dZ,nU (by omega)];rcases jD with ho|ho
    ·rw[if_pos ho,gB,if_pos ho];exact h9
    ·rw[if_neg (by omega),pv (by omega),gT];rw[show p+vs.length+(q*e.size+m-p-vs.length)=q*e.size+m by omega];exact h9
theorem ail (h:Inv C S ρ σ own hv w0 σ0 A a w)(hC:CtxOK C σ0){T:TypeId}{x v:Operand}{r:St×List PI}(hr:Ch C S T x v=some r){o:Oper}(hd:o.dst=none)(ho:o.op=.store T x v):cn C w0 σ0 Φ S ρ A a w o r:=by
 unfold Ch at hr;split at hr
 case h_2=>cases hr
 rename_i inf hi;obtain⟨eK,_⟩:=xl h (gs:=[]) rfl x;split at hr
 case h_3=>cases hr
 ·rename_i j ver off es;rw[es] at eK;cases hb:Nat.beq ver (S.ver j)<;>simp only[hb,cond_true,cond_false] at hr
  ·cases hr
  obtain⟨k,eL,fH⟩:=eK.2 (aG hb);have bC:=h.objs j;split at hr
  case h_2=>cases hr
  rename_i ag aJ eo;rw[eo] at bC;obtain⟨k',cs,E,ds,h1,h2,h3,h4,h5,h6,h7⟩:=bC;have cr:=h1;rw[eL] at h1;cases h1;split at hr
  ·rename_i t e hu;have hv':=cv h hC rfl hu;cases hc:(Nat.beq inf.size t.size&&(t.rowT||t.one)&&Nat.ble (off+t.size) aJ.length)<;>simp only[hc,cond_true,cond_false] at hr
   ·cases hr
   cases hr;simp only[ay,kV] at hc;obtain⟨⟨bh,gJ⟩,hle⟩:=hc;have bh:=aG bh;have hle:=kZ hle;obtain⟨f1,f2,f3⟩:=hv'.flat gJ;have jF:=hv'.size;refine cn.skip hd fun ρ' ax=>?_;rw[sl ax]
   refine⟨_,K1 ho hi fH (by rw[jF,bh]) (fun u hu=>by
        obtain⟨m,hm,rfl⟩:=jt hu;exact hv'.cellsOne gJ (m:=m) (by simp at hm ⊢)) h3 (by omega),?_⟩
   have da:=h.storeBox (off:=off) (news:=t.flat.map .dat) (vs:=(a.eval v).cells.toList) (dn:=(e.ev ρ).cells) eo cr h2 h3 h4 h5 h6 h7 (by simp[f1,jF]) (by simp[f2,jF]) (by simp[jF];omega) (fun i s hi=>by
        simp only[dm,aK] at hi;obtain⟨ti,Da,rfl⟩:=hi;refine⟨fun _ _ e=>(by cases e),?_⟩;rw[zl];exact(f3 i ti Da).2)
   have e1:(a.eval v).cells.toList.length=t.size:=by simp[jF]
   rw[e1] at da;rw[bh];refine⟨σ,own,hv,?_⟩;simpa [PE.ev,h5,D.cells] using da
  ·split at hr
   case h_2=>cases hr
   rename_i j' qz fT;obtain⟨O0,_⟩:=xl h (gs:=[]) rfl v;rw[fT] at O0;cases hc:(Nat.beq qz (S.ver j')&&mA (S.o j')&&Nat.beq inf.size 1&&Nat.blt off aJ.length)<;>simp only[hc,cond_true,cond_false] at hr
   ·cases hr
   cases hr;simp only[ay] at hc;obtain⟨⟨⟨am4,fY⟩,bh⟩,aq⟩:=hc;have bh:=aG bh;have aq:off<aJ.length:=by simpa [py] using aq
   have cT:=O0.2 (aG am4);obtain⟨c1,c2⟩:=asa h fY;have j0:(a.eval v).cells=#[a.eval v]:=by rw[cT];exact c1
   refine cn.skip hd fun ρ' ax=>?_;rw[sl ax];refine⟨_,K1 ho hi fH (by rw[j0,bh];rfl) (fun u hu=>by rw[j0] at hu;simp at hu;subst hu;rw[cT];exact c2) h3 (by omega),?_⟩
   have da:=h.storeBox (off:=off) (news:=[.obj j' qz]) (vs:=[a.eval v]) (dn:=[.none]) eo cr h2 h3 h4 h5 h6 h7 rfl rfl (by simp;omega) (fun i s hi=>by
        match i,hi with
        |0,hi=>simp at hi;subst hi;exact⟨fun _ _ e=>(by cases e),O0.1,fun _=>by simpa using cT⟩
        |i+1,hi=>simp at hi)
   rw[j0,bh];have e2:aJ.take off++[Sh.obj j' qz]++aJ.drop (off+[a.eval v].length)=aJ.set off (.obj j' qz):=by
        rw[List.set_eq_take_append_cons_drop,if_pos aq];simp
   rw[e2] at da;refine⟨σ,own,hv,?_⟩;simpa [PE.ev,h5,D.cells] using da
 ·rename_i j ver size off es;rw[es] at eK;cases hb:Nat.beq ver (S.ver j)<;>simp only[hb,cond_true,cond_false] at hr
  ·cases hr
  obtain⟨k,n,c,ik,i,eL,td,cf,fH⟩:=eK.2 (aG hb);have bC:=h.objs j;split at hr
  ·rename_i T' ts t e eo hu;rw[eo] at bC;have hv':=cv h hC rfl hu;cases hc:(Nat.beq inf.size t.size&&(t.rowT||t.one)&&Nat.beq size ts.length&&Nat.ble (off+t.size) ts.length&&Ty.subs t.flat ((ts.drop off).take t.size))<;>simp only[hc,cond_true,cond_false] at hr
   ·cases hr
   cases hr;simp only[ay,kV] at hc;obtain⟨⟨⟨⟨bh,gJ⟩,vS⟩,hle⟩,cJ⟩:=hc;have bh:=aG bh;have vS:=aG vS;have hle:=kZ hle;obtain⟨f1,f2,f3⟩:=hv'.flat gJ;have jF:=hv'.size;have f1:t.flat.length=t.size:=f1;have f2:(e.ev ρ).cells.length=t.size:=f2;have jF:(a.eval v).cells.size=t.size:=jF;obtain⟨cells,xs,k1,k2,k3,k4⟩:=bC;obtain⟨b,c',e1,vL,vM⟩:=wJ k2;rw[eL] at e1;cases e1;obtain⟨us,u1,u2⟩:=k3;obtain⟨y,hy⟩:∃y,xs[i]?=some y:=⟨_,bW cf⟩
   obtain⟨os,ds,zZ,Oc,l1,l2,aW,du⟩:=(u1 i y hy).agg_inv;have Dg:(a.eval v).cells.toList.length=t.size:=by simp[jF]
   have kA:Rep C.cap σ (.agg ts) (.agg (os.take off++(a.eval v).cells.toList++os.drop (off+(a.eval v).cells.toList.length)).toArray) (.agg (cV ds off (e.ev ρ).cells)):=by
        refine .agg _ _ _ (by simp[jF];omega) (by simp[cV,f2];omega) (fun m tm hm=>?_) du;rw[Ih os _ off undef (by rw[Dg];omega),cV,Ih ds _ off .none (by rw[f2];omega),Dg,f2];split
        ·rename_i hc;have amQ:=Ty.subs_get _ _ cJ (m-off) tm (by
          rw[gB,if_pos (by omega),gT,show off+(m-off)=m by omega];exact hm)
         obtain⟨tf,htf,da⟩:=amQ;rw[zl];exact((f3 _ tf htf).2).sub da
        ·exact aW m tm hm
   have bD:=k2.1;have aly:i*(Ty.agg ts).size+(Ty.agg ts).size≤xs.length*(Ty.agg ts).size:=by
        have:(i+1)*(Ty.agg ts).size≤xs.length*(Ty.agg ts).size:=nV _ cf;rw[nT] at this;omega
   have ZL:(Ty.agg ts).size=ts.length:=rfl
   obtain⟨cur,q1,q2,q3⟩:=h.storeRow (i:=i) (p:=i*(Ty.agg ts).size+off) (vs:=(a.eval v).cells.toList) eo eL k1 k2 ⟨us,u1,u2⟩ k4 cf (by omega) (by rw[Dg];omega) kA (fun q u hq=>by
        have dv:(os.take off++(a.eval v).cells.toList++os.drop (off+(a.eval v).cells.toList.length))[q]?=some u:=by simpa [Value.cells] using hq
        have aBu:q<ts.length:=by have:=(iu.1 dv).1;simp[jF] at this;omega
        rw[nS,lS,dZ,nU (by omega)] at dv;rw[nS,lS,dZ,nU (by omega)];by_cases pU:q<off
        ·rw[if_pos pU,gB,if_pos pU] at dv;rw[if_pos (by omega),gB,if_pos (by omega)];exact u2 i q u cf (by rw[zZ];simpa [Value.cells] using dv)
        ·rw[if_neg pU,lS] at dv;rw[if_neg (by omega),lS];rw[show i*(Ty.agg ts).size+q-(i*(Ty.agg ts).size+off)=q-off by omega];by_cases OS:q-off<(a.eval v).cells.toList.length
         ·rw[if_pos OS] at dv ⊢;exact dv
         ·rw[if_neg OS,gT] at dv;rw[if_neg OS,gT];rw[show off+(a.eval v).cells.toList.length+(q-off-(a.eval v).cells.toList.length)=q by omega] at dv;rw[show i*(Ty.agg ts).size+off+(a.eval v).cells.toList.length+(q-off-(a.eval v).cells.toList.length)=i*(Ty.agg ts).size+q by omega];exact u2 i q u cf (by rw[zZ];simpa [Value.cells] using dv))
   refine cn.skip hd fun ρ' ax=>?_;rw[sl ax]
   refine⟨_,K1 ho hi (cs:=cur) (by rw[fH,vS]) (by rw[jF,bh]) (fun u hu=>by
        obtain⟨m,hm,rfl⟩:=jt hu;exact hv'.cellsOne gJ (m:=m) (by simp at hm ⊢)) q1 (by rw[Dg] at q2;rw[bh,←ZL];exact q2),σ,own,hv,?_⟩
   rw[Dg] at q3;simp only[PE.ev,k1,D.l_list,td,D.i_int,uQ,rf hy,Oc,sv];rw[bh,←ZL];exact q3
  ·rename_i T' e0 t e aC eo hu;rw[eo] at bC;have hv':=cv h hC rfl hu;cases hc:(Nat.beq inf.size 1&&Nat.beq size 1&&Nat.beq off 0&&e0.one&&Ty.sub t e0)<;>simp only[hc,cond_true,cond_false] at hr
   ·cases hr
   cases hr;simp only[ay] at hc;obtain⟨⟨⟨⟨bh,vS⟩,iI⟩,du⟩,cJ⟩:=hc;have bh:=aG bh;have vS:=aG vS;have iI:=aG iI;subst iI;subst vS;have ZP:=hv'.sub cJ;obtain⟨c1,c2⟩:=ZP.oneCell du;have CJ:e0.size=1:=by cases e0<;>simp_all [Ty.size,Ty.one]
   obtain⟨cells,xs,k1,k2,k3,k4⟩:=bC;obtain⟨b,c',e1,vL,vM⟩:=wJ k2;rw[eL] at e1;cases e1;obtain⟨y,hy⟩:∃y,xs[i]?=some y:=⟨_,bW cf⟩
   have bD:=k2.1
   obtain⟨cur,q1,q2,q3⟩:=h.storeRow (i:=i) (p:=i*e0.size) (vs:=[a.eval v]) eo eL k1 k2 k3 k4 cf (bJ _) (by rw[CJ];simp) ZP (fun q u hq=>by
        rw[c1] at hq;have zT:q=0:=by have:=(gl.1 hq).1;simpa using this
        subst zT;simp at hq;subst hq;have:i*e0.size≤cells.length:=by rw[bD];exact nV _ (by omega)
        rw[nS,pv (by simp;omega)];simp[nU this])
   refine cn.skip hd fun ρ' ax=>?_;rw[sl ax];refine⟨_,K1 ho hi (cs:=cur) (by rw[fH]) (by rw[c1,bh];rfl) (fun u hu=>by rw[c1] at hu;simp at hu;subst hu;exact c2) q1 (by rw[CJ] at q2;rw[bh];simpa using q2),σ,own,hv,?_⟩;rw[c1,bh];have Dk:sv y 0 (e.ev ρ)=e.ev ρ:=by
        obtain⟨us,u1,u2⟩:=k3;have:=(u1 i y hy).dcells du;cases y with
        |agg ds=>have h8:=u1 i _ hy;generalize us i=vv at h8;cases h8;simp[Ty.one] at du
        |_=>rfl
   simp only[PE.ev,k1,D.l_list,td,D.i_int,uQ,rf hy,Dk];rw[CJ] at q3;simpa using q3
  ·cases hr
end
end Cx
namespace Cx
open Go Go.RowKit
section
variable {C:Ctx} {S:St} {ρ:Env} {σ:Im} {own:Nat→Option Nat} {hv:Nat→Value} {w0:World} {σ0:Base} {A:Nat→Prop} {a:Act} {w:World} {gs:List (Nat×Bool)} {Φ:aR} {dst:Nat}
theorem aiI {ρ:Env}{es:List PE}{i:Nat}{e:PE}(h:es[i]?=some e):(PE.evs ρ es)[i]?=some (e.ev ρ):=by
 rw[PE.evs_eq,dm,h];rfl
theorem XA (h:Inv C S ρ σ own hv w0 σ0 A a w)(hC:CtxOK C σ0)(hg:holds gs ρ=true){T:TypeId}{len:Nat}{ps:Array (Nat×Operand)}{r:St×List PI}(hr:vj C S gs dst T len ps.toList=some r){o:Oper}
 (ho:o.op=.buildSlice T len ps):∃(E:TypeId) (e:Ty) (es:List PE) (v:Value) (w':World),C.P.underlying T=some (.slice E)∧nO C.P E=some e∧r=(mkObj S dst (.row E e),[.setO dst (.lst es),.setR dst (.con .none)])∧
   (execOp a.eval o).run C.P w=.ok (.value v) w'∧Below w.heap.size w w'∧(∀k,Nat.beq k w.heap.size=true→w.heap.size≤k∧k<w'.heap.size)∧
   dI C (S.newO dst (.row E e)) (ρ.setO dst (.list (PE.evs ρ es))) σ (fL own dst (fun k=>Nat.beq k w.heap.size)) (cu hv dst v) w' w0.heap.size dst (.row E e):=by
 unfold vj at hr;split at hr
 case h_2=>cases hr
 rename_i E hT;simp only[aB] at hr;obtain⟨e,he,z,hz,hr⟩:=hr;cases hc:(pE C.P E e&&Ty.sub z.1 e&&lE (ps.toList.map (·.1))&&ps.toList.all (fun p=>Nat.blt p.1 len)&&Nat.ble (len*e.size) 16777216)<;>simp only[hc,cond_true,cond_false] at hr
 ·cases hr
 simp only[ay] at hc;obtain⟨⟨⟨⟨hef,cJ⟩,bS⟩,eu⟩,hle⟩:=hc;have hle:=kZ hle;obtain⟨inf,zv,hi,hs,jZ,h1,hzv,lz⟩:=NA hef;have rF:=Wq lz;have ly:=rK bS;have Dl:=((xu (cap:=C.cap) (σ:=σ) hz lz).1).sub cJ;simp only[aK] at hr;obtain⟨es,ky,rfl⟩:=hr;obtain⟨XK,el2⟩:=mapM_some _ _ _ ky;simp only[List.length_range] at XK;have YI:∀i,i<len→∃pe,es[i]?=some pe∧Ia C S gs e z.2 ps.toList i=some pe:=by
  intro i hi;obtain⟨y,ZX,Dj⟩:=el2 i i (by rw[pw hi]);exact⟨y,ZX,Dj⟩
 have pS:∀x,x∈ps.toList→x.1<len∧∃t pe,use C S gs x.2=some (t,pe)∧Ty.sub t e=true∧es[x.1]?=some pe:=by
  intro x hx;have vZ:x.1<len:=by
   have:=eQ.1 eu x hx;simpa [py] using this
  refine⟨vZ,?_⟩;obtain⟨pe,CZ,fX⟩:=YI x.1 vZ;have CL:=XY ly (i:=x.1) (x:=x.2) hx;simp only[Ia,CL,aB] at fX;obtain⟨y,hy,fX⟩:=fX;cases hs:Ty.sub y.1 e<;>simp only[hs,cond_true,cond_false] at fX
  ·cases fX
  cases fX;exact⟨y.1,y.2,hy,hs,CZ⟩
 let c0:Array Value:=madeCells zv.cells (len*e.size)
 have CD:c0.size=len*e.size:=size_madeCells _ _
 have pX:∀p,p∈(ps.toList.map fun(x:Nat×Operand)=>(x.1,a.eval x.2))→∃o,(fun i=>some (i*e.size,e.size)) p.1=some (o,p.2.cells.size)∧o+p.2.cells.size≤c0.size:=by
  intro p hp;obtain⟨x,hx,rfl⟩:=eR.1 hp;obtain⟨vZ,t,pe,hu,da,_⟩:=pS x hx;have zX:=((cv h hC hg hu).sub da).size;simp only;refine⟨x.1*e.size,by rw[zX],?_⟩;rw[zX,CD];have:(x.1+1)*e.size≤len*e.size:=nV _ vZ;rw[nT] at this;omega
 have zA:∀(i j oi si oj sj:Nat),i≠j→(fun i=>some (i*e.size,e.size)) i=some (oi,si)→(fun i=>some (i*e.size,e.size)) j=some (oj,sj)→oi+si≤oj∨oj+sj≤oi:=by
  intro i j oi si oj sj aC hi hj;simp only[bp,mW] at hi hj;obtain⟨rfl,rfl⟩:=hi;obtain⟨rfl,rfl⟩:=hj;rcases L4 i j with aq|gH
  ·left;have:(i+1)*e.size≤j*e.size:=nV _ aq;rw[nT] at this;omega
  ·right;have:(j+1)*e.size≤i*e.size:=nV _ (by omega);rw[nT] at this;omega
 obtain⟨fc,f1,f2,f3,f4⟩:=NI (fun i=>some (i*e.size,e.size)) (ps.toList.map fun(x:Nat×Operand)=>(x.1,a.eval x.2)) c0 pX zA (by simpa [LP] using ly);have ax:(execOp a.eval o).run C.P w=.ok (.value (.slice (some ⟨w.heap.size,0,none⟩) len len)) (w.alloc (.cells fc E)):=by
  have n1:¬(len*inf.size>2^24):=by rw[hs];omega
  have Ie:Instr.fill (fun i=>some (i*inf.size,inf.size)) c0 (ps.toList.map fun(x:Nat×Operand)=>(x.1,a.eval x.2))=some fc:=by rw[hs];exact f1
  by_cases h0:len*inf.size=0
  ·have N9:c0=#[]:=by
        apply LI;rw[CD,←hs];exact h0
   rw[N9] at Ie
   have aiQ:Instr.fill (fun i=>some (i*inf.size,inf.size)) (Array.map (fun _=>default) (Array.range 0)) (ps.toList.map fun(x:Nat×Operand)=>(x.1,a.eval x.2))=some fc:=by
        have:(Array.map (fun _=>(default:Value)) (Array.range 0))=#[]:=by simp
        rw[this];exact Ie
   simp[execOp,ho,Instr.buildSlice,run_underlying hT,Go.sizeOf,run_typeInfo w hi,n1,h0,aiQ,newRow]
  ·have N9:c0=(Array.range (len*inf.size)).map (fun x=>zv.cells[x%zv.cells.size]!):=by simp only[c0,madeCells,hs]
   rw[N9] at Ie;have h00:¬(len=0∨inf.size=0):=by rw[←Nat.mul_eq_zero];exact h0
   simp[execOp,ho,Instr.buildSlice,run_underlying hT,Go.sizeOf,run_typeInfo w hi,n1,h0,h00,zeroValue,hzv,Ie,newRow]
 refine⟨E,e,es,_,_,hT,he,rfl,ax,(Below.refl _ _).alloc (bJ _) _,fun k hk=>by simp at hk;simp;omega,?_⟩;have iy:(PE.evs ρ es).length=len:=by rw[PE.evs_eq,mV,XK]
 have alk:∀(i:Nat) (x:D),(PE.evs ρ es)[i]?=some x→∃v,Rep C.cap σ e v x∧∀q u,v.cells[q]?=some u→fc.toList[i*e.size+q]?=some u:=by
  intro i x hx;have IL:i<len:=by have:=(iu.1 hx).1;omega
  obtain⟨pe,CZ,fX⟩:=YI i IL;rw[aiI CZ] at hx;cases hx;unfold Ia at fX;split at fX
  ·rename_i p hp;have Zz:=xG hp;have I1:p.1=i:=by have:=LX hp;simpa using this
   obtain⟨_,t,pe',hu,da,tu⟩:=pS p Zz;rw[I1,CZ] at tu;cases tu;have cB:=(cv h hC hg hu).sub da;refine⟨_,cB,fun q u hq=>?_⟩;have I2:q<(a.eval p.2).cells.size:=(gl.1 hq).1;have:=f3 p.1 (a.eval p.2) (p.1*e.size) (eR.2 ⟨p,Zz,rfl⟩) (by simp[cB.size]) q I2;rw[I1] at this;simp[this,hq]
  ·rename_i hp;cases fX;refine⟨zv,Dl,fun q u hq=>?_⟩;have I2:q<zv.cells.size:=(gl.1 hq).1
   have ml:i∉(ps.toList.map fun(x:Nat×Operand)=>(x.1,a.eval x.2)).map (·.1):=by
        intro cI;simp only[LZ,eR,LP] at cI;obtain⟨x,Ab,e⟩:=cI;have:=sG.1 hp x Ab;simp[e] at this
   have:=f4 i (i*e.size) e.size ml rfl q (by omega);have h9:c0[i*e.size+q]?=zv.cells[q]?:=by
        simp only[c0];rw[←rF];exact aaA (by omega) IL I2
   simp[this,h9,hq]
 have jF:∃vs:Nat→Value,∀(i:Nat) (x:D),(PE.evs ρ es)[i]?=some x→Rep C.cap σ e (vs i) x∧∀q u,(vs i).cells[q]?=some u→fc.toList[i*e.size+q]?=some u:=by
  have j1:∀i,∃v,∀x,(PE.evs ρ es)[i]?=some x→Rep C.cap σ e v x∧∀q u,v.cells[q]?=some u→fc.toList[i*e.size+q]?=some u:=by
   intro i;cases hx:(PE.evs ρ es)[i]? with
   |none=>exact⟨undef,fun x db=>by cases db⟩
   |some x=>
    obtain⟨v,hv⟩:=alk i x hx;exact⟨v,fun y hy=>by cases hy;exact hv⟩
  exact⟨fun i=>Classical.choose (j1 i),fun i x hx=>Classical.choose_spec (j1 i) x hx⟩
 obtain⟨vs,jF⟩:=jF;have je:fc.size=len*e.size:=by rw[f2,CD]
 refine⟨fc.toList,PE.evs ρ es,by simp[Env.setO,aS],?_,⟨vs,fun i x hx=>(jF i x hx).1,fun i j u hi hj=>(jF i _ (bW hi)).2 j u hj⟩,fun k hk=>by rw[aS] at hk;simp[Value.ownBlock] at hk;simp[fL,hk]⟩;rw[aS,iy];have Ox:len≤maxLen:=by
  have:len*1≤len*e.size:=Nat.mul_le_mul_left _ h1;unfold maxLen;omega
 exact⟨by simp[je],.inr ⟨w.heap.size,len,fc,rfl,h.below.size,heap_alloc_new w _,bJ _,Ox,je,by rw[Bn (by simp[je])]⟩⟩
theorem ahY (h:Inv C S ρ σ own hv w0 σ0 A a w)(hC:CtxOK C σ0)(ht:¬A dst)(aq:dst<a.tmps.size){T:TypeId}{len:Nat}{ps:Array (Nat×Operand)}{r:St×List PI}(hr:vj C S [] dst T len ps.toList=some r){o:Oper}(hd:o.dst=some dst)
 (ho:o.op=.buildSlice T len ps):cn C w0 σ0 Φ S ρ A a w o r:=by
 obtain⟨E,e,es,v,w',_,_,rfl,ax,hb,dL,cS⟩:=XA h hC rfl hr ho;refine cn.value hd fun ρ' pV=>⟨_,_,ax,?_⟩
 rw[Fl pV];exact h.mkObj ht aq (.row E e) _ _ (fun k=>Nat.beq k w.heap.size) hb dL cS
theorem Inv.kill (h:Inv C S ρ σ own hv w0 σ0 A a w)(j:Nat):Inv C (S.newO j .dead) ρ σ own hv w0 σ0 A a w:=by
 have fq:∀i,S.ver i≤(S.newO j .dead).ver i:=by
  intro i;show S.ver i≤cu S.ver j (S.ver j+1) i;rw[gj];by_cases e:i=j
  ·subst e;simp
  ·simp[e]
 have hc:Compat S hv (S.newO j .dead) hv:=⟨fq,fun _ _=>rfl⟩
 refine h.step (·=j) rfl (.refl σ) h.ok (fun _ _ _ hx=>.inl hx) (fun _ _ hx=>.inl hx) (.refl _ _) hc (fun i hi=>⟨by simp[St.newO,bO _ _ hi],rfl,rfl,fun k hk=>⟨hk,rfl⟩⟩) (fun i hi=>?_) h.owns (fun _=>id) (fun t=>.inl ⟨rfl,rfl,rfl⟩) (fun _ _=>rfl) (fun _ _ _=>rfl) (fun k i hk=>.inl ⟨i,hk⟩) (fun i hi=>by subst hi;simp[St.newO,aS]);subst hi;simp only[St.newO,aS];trivial
theorem ah8 (h:Inv C S ρ σ own hv w0 σ0 A a w)(hC:CtxOK C σ0)(ht:¬A dst)(aq:dst<a.tmps.size)(dU:∀g,g∈gs→A g.1)(hg:holds gs ρ=true){T:TypeId}{len:Nat}{ps:Array (Nat×Operand)}{r:St×List PI}(hr:zd C S gs dst T len ps.toList=some r){o:Oper}(hd:o.dst=some dst)
 (ho:o.op=.buildSlice T len ps):cn C w0 σ0 Φ S ρ A a w o r:=by
 unfold zd at hr;split at hr
 case h_2=>cases hr
 rename_i E q hT hq;simp only[aB] at hr;obtain⟨e,he,hr⟩:=hr;obtain⟨E',e',es,v,w',zq,rl,rfl,ax,hb,dL,cS⟩:=XA h hC hg hq ho;rw[hT] at zq;cases zq;rw[he] at rl;cases rl;cases hr;refine cn.value hd fun ρ' pV=>⟨_,_,ax,?_⟩
 have hρ:ρ'=ρ.setR dst (.list (PE.evs ρ es)):=by simp[PI.runs,PI.run,PE.ev] at pV;exact pV.symm
 subst hρ;have h1:=h.newO dst (.row E e) (.list (PE.evs ρ es)) v (fun k=>Nat.beq k w.heap.size) hb dL cS;obtain⟨σ2,iP,_,h2⟩:=h1.fz dst;have Om:(S.newO dst (.row E e)).fz dst=(S.newO dst (.row E e)).setO dst (.fz (.slice e.rol)):=by
  have:(S.newO dst (.row E e)).o dst=.row E e:=aS _ _ _;unfold St.fz;rw[this]
 rw[Om] at h2;have bC:=h2.objs dst;have e1:((S.newO dst (.row E e)).setO dst (.fz (.slice e.rol))).o dst=.fz (.slice e.rol):=aS _ _ _;rw[e1] at bC;have cB:Rep C.cap σ2 (.slice e.rol) v (.list (PE.evs ρ es)):=by
  have:=bC.2
  rwa [aS,show(ρ.setO dst (.list (PE.evs ρ es))).o dst=.list (PE.evs ρ es) from aS _ _ _] at this
 have h3:Inv C (S.newO dst .dead) ρ σ2 iP (cu hv dst v) w0 σ0 A a w':=by
  refine h2.step (·=dst) rfl (.refl σ2) h2.ok (fun _ _ _ hx=>.inl hx) (fun _ _ hx=>.inl hx) (.refl _ _) ⟨fun i=>bJ _,fun _ _=>rfl⟩ (fun i hi=>⟨?_,?_,rfl,fun k hk=>⟨hk,rfl⟩⟩) (fun i hi=>?_) h2.owns (fun _=>id) (fun t=>.inl ⟨rfl,rfl,rfl⟩) (fun _ _=>rfl) (fun _ _ _=>rfl) (fun k i hk=>.inl ⟨i,hk⟩) (fun i hi=>by subst hi;simp[St.newO,aS])
  ·simp[St.newO,St.setO,bO _ _ hi]
  ·simp[Env.setO,bO _ _ hi]
  ·subst hi;simp only[St.newO,aS];trivial
 have hh:holds gs (ρ.setR dst (.list (PE.evs ρ es)))=true:=by rw[CX (t:=dst) fun g hm e=>ht (by rw[←e];exact dU g hm)];exact hg
 cases gs with
 |nil=>exact⟨_,_,_,h3.setReg ht (s:=.dat (.slice e.rol)) cB aq (fun _ _ e=>by cases e)⟩
 |cons g bT=>
  refine⟨_,_,_,h3.setReg ht (s:=.opt (g::bT) (.dat (.slice e.rol))) ⟨fun _=>cB,fun e=>absurd (hh.symm.trans e) (by decide)⟩ aq (fun gs s e=>?_)⟩;cases e;exact⟨dU,fun _ _ e=>by cases e⟩
end
end Cx
namespace Cx
open Go Go.RowKit
open Classical in
def Im.noM (σ:Im):Im:=⟨σ.c,fun k=>if σ.m k=some fl then none else σ.m k⟩
theorem Rep.noM {cap:Nat→Option CSig}{σ:Im}{t:Ty}{v:Value}{d:D}(h:Rep cap σ t v d):Rep cap σ.noM t v d:=by
 induction h with
 |int k n h1 h2=>exact .int k n h1 h2
 |bool b=>exact .bool b
 |str s h=>exact .str s h
 |agg ts vs ds h1 h2 _ ho ih=>exact .agg ts vs ds h1 h2 ih ho
 |tup ts vs ds h1 h2 _ ih=>exact .tup ts vs ds h1 h2 ih
 |nil e=>exact .nil e
 |emp e a=>exact .emp e a
 |nils e=>exact .nils e
 |nsl0 e=>exact .nsl0 e
 |nsl e k o n c xs _ hx ih=>exact .nsl e k o n c xs ih hx
 |slice e k o n c xs vs hn hc hm _ hv ih=>exact .slice e k o n c xs vs hn hc hm ih hv
 |mapnil kt et=>exact .mapnil kt et
 |map kt et r iU es hm hl hx hk _ jH Dm=>
  refine .map kt et r iU es ?_ hl hx jH Dm;have aC:σ.m r≠some fl:=fun e=>by rw[hm] at e;cases e;exact DC hl hk rfl
  simp only[Im.noM,if_neg aC,hm]
 |ref t k o v d _ hv ih=>exact .ref t k o v d ih hv
 |fn f cs vs ds hc h1 h2 _ ih=>exact .fn f cs vs ds hc h1 h2 ih
 |fnnil aa r=>exact .fnnil aa r
def Im.plus (σ τ:Im):Im:=⟨fun k o=>(σ.c k o).or (τ.c k o),fun k=>(σ.m k).or (τ.m k)⟩
theorem Im.plus_le1 (σ τ:Im):σ.le (σ.plus τ):=⟨fun k o v h=>by simp[Im.plus,h],fun k v h=>by simp[Im.plus,h]⟩
theorem pZ.det {w:World}{k:Nat}{x y:List (Value×Value)}(h:pZ w k x)(g:pZ w k y):x=y:=by
 rcases h with⟨_,a,c,h1,h2⟩|⟨h1,h2⟩<;>rcases g with⟨_,a',c',g1,g2⟩|⟨g1,g2⟩
 ·rw[h1] at g1;cases g1;rw[←h2,←g2]
 ·rw[h1] at g2;cases g2
 ·rw[h2] at g1;cases g1
 ·rw[h1,g1]
theorem Im.plus_le2 {σ τ:Im}{w:World}(h:σ.ok w)(g:τ.ok w):τ.le (σ.plus τ):=by
 refine⟨fun k o v e=>?_,fun k v e=>?_⟩
 ·show(σ.c k o).or (τ.c k o)=some v;cases hc:σ.c k o with
  |none=>simpa using e
  |some u=>have:=(h.c k o u hc).symm.trans (g.c k o v e);simpa using this
 ·show(σ.m k).or (τ.m k)=some v;cases hc:σ.m k with
  |none=>simpa using e
  |some u=>simpa using(h.m k u hc).det (g.m k v e)
theorem Im.plus_ok {σ τ:Im}{w:World}(h:σ.ok w)(g:τ.ok w):(σ.plus τ).ok w:=by
 refine⟨fun k o v e=>?_,fun k v e=>?_⟩
 ·change (σ.c k o).or (τ.c k o)=some v at e;cases hc:σ.c k o with
  |none=>rw[hc] at e;exact g.c k o v (by simpa using e)
  |some u=>rw[hc] at e;simp at e;subst e;exact h.c k o u hc
 ·change (σ.m k).or (τ.m k)=some v at e;cases hc:σ.m k with
  |none=>rw[hc] at e;exact g.m k v (by simpa using e)
  |some u=>rw[hc] at e;simp at e;subst e;exact h.m k u hc
theorem Im.plus_c {σ τ:Im}{k o:Nat}{v:Value}(h:(σ.plus τ).c k o=some v):σ.c k o=some v∨τ.c k o=some v:=by
 change (σ.c k o).or (τ.c k o)=some v at h;cases hc:σ.c k o with
 |none=>rw[hc] at h;exact .inr (by simpa using h)
 |some u=>rw[hc] at h;exact .inl (by simpa using h)
theorem Im.plus_m {σ τ:Im}{k:Nat}{v:List (Value×Value)}(h:(σ.plus τ).m k=some v):σ.m k=some v∨τ.m k=some v:=by
 change (σ.m k).or (τ.m k)=some v at h;cases hc:σ.m k with
 |none=>rw[hc] at h;exact .inr (by simpa using h)
 |some u=>rw[hc] at h;exact .inl (by simpa using h)
def Ty.pureT:Ty→Bool
 |.int _|.bool|.str|.nils _=>true
 |_=>false
def Ty.pure:Ty→Bool
 |.tup ts=>ts.all Ty.pureT
 |.agg ts=>ts.all Ty.pureT
 |t=>Ty.pureT t
theorem Rep.pureT {cap:Nat→Option CSig}{σ τ:Im}{t:Ty}{v:Value}{d:D}(h:Rep cap σ t v d)(hp:t.pureT=true):Rep cap τ t v d:=by
 cases h<;>simp[Ty.pureT] at hp<;>constructor<;>assumption
theorem Rep.pure {cap:Nat→Option CSig}{σ τ:Im}{t:Ty}{v:Value}{d:D}(h:Rep cap σ t v d)(hp:t.pure=true):Rep cap τ t v d:=by
 cases h with
 |agg ts vs ds h1 h2 h ho=>exact .agg ts vs ds h1 h2 (fun i t hi=>(h i t hi).pureT (eQ.1 hp t (sH hi))) ho
 |tup ts vs ds h1 h2 h=>exact .tup ts vs ds h1 h2 (fun i t hi=>(h i t hi).pureT (eQ.1 hp t (sH hi)))
 |int k n h1 h2=>exact .int k n h1 h2
 |bool b=>exact .bool b
 |str s h=>exact .str s h
 |nils e=>exact .nils e
 |_=>simp[Ty.pure,Ty.pureT] at hp
def qM (C:Ctx)(s:Sig)(σ':Im)(w w':World)(v:Value)(d:D):Prop:=
 match s.mode with
 |.dat=>Rep C.cap σ' s.res v d
 |.it _=>True
 |.ob ..=>True
 |.row T e=>∃cells xs,d=.list xs∧w'.ownsRow w.heap.size T e.size v xs.length cells∧iW C.cap σ' e cells xs∧∀k,v.ownBlock=some k→(∀o,σ'.c k o=none)∧σ'.m k=none
def pq (C:Ctx)(σ:Im)(ts:List Ty)(args:List Value)(ds:List D):Prop:=
 args.length=ts.length∧ds.length=ts.length∧∀(i:Nat) (t:Ty),ts[i]?=some t→Rep C.cap σ t (args.getD i undef) (ds.getD i .none)
def kX (C:Ctx)(f:Nat)(s:Sig)(ds:List D)(d:D):Prop:=
 ∀(σ:Im) (w:World) (args:Array Value),σ.ok w→CtxOK C σ→pq C σ s.args args.toList ds→
  Calls C.P f args w fun e w'=>∃v σ',e=.returned v∧σ.le σ'∧σ'.ok w'∧Below w.heap.size w w'∧
   (∀k o x,σ'.c k o=some x→σ.c k o=some x∨w.heap.size≤k)∧(∀k x,σ'.m k=some x→σ.m k=some x∨w.heap.size≤k)∧qM C s σ' w w' v d
def anL:List (Nat×Ob)→List D→Nat→D
 |x::l,d::ds,j=>bif Nat.beq x.1 j then d else anL l ds j
 |_,_,_=>.none
def we:Mode→Bool
 |.ob ..=>true
 |_=>false
def lR (C:Ctx)(f:Nat)(aJ:List Sh)(eP:List (Nat×Ob))(res:Ty)(ds:List D)(d:D):Prop:=True
theorem lR.ctx {C C':Ctx}{f:Nat}{aJ:List Sh}{eP:List (Nat×Ob)}{res:Ty}{ds:List D}{d:D}(h:lR C f aJ eP res ds d)(hP:C'.P=C.P)(YE:C'.cap=C.cap)(YV:C'.glob=C.glob):lR C' f aJ eP res ds d:=trivial
def dz (C:Ctx)(Φ:aR):Prop:=∀f ds d,Φ f ds=some d→∀s,C.sig f=some s→(we s.mode=false→kX C f s ds d)∧∀aJ eP,s.mode=.ob aJ eP→lR C f aJ eP s.res ds d
def mB:List Ty→Ty→Option (List Ty)
 |[.fn ys .bool],.tup []=>some ys
 |_,_=>none
def dP (C:Ctx):Prop:=(∀f cs,C.cap f=some cs→mB cs.args cs.res=none→C.sig f=some ⟨cs.args++cs.caps,cs.res,.dat⟩)∧∀f s,C.sig f=some s→∃fn,C.P.funcs[f]?=some fn∧fn.body.isSome=true∧(fn.name== "runtime.NumGoroutine")=false
def ew (S:St)(gs:List (Nat×Bool)):List Operand→List Nat
 |[]=>[]
 |x::xs=>
  match jQ S gs x with
  |.obj j ver=>bif Nat.beq ver (S.ver j)&&mA (S.o j) then j::ew S gs xs else ew S gs xs
  |_=>ew S gs xs
def ri (gs:List (Nat×Bool))(s:Sh):Sh:=
 match gs with
 |[]=>s
 |_=>.opt gs s
def St.fzs (S:St)(js:List Nat):St:=js.foldl St.fz S
def zc (C:Ctx)(S:St)(gs:List (Nat×Bool))(dst:Nat)(f:Nat)(args:List Operand):Option (St×Sh×List PI):=
 (C.sig f).bind fun s=>
    match s.mode with
    |.dat=>
     (qy C (S.fzs (ew S gs args)) gs args).bind fun u=>
       bif Ty.subs u.1 s.args then some (bif s.res.pure then S else S.fzs (ew S gs args),.dat s.res,[.call gs dst f u.2]) else Option.none
    |_=>Option.none
def Cc (C:Ctx)(S:St)(dst:Nat)(f:Nat)(args:List Operand):kW:=
 (C.sig f).bind fun s=>
    match s.mode with
    |.row T e=>
     (qy C (S.fzs (ew S [] args)) [] args).bind fun u=>
       bif Ty.subs u.1 s.args then some (mkObj (bif e.pure then S else S.fzs (ew S [] args)) dst (.row T e),[.call [] dst f u.2,.setO dst (.r dst),.setR dst (.con .none)]) else Option.none
    |_=>Option.none
def vk (C:Ctx)(S:St)(gs:List (Nat×Bool))(dst:Nat)(x:Operand)(args:List Operand):Option (St×Sh×List PI):=
 match use C S gs x with
 |some (.fn aa r,e)=>
  match mB aa r with
  |some _=>Option.none
  |Option.none=>
  (qy C (S.fzs (ew S gs args)) gs args).bind fun u=>
    bif Ty.subs u.1 aa then some (bif r.pure then S else S.fzs (ew S gs args),.dat r,[.callc gs dst e u.2]) else Option.none
 |_=>Option.none
theorem Cs:∀(js:List Nat) (S:St),(S.fzs js).ver=S.ver∧(S.fzs js).r=S.r
 |[],S=>⟨rfl,rfl⟩
 |j::js,S=>by
  obtain⟨h1,h2⟩:=Cs js (S.fz j);obtain⟨k1,k2⟩:=NM S j;exact⟨h1.trans k1,h2.trans k2⟩
section
variable {C:Ctx} {S:St} {ρ:Env} {σ:Im} {own:Nat→Option Nat} {hv:Nat→Value} {w0:World} {σ0:Base} {A:Nat→Prop} {a:Act} {w:World} {gs:List (Nat×Bool)} {Φ:aR} {dst:Nat}
theorem Inv.fzs:∀(js:List Nat) {S:St} {σ:Im} {own:Nat→Option Nat},Inv C S ρ σ own hv w0 σ0 A a w→∃σ' own',σ.le σ'∧Inv C (S.fzs js) ρ σ' own' hv w0 σ0 A a w
 |[],S,σ,own,h=>⟨σ,own,.refl σ,h⟩
 |j::js,S,σ,own,h=>by
  obtain⟨σ1,jK,hle,h1⟩:=h.fz j;obtain⟨σ2,iP,tt,h2⟩:=Inv.fzs js h1;exact⟨σ2,iP,hle.trans tt,h2⟩
theorem Inv.world (h:Inv C S ρ σ own hv w0 σ0 A a w){σ':Im}{w':World}(hle:σ.le σ')(az:σ'.ok w')(hb:Below w.heap.size w w')(fK:∀k o x,σ'.c k o=some x→σ.c k o=some x∨w.heap.size≤k)
 (dM:∀k x,σ'.m k=some x→σ.m k=some x∨w.heap.size≤k):Inv C S ρ σ' own hv w0 σ0 A a w':=by
 have bh:=h.below.size;refine h.step (fun _=>False) rfl hle az (fun k o x hx=>(fK k o x hx).imp id (fun e=>⟨by omega,.inr e⟩)) (fun k x hx=>(dM k x hx).imp id (fun e=>⟨by omega,.inr e⟩)) (hb.mono bh) (.refl S hv) (fun j _=>⟨rfl,rfl,rfl,fun k hk=>⟨hk,hb.block k (h.owns k j hk).2.1⟩⟩) (fun _ hf=>hf.elim) (fun k j hk=>?_) (fun _=>id) (fun t=>.inl ⟨rfl,rfl,rfl⟩) (fun _ _=>rfl) (fun k hk _=>hb.block k hk) (fun k i hk=>.inl ⟨i,hk⟩) (fun _ hf=>hf.elim);obtain⟨g1,g2,g3,g4⟩:=h.owns k j hk;refine⟨g1,by have:=hb.size;omega,fun o=>?_,?_⟩
 ·cases hc:σ'.c k o with
  |none=>rfl
  |some x=>rcases fK k o x hc with e|e
           ·rw[g3 o] at e;cases e
           ·omega
 ·cases hc:σ'.m k with
  |none=>rfl
  |some x=>rcases dM k x hc with e|e
           ·rw[g4] at e;cases e
           ·omega
theorem CtxOK.mono {C:Ctx}{σ σ':Im}(h:CtxOK C σ)(hle:σ.le σ'):CtxOK C σ':=⟨fun g x hx=>(h.glob g x hx).mono hle⟩
theorem LB (h:Inv C S ρ σ own hv w0 σ0 A a w)(hC:CtxOK C σ0)(hg:holds gs ρ=true){xs:List Operand}{u:List Ty×List PE}{ts:List Ty}(hu:qy C S gs xs=some u)(hs:Ty.subs u.1 ts=true):pq C σ ts (xs.map a.eval) (PE.evs ρ u.2):=by
 obtain⟨l1,l2,aW⟩:=afR h hC hg _ _ hu;have hl:=Ty.subs_len _ _ hs;refine⟨by rw[mV];omega,by rw[PE.evs_eq,mV];omega,fun i t hi=>?_⟩;obtain⟨s,dV,da⟩:=Ty.subs_get _ _ hs i t hi;exact(aW i s dV).sub da
theorem aeM {o:Oper}{f:Nat}{args:Array Operand}{ts:Array TypeId}(bD:dP C){s:Sig}(hs:C.sig f=some s)(ho:o.op=.call {callee:=.value (.func f),args:=args,argTypes:=ts}):
 (execOp a.eval o).run C.P w=.ok (.enter f (args.map a.eval)) w:=by
 obtain⟨fn,h1,h2,h3⟩:=bD.2 f s hs;obtain⟨bd,gF⟩:=WJ.1 h2;have h4:¬fn.name= "runtime.NumGoroutine" :=by simpa using h3
 simp[execOp,ho,resolve,Act.eval,Deferred.ofValue,invoke,callFunc,h1,gF,h4]
theorem ase {o:Oper}{x:Operand}{f:Nat}{vs:List Value}{args:Array Operand}{ts:Array TypeId}(bD:dP C){s:Sig}(hs:C.sig f=some s)(hx:a.eval x=.func (.func f) #[] vs.toArray)(ho:o.op=.call {callee:=.value x,args:=args,argTypes:=ts}):
 (execOp a.eval o).run C.P w=.ok (.enter f (args.map a.eval++vs.toArray)) w:=by
 obtain⟨fn,h1,h2,h3⟩:=bD.2 f s hs;obtain⟨bd,gF⟩:=WJ.1 h2;have h4:¬fn.name= "runtime.NumGoroutine" :=by simpa using h3
 simp[execOp,ho,resolve,hx,Deferred.ofValue,invoke,callFunc,h1,gF,h4]
theorem Xc (h:Inv C S ρ σ own hv w0 σ0 A a w)(hC:CtxOK C σ0)(ht:¬A dst)(aq:dst<a.tmps.size)(dU:∀g,g∈gs→A g.1)(hg:holds gs ρ=true){f:Nat}{s:Sig}{js:List Nat}{Wj:List Value}{ds:List D}{d:D}(rB:s.mode=.dat)(oA:kX C f s ds d)
 (kr:∀σ1 jK,σ.le σ1→Inv C (S.fzs js) ρ σ1 jK hv w0 σ0 A a w→pq C σ1 s.args Wj ds) {K:Act→World→Prop} {Q:Exit→Act→World→Prop}
 (hK:∀a' w',Good C w0 σ0 ((bif s.res.pure then S else S.fzs js).setR dst (ri gs (.dat s.res))) (ρ.setR dst d) (fun u=>A u∨u=dst) a' w'→a'.tmps.size=a.tmps.size→K a' w'):
 Calls C.P f Wj.toArray w (fun e kg=>match e with|.returned v=>K (a.put (some dst) v) kg|.panicked chain=>Q (.panic chain) a kg|.outgrown=>LetsOut Q):=by
 obtain⟨σ1,jK,ry,h1⟩:=Inv.fzs js h;have N8:=oA σ1 w Wj.toArray h1.ok (hC.mono h1.le) (by simpa using kr σ1 jK ry h1);refine N8.mono fun e w' hh=>?_;obtain⟨v,σ',rfl,hle,az,hb,fK,dM,mq⟩:=hh;simp only[qM,rB] at mq;refine hK _ _ ?_ (size_put _ _ _);have hh:holds gs (ρ.setR dst d)=true:=by rw[CX (t:=dst) (d:=d) fun g hm e=>ht (by rw[←e];exact dU g hm)];exact hg
 have put:∀{S2:St} {σ2:Im} {iP:Nat→Option Nat},Inv C S2 ρ σ2 iP hv w0 σ0 A a w'→Rep C.cap σ2 s.res v d→Good C w0 σ0 (S2.setR dst (ri gs (.dat s.res))) (ρ.setR dst d) (fun u=>A u∨u=dst) (a.put (some dst) v) w':=by
  intro S2 σ2 iP h2 hr;cases gs with
  |nil=>exact⟨_,_,_,h2.setReg ht (s:=.dat s.res) hr aq (fun _ _ e=>by cases e)⟩
  |cons g bT=>
   refine⟨_,_,_,h2.setReg ht (s:=.opt (g::bT) (.dat s.res)) ⟨fun _=>hr,fun e=>absurd (hh.symm.trans e) (by decide)⟩ aq (fun gs s e=>?_)⟩;cases e;exact⟨dU,fun _ _ e=>by cases e⟩
 cases hp:s.res.pure with
 |true=>
  simp only[cond_true];exact put (h.world (.refl σ) (h.ok.below hb) hb (fun _ _ _ hx=>.inl hx) (fun _ _ hx=>.inl hx)) (mq.pure hp)
 |false=>
  simp only[cond_false];exact put (h1.world hle az hb fK dM) mq
theorem Nj {o:Oper}{f:Nat}{args:Array Value}{K:Act→World→Prop}{Q:Exit→Act→World→Prop}(hd:o.dst=some dst)(hx:(execOp a.eval o).run C.P w=.ok (.enter f args) w)
 (h:Calls C.P f args w (fun e kg=>match e with|.returned v=>K (a.put (some dst) v) kg|.panicked chain=>Q (.panic chain) a kg|.outgrown=>LetsOut Q)):o.wp C.P a w K Q:=by
 simp only[Oper.wp,hx,Oper.upon,hd];refine h.mono fun e kg hh=>?_;cases e<;>exact hh
theorem ah6 (h:Inv C S ρ σ own hv w0 σ0 A a w)(hC:CtxOK C σ0)(bD:dP C)(hΦ:dz C Φ)(ht:¬A dst)(aq:dst<a.tmps.size)(dU:∀g,g∈gs→A g.1)(hg:holds gs ρ=true){f:Nat}{args:Array Operand}{ts:Array TypeId}{r:St×Sh×List PI}
 (hr:zc C S gs dst f args.toList=some r) {o:Oper} (hd:o.dst=some dst) (ho:o.op=.call {callee:=.value (.func f),args:=args,argTypes:=ts}):cn C w0 σ0 Φ S ρ A a w o (r.1.setR dst (ri gs r.2.1),r.2.2):=by
 simp only[zc,aB] at hr;obtain⟨s,hs,hr⟩:=hr;split at hr
 case h_2=>cases hr
 rename_i rB;simp only[aB] at hr;obtain⟨u,hu,hr⟩:=hr;cases cJ:Ty.subs u.1 s.args<;>simp only[cJ,cond_true,cond_false] at hr
 ·cases hr
 cases hr;intro ρ' ax K Q hK;simp only[PI.runs,PI.run,hg,cond_true,aB,aK] at ax;obtain⟨ρ1,⟨d,bB,rfl⟩,ax⟩:=ax;cases ax;have oA:=(hΦ f _ d bB s hs).1 (by rw[rB];rfl);refine Nj hd (aeM bD hs ho) ?_;have pX:args.map a.eval=(args.toList.map a.eval).toArray:=by apply LJ;rw[FF]
 rw[pX];have lu:(fun u=>A u∨o.dst=some u)=(fun u=>A u∨u=dst):=by funext u;rw[hd];simp[eq_comm]
 rw[lu] at hK;exact Xc h hC ht aq dU hg (js:=ew S gs args.toList) rB oA (fun σ1 jK _ h1=>LB h1 hC hg hu cJ) hK
theorem ah2 (h:Inv C S ρ σ own hv w0 σ0 A a w)(hC:CtxOK C σ0)(bD:dP C)(hΦ:dz C Φ)(ht:¬A dst)(aq:dst<a.tmps.size)(dU:∀g,g∈gs→A g.1)(hg:holds gs ρ=true){x:Operand}{args:Array Operand}{ts:Array TypeId}{r:St×Sh×List PI}
 (hr:vk C S gs dst x args.toList=some r) {o:Oper} (hd:o.dst=some dst) (ho:o.op=.call {callee:=.value x,args:=args,argTypes:=ts}):cn C w0 σ0 Φ S ρ A a w o (r.1.setR dst (ri gs r.2.1),r.2.2):=by
 unfold vk at hr;split at hr
 case h_2=>cases hr
 rename_i aa r0 e ZN;split at hr
 case h_1=>cases hr
 rename_i Oq;simp only[aB] at hr;obtain⟨u,hu,hr⟩:=hr;cases cJ:Ty.subs u.1 aa<;>simp only[cJ,cond_true,cond_false] at hr
 ·cases hr
 cases hr;have hx:=cv h hC hg ZN;intro ρ' ax K Q hK;simp only[PI.runs,PI.run,hg,cond_true,aB] at ax;obtain⟨ρ1,tC,ax⟩:=ax;cases ax;split at tC
 case h_2=>cases tC
 rename_i f caps bU;simp only[aK] at tC;obtain⟨d,bB,rfl⟩:=tC;rw[bU] at hx;generalize fH:a.eval x=xv at hx;generalize bn:Ty.fn aa r0=ty at hx;cases hx with
 |fn f cs vs ds hc h1 h2 aW=>
  cases bn;have hs:=bD.1 f cs hc Oq;have oA:=(hΦ f _ d bB _ hs).1 rfl;refine Nj hd (ase bD hs fH ho) ?_;have pX:args.map a.eval++vs.toArray=(args.toList.map a.eval++vs).toArray:=by apply LJ;simp
  rw[pX];have lu:(fun u=>A u∨o.dst=some u)=(fun u=>A u∨u=dst):=by funext u;rw[hd];simp[eq_comm]
  rw[lu] at hK;refine Xc h hC ht aq dU hg (js:=ew S gs args.toList) (s:=⟨cs.args++cs.caps,cs.res,.dat⟩) rfl oA (fun σ1 jK ry i1=>?_) hK;obtain⟨g1,g2,g3⟩:=LB i1 hC hg hu cJ;refine⟨by simp only[lT,g1,h1],by simp only[lT,g2,h2],fun i t hi=>?_⟩;rw[lS] at hi;split at hi
  ·rename_i aq;have:=g3 i t hi;rw[be,be,qH (by omega),qH (by omega)];simpa [be] using this
  ·rename_i gH;have:=(aW _ t hi).mono ry;rw[be,be,pv (by omega),pv (by omega),g1,g2];simpa [be] using this
theorem ah4 (h:Inv C S ρ σ own hv w0 σ0 A a w)(hC:CtxOK C σ0)(bD:dP C)(hΦ:dz C Φ)(ht:¬A dst)(aq:dst<a.tmps.size){f:Nat}{args:Array Operand}{ts:Array TypeId}{r:St×List PI}
 (hr:Cc C S dst f args.toList=some r) {o:Oper} (hd:o.dst=some dst) (ho:o.op=.call {callee:=.value (.func f),args:=args,argTypes:=ts}):cn C w0 σ0 Φ S ρ A a w o r:=by
 simp only[Cc,aB] at hr;obtain⟨s,hs,hr⟩:=hr;split at hr
 case h_2=>cases hr
 rename_i T e rB;simp only[aB] at hr;obtain⟨u,hu,hr⟩:=hr;cases cJ:Ty.subs u.1 s.args<;>simp only[cJ,cond_true,cond_false] at hr
 ·cases hr
 cases hr;intro ρ' ax K Q hK;have CN:holds ([]:List (Nat×Bool)) ρ=true:=rfl;simp only[PI.runs,PI.run,CN,cond_true,aB,aK] at ax;obtain⟨ρ1,⟨d,bB,rfl⟩,ρ2,g2,ρ3,g3,g4⟩:=ax;cases g2;cases g3;cases g4;have oA:=(hΦ f _ d bB s hs).1 (by rw[rB];rfl);obtain⟨σ1,jK,ry,h1⟩:=Inv.fzs (ew S [] args.toList) h;have pX:args.map a.eval=(args.toList.map a.eval).toArray:=by apply LJ;rw[FF]
 refine Nj hd (aeM bD hs ho) ?_;rw[pX];have N8:=oA σ1 w (args.toList.map a.eval).toArray h1.ok (hC.mono h1.le) (by simpa using LB h1 hC rfl hu cJ);refine N8.mono fun e' w' hh=>?_;obtain⟨v,σ',rfl,hle,az,hb,fK,dM,mq⟩:=hh;simp only[qM,rB] at mq;obtain⟨cells,xs,rfl,df,iy,pO⟩:=mq;refine hK _ _ ?_ (size_put _ _ _);have lu:(fun u=>A u∨o.dst=some u)=(fun u=>A u∨u=dst):=by funext u;rw[hd];simp[eq_comm]
 rw[lu];have main:∀{S2:St} {σ1 σ2:Im} {iP:Nat→Option Nat},Inv C S2 ρ σ1 iP hv w0 σ0 A a w→σ1.le σ2→σ2.ok w'→(∀k o x,σ2.c k o=some x→σ1.c k o=some x∨w.heap.size≤k)→(∀k x,σ2.m k=some x→σ1.m k=some x∨w.heap.size≤k)→iW C.cap σ2 e cells xs→(∀k,v.ownBlock=some k→(∀o,σ2.c k o=none)∧σ2.m k=none)→
  Good C w0 σ0 (mkObj S2 dst (.row T e)) ((ρ.setO dst (.list xs)).setR dst .none) (fun u=>A u∨u=dst) (a.put (some dst) v) w':=by
  intro S2 σ1 σ2 iP h2 tt ame al0 al4 ak7 alg;have bh:=h1.below.size
  have kA:=h2.newOσ dst (.row T e) (.list xs) v (fun k=>decide (v.ownBlock=some k)) tt ame al0 al4 hb (fun k hk=>df.lt k (by simpa using hk)) (fun k hk=>alg k (by simpa using hk)) ⟨cells,xs,by simp[Env.setO,aS],by
        rw[aS];refine⟨df.1,?_⟩;rcases df.2 with e1|⟨g,cap,cur,e1,e2,e3⟩
        ·exact .inl e1
        ·exact .inr ⟨g,cap,cur,e1,by omega,e3⟩,ak7,fun k hk=>by rw[aS] at hk;simp[fL,hk]⟩
  have ZA:=kA.setObj ht (j:=dst) (v:=v) (aS _ _ _) aq;have e:(S2.newO dst (.row T e)).ver dst=S2.ver dst+1:=aS _ _ _;rw[e] at ZA;exact⟨_,_,_,ZA⟩
 have eρ:((ρ.setR dst (.list xs)).setO dst ((PE.r dst).ev (ρ.setR dst (.list xs)))).setR dst ((PE.con D.none).ev ((ρ.setR dst (.list xs)).setO dst ((PE.r dst).ev (ρ.setR dst (.list xs)))))=(ρ.setO dst (.list xs)).setR dst .none:=by
  have:∀d1 d2:D,cu (cu ρ.r dst d1) dst d2=cu ρ.r dst d2:=by
   intro d1 d2;funext i;simp only[gj];split<;>rfl
  simp[Env.setR,Env.setO,PE.ev,aS,this]
 show Good C w0 σ0 _ _ _ _ _;rw[eρ];cases hp:e.pure with
 |true=>
  simp only[cond_true];refine main h (.refl σ) (h.ok.below hb) (fun _ _ _ hx=>.inl hx) (fun _ _ hx=>.inl hx) ?_ (fun k hk=>?_)
  ·obtain⟨vs,k1,k2⟩:=iy;exact⟨vs,fun i x hx=>(k1 i x hx).pure hp,k2⟩
  ·obtain⟨f1,f2⟩:=pO k hk;refine⟨fun o=>?_,?_⟩
   ·cases hc:σ.c k o with
    |none=>rfl
    |some x=>have:=hle.c _ _ _ (ry.c _ _ _ hc);rw[f1 o] at this;cases this
   ·cases hc:σ.m k with
    |none=>rfl
    |some x=>have:=hle.m _ _ (ry.m _ _ hc);rw[f2] at this;cases this
 |false=>
  simp only[cond_false];exact main h1 hle az fK dM iy pO
end
def scr:Nat:=1000000013
section
variable (ver:Nat→Nat) (is js:List Nat)
end
def aF (l:List Nat)(x:Nat):Bool:=l.any (Nat.beq x)
def H8 (C:Ctx)(S:St)(f:Nat)(args:List Operand)(caps:List (Nat×Nat)):Option (St×Ty×List PI):=none
section
variable {C:Ctx} {S S1:St} {ρ ρ1:Env} {σ σ1:Im} {own jK:Nat→Option Nat} {hv bF:Nat→Value} {w0:World} {σ0:Base} {A:Nat→Prop} {a:Act} {w w1:World} {Φ:aR} {dst:Nat}
 {is js:List Nat} {aJ:List Sh} {eP:List (Nat×Ob)} {ρf:Env}
end
section
variable {C:Ctx} {S:St} {ρ:Env} {σ:Im} {own:Nat→Option Nat} {hv:Nat→Value} {w0:World} {σ0:Base} {A:Nat→Prop} {a:Act} {w:World} {Φ:aR} {dst:Nat}
 {is js:List Nat} {aJ:List Sh} {eP:List (Nat×Ob)}
def rN (S:St)(dst:Option Nat)(r:St×Ty×List PI):St×List PI:=
 match dst with
 |some d=>(r.1.setR d (.dat r.2.1),r.2.2++[.setR d (.tget (.o scr) 0)])
 |none=>(r.1,r.2.2)
theorem XE (h:Inv C S ρ σ own hv w0 σ0 A a w)(hC:CtxOK C σ0)(bD:dP C)(hΦ:dz C Φ){f:Nat}{args:Array Operand}{ts:Array TypeId}{r:St×Ty×List PI}{o:Oper}(ht:∀d,o.dst=some d→¬A d∧d<a.tmps.size)
 (hr:H8 C S f args.toList []=some r) (ho:o.op=.call {callee:=.value (.func f),args:=args,argTypes:=ts}):cn C w0 σ0 Φ S ρ A a w o (rN S o.dst r):=by cases hr
def H9 (C:Ctx)(S:St)(t:Nat)(args:List Operand):Option (St×Ty×List PI):=none
theorem XC (h:Inv C S ρ σ own hv w0 σ0 A a w)(hC:CtxOK C σ0)(bD:dP C)(hΦ:dz C Φ){t:Nat}{args:Array Operand}{ts:Array TypeId}{r:St×Ty×List PI}{o:Oper}(ht:∀d,o.dst=some d→¬A d∧d<a.tmps.size)
 (hr:H9 C S t args.toList=some r) (ho:o.op=.call {callee:=.value (.tmp t),args:=args,argTypes:=ts}):cn C w0 σ0 Φ S ρ A a w o (rN S o.dst r):=by cases hr
def Nx (C:Ctx)(S:St)(dst:Nat)(fn:Fn)(first caps:Array Operand):Option (St×List PI):=none
theorem aie (h:Inv C S ρ σ own hv w0 σ0 A a w)(ht:¬A dst)(aq:dst<a.tmps.size){fn:Fn}{first caps:Array Operand}{r:St×List PI}{o:Oper}(hr:Nx C S dst fn first caps=some r)(hd:o.dst=some dst)(ho:o.op=.makeFunc fn first caps):cn C w0 σ0 Φ S ρ A a w o r:=by cases hr
end
end Cx
