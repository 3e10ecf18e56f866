/-
  Shared texts of this claim.
-/
import Derived.Test.YtodhjdbleiakeaaGreatDoorKAB
import Derived.Laws.OwnMore
import Derived.Lib.ConvBytes
set_option linter.unusedSimpArgs false
set_option linter.unusedVariables false
namespace Cx
open Go Go.RowKit
def mkObj (S:St)(dst:Nat)(ob:Ob):St:=(S.newO dst ob).setR dst (.obj dst (S.ver dst+1))
def mkPtr (S:St)(dst:Nat)(ob:Ob):St:=(S.newO dst ob).setR dst (.ptr dst (S.ver dst+1) 0)
abbrev kB:=Option (St×List PI)
def Ao (C:Ctx)(S:St)(dst:Nat)(T:TypeId)(x:Operand):kB:=
 match use C S [] x,C.P.underlying T with
 |some (.nils _,_),some (.slice E)=>(ng C.P E).map fun e=>(mkObj S dst (.row E e),[.setO dst (.con (.list [])),.setR dst (.con .none)])
 |_,_=>Option.none
def Ag (C:Ctx)(S:St)(dst:Nat)(T:TypeId):kB:=
 match ng C.P T,C.P.info? T,nS C.P T with
 |some t,some inf,some ag=>
  bif q5 inf t&&(t.rowT||t.one) then
   (nj t).map fun z=>(mkPtr S dst (.box ag (z.1.flat.map .dat)),[.setO dst (.con (.agg z.2.cells)),.setR dst (.con .none)])
  else Option.none
 |_,_,_=>Option.none
def Ai (C:Ctx)(S:St)(dst:Nat)(T:TypeId)(x:Operand):kB:=
 match use C S [] x,nS C.P T with
 |some (t,e),some ag=>
  bif t.rowT||t.one then some (mkPtr S dst (.box ag (t.flat.map .dat)),[.setO dst (.mk [e]),.setR dst (.con .none)]) else Option.none
 |_,_=>Option.none
def Al (C:Ctx)(S:St)(dst:Nat)(T:TypeId)(r:Option Operand):kB:=
 match C.P.underlying T,r with
 |some (.map K E),Option.none=>
  (ng C.P K).bind fun kt=>(ng C.P E).map fun et=>(mkObj S dst (.mp kt et),[.setO dst (.con (.map [])),.setR dst (.con .none)])
 |_,_=>Option.none
def Am (C:Ctx)(S:St)(dst:Nat)(T:TypeId)(l c:Operand):kB:=
 match C.P.underlying T,use C S [] l,use C S [] c with
 |some (.slice E),some (.int _,n),some (.int _,m)=>
  (ng C.P E).bind fun e=>
    bif oQ C.P E e then
     (nj e).bind fun z=>
        bif Ty.sub z.1 e then some (mkObj S dst (.row E e),[.chk (Pf n),.chk (.ci .eql n m),.setO dst (.rep n (.con z.2)),.setR dst (.con .none)]) else Option.none
    else Option.none
 |_,_,_=>Option.none
def Ap (C:Ctx)(S:St)(dst:Nat)(T:TypeId)(x:Operand):kB:=
 match C.P.underlying T,fG S [] x with
 |some (.map _ _),.obj j ver=>
  bif Nat.beq ver (S.ver j)&& !Nat.beq j dst then
   match S.o j with
   |.mp kt et=>some (mkObj (S.mv j dst) dst (.it kt et),[.setO dst (.tup [.lst [],.o j]),.setR dst (.con .none)])
   |_=>Option.none
  else Option.none
 |_,_=>Option.none
def Aj (C:Ctx)(S:St)(dst:Nat)(s d:TypeId)(x:Operand):kB:=
 match use C S [] x,C.P.underlying s,C.P.underlying d with
 |some (.str,e),some .string,some (.slice E)=>
  (match C.P.underlying E with
   |some (.int .u8)=>some (S.setR dst (.dat (.slice (.int .u8))),[.chk (.ci .leq (.slen e) (.con (.int l0))),.setR dst (.bytes e)])
   |_=>Option.none)
 |_,_,_=>Option.none
section
variable {C:Ctx} {S:St} {ρ:Env} {σ:Im} {own:Nat→Option Nat} {hv:Nat→Value} {w0:World} {σ0:Base} {A:Nat→Prop} {a:Act} {w:World} {gs:List (Nat×Bool)} {Φ:aT} {dst:Nat}
def bO (C:Ctx)(w0:World)(σ0:Base)(Φ:aT)(S:St)(ρ:Env)(A:Nat→Prop)(a:Act)(w:World)(o:Oper)(r:St×List PI):Prop:=
 ∀ρ',PI.runs Φ r.2 ρ=some ρ'→∀(K:Act→World→Prop) (Q:Exit→Act→World→Prop),(∀a' w',Good C w0 σ0 r.1 ρ' (fun u=>A u∨o.dst=some u) a' w'→a'.tmps.size=a.tmps.size→K a' w')→o.wp C.P a w K Q
theorem size_put (a:Act)(d:Option Tmp)(v:Value):(a.put d v).tmps.size=a.tmps.size:=by
 cases d<;>simp[Act.put]
theorem bO.value {o:Oper}{r:St×List PI}(hd:o.dst=some dst)(hx:∀ρ',PI.runs Φ r.2 ρ=some ρ'→∃v w',(execOp a.eval o).run C.P w=.ok (.value v) w'∧Good C w0 σ0 r.1 ρ' (fun u=>A u∨u=dst) (a.put (some dst) v) w'):bO C w0 σ0 Φ S ρ A a w o r:=by
 intro ρ' ao K Q hK;obtain⟨v,w',h1,h2⟩:=hx ρ' ao;simp only[Oper.wp,h1,Oper.upon,hd];refine hK _ _ ?_ (size_put _ _ _)
 have:(fun u=>A u∨o.dst=some u)=(fun u=>A u∨u=dst):=by
  funext u;rw[hd];simp[eq_comm]
 rw[this];exact h2
theorem bO.skip {o:Oper}{r:St×List PI}(hd:o.dst=none)(hx:∀ρ',PI.runs Φ r.2 ρ=some ρ'→∃w',(execOp a.eval o).run C.P w=.ok .skip w'∧Good C w0 σ0 r.1 ρ' A a w'):bO C w0 σ0 Φ S ρ A a w o r:=by
 intro ρ' ao K Q hK;obtain⟨w',h1,h2⟩:=hx ρ' ao;simp only[Oper.wp,h1,Oper.upon,hd]
 have:(fun u=>A u∨o.dst=some u)=A:=by
  funext u;rw[hd];simp
 rw[this] at hK;exact hK _ _ h2 (size_put _ _ _)
theorem dM.eff (h:Inv C S ρ σ own hv w0 σ0 A a w)(ht:¬A dst)(ah:dst<a.tmps.size){o:Oper}(hd:o.dst=some dst){s:Sh}{B7:List PI}(hq:dM C S ρ σ hv Φ dst a w o (s,B7)):bO C w0 σ0 Φ S ρ A a w o (S.setR dst s,B7):=by
 refine bO.value hd fun ρ' ao=>?_;obtain⟨v,d,rfl,h1,h2,h3⟩:=hq ρ' ao;exact⟨v,w,h1,σ,own,hv,h.setReg ht (aK.mono' (.refl σ) (.refl S hv) h3 h2) ah (fun gs s' e=>absurd e (h3 gs s'))⟩
theorem dM.effG (h:Inv C S ρ σ own hv w0 σ0 A a w)(ht:¬A dst)(ah:dst<a.tmps.size)(du:∀g,g∈gs→A g.1)(hg:holds gs ρ=true){o:Oper}(hd:o.dst=some dst){s:Sh}{B7:List PI}(hq:dM C S ρ σ hv Φ dst a w o (s,B7)):bO C w0 σ0 Φ S ρ A a w o (S.setR dst (.opt gs s),B7):=by
 refine bO.value hd fun ρ' ao=>?_;obtain⟨v,d,rfl,h1,h2,h3⟩:=hq ρ' ao;have hh:holds gs (ρ.setR dst d)=true:=by rw[Bl (t:=dst) (d:=d) fun g hm e=>ht (by rw[←e];exact du g hm)];exact hg
 refine⟨v,w,h1,σ,own,hv,h.setReg ht ⟨fun _=>aK.mono' (.refl σ) (.refl S hv) h3 h2,fun e=>absurd (hh.symm.trans e) (by decide)⟩ ah (fun bC s' e=>?_)⟩;cases e;exact⟨du,h3⟩
theorem Inv.passed (h:Inv C S ρ σ own hv w0 σ0 A a w)(ht:¬A dst)(ah:dst<a.tmps.size)(du:∀g,g∈gs→A g.1)(hg:holds gs ρ=false){s:Sh}(hs:∀bC s',s≠.opt bC s')(d:D):Inv C (S.setR dst (.opt gs s)) (ρ.setR dst d) σ own hv w0 σ0 (fun u=>A u∨u=dst) (a.put (some dst) undef) w:=by
 have hh:holds gs (ρ.setR dst d)=false:=by rw[Bl (t:=dst) (d:=d) fun g hm e=>ht (by rw[←e];exact du g hm)];exact hg
 refine h.setReg ht (s:=.opt gs s) (v:=undef) (d:=d) ⟨fun e=>absurd (hh.symm.trans e) (by decide),fun _=>rfl⟩ ah (fun bC s' e=>?_);cases e;exact⟨du,hs⟩
theorem Inv.mkObj (h:Inv C S ρ σ own hv w0 σ0 A a w)(ht:¬A dst)(ah:dst<a.tmps.size)(ob:Ob)(d:D)(v:Value)(nb:Nat→Bool){w':World}(hw:Below w.heap.size w w')(da:∀k,nb k=true→w.heap.size≤k∧k<w'.heap.size)
 (cu:bT C (S.newO dst ob) (ρ.setO dst d) σ (fl own dst nb) (bQ hv dst v) w' w0.heap.size dst ob) (lQ:ob≠.tr:=by intro h;cases h):
 Good C w0 σ0 (Cx.mkObj S dst ob) ((ρ.setO dst d).setR dst .none) (fun u=>A u∨u=dst) (a.put (some dst) v) w':=by
 have h1:=h.newO dst ob d v nb hw da cu lQ;have h2:=h1.setObj ht (j:=dst) (v:=v) (aQ _ _ _) ah;have e:(S.newO dst ob).ver dst=S.ver dst+1:=aQ _ _ _;rw[e] at h2;exact⟨_,_,_,h2⟩
theorem Inv.mkPtr (h:Inv C S ρ σ own hv w0 σ0 A a w)(ht:¬A dst)(ah:dst<a.tmps.size)(ob:Ob)(d:D)(k:Nat)(nb:Nat→Bool){w':World}(hw:Below w.heap.size w w')(da:∀k,nb k=true→w.heap.size≤k∧k<w'.heap.size)
 (cu:bT C (S.newO dst ob) (ρ.setO dst d) σ (fl own dst nb) (bQ hv dst (.pointer (some ⟨k,0,none⟩))) w' w0.heap.size dst ob) (lQ:ob≠.tr:=by intro h;cases h):
 Good C w0 σ0 (Cx.mkPtr S dst ob) ((ρ.setO dst d).setR dst .none) (fun u=>A u∨u=dst) (a.put (some dst) (.pointer (some ⟨k,0,none⟩))) w':=by
 have h1:=h.newO dst ob d _ nb hw da cu lQ;have e:(S.newO dst ob).ver dst=S.ver dst+1:=aQ _ _ _;have h2:=h1.setReg ht (s:=.ptr dst (S.ver dst+1) 0) (v:=.pointer (some ⟨k,0,none⟩)) (d:=.none) ⟨Nat.le_of_eq e.symm,fun _=>⟨k,aQ _ _ _,rfl⟩⟩ ah (fun _ _ e=>by cases e);exact⟨_,_,_,h2⟩
theorem Ds {e:PE}{ρ':Env}(h:PI.runs Φ [.setO dst e,.setR dst (.con .none)] ρ=some ρ'):ρ'=(ρ.setO dst (e.ev ρ)).setR dst .none:=by
 simp[PI.runs,PI.run,PE.ev] at h;exact h.symm
theorem VR (h:Inv C S ρ σ own hv w0 σ0 A a w){t:Ty}{v:Value}{d:D}(hr:Rep C.cap σ t v d)(ho:t.rowT=true∨t.one=true)(ag:Bool)(T:TypeId):
 bT C (S.newO dst (.box ag (t.flat.map .dat))) (ρ.setO dst (.agg d.cells)) σ (fl own dst (fun k=>Nat.beq k w.heap.size)) (bQ hv dst (.pointer (some ⟨w.heap.size,0,none⟩))) (w.alloc (.cells v.cells T)) w0.heap.size dst (.box ag (t.flat.map .dat)):=by
 obtain⟨f1,f2,f3⟩:=hr.flat ho;refine⟨w.heap.size,v.cells,T,d.cells,aQ _ _ _,by simp[fl],heap_alloc_new w _,by rw[hr.size];simp[f1],by simp[Env.setO,aQ],by simp[f1,f2],fun i s hi=>?_⟩;simp only[List.getElem?_map,Option.map_eq_some_iff] at hi;obtain⟨ti,OP,rfl⟩:=hi;exact⟨fun _ _ e=>(by cases e),(f3 i ti OP).2⟩
theorem amR (h:Inv C S ρ σ own hv w0 σ0 A a w)(hC:CtxOK C σ0)(ht:¬A dst)(ah:dst<a.tmps.size){T:TypeId}{x:Operand}{r:St×List PI}(hr:Ao C S dst T x=some r){o:Oper}(hd:o.dst=some dst)(ho:o.op=.assign x):bO C w0 σ0 Φ S ρ A a w o r:=by
 unfold Ao at hr;split at hr
 case h_2=>cases hr
 rename_i e0 e1 E hu hT;simp only[Option.map_eq_some_iff] at hr;obtain⟨e,he,rfl⟩:=hr;have hx:=bR h hC rfl hu;have cr:a.eval x=.slice none 0 0:=by
  generalize a.eval x=v at hx;generalize e1.ev ρ=d at hx;cases hx;rfl
 refine bO.value hd fun ρ' ao=>⟨.slice none 0 0,w,by simp[execOp,ho,cr],?_⟩
 rw[Ds ao];exact h.mkObj ht ah (.row E e) _ _ (fun _=>false) (.refl _ _) (by simp) ⟨[],[],by simp[Env.setO,aQ,PE.ev],by rw[aQ];exact World.ownsRow_nil _ _ _ _,⟨fun _=>undef,by simp,by simp⟩,by rw[aQ];simp[Value.ownBlock]⟩
theorem amr (h:Inv C S ρ σ own hv w0 σ0 A a w)(ht:¬A dst)(ah:dst<a.tmps.size){T:TypeId}{r:St×List PI}(hr:Ag C S dst T=some r){o:Oper}(hd:o.dst=some dst)(ho:o.op=.alloc T):bO C w0 σ0 Φ S ρ A a w o r:=by
 unfold Ag at hr;split at hr
 case h_2=>cases hr
 rename_i t inf ag OS hi ha;cases hc:(q5 inf t&&(t.rowT||t.one))<;>simp only[hc,cond_true,cond_false] at hr
 ·cases hr
 simp only[Bool.and_eq_true,Bool.or_eq_true] at hc;simp only[Option.map_eq_some_iff] at hr;obtain⟨z,hz,rfl⟩:=hr;obtain⟨v0,ui,wV⟩:∃v0,inf.zero=some v0∧il t v0=true:=by
  have:=hc.1;unfold q5 at this;split at this
  ·exact⟨_,by assumption,this⟩
  ·cases this
 obtain⟨k1,k2,k3⟩:=vA (cap:=C.cap) (σ:=σ) hz wV;have Bv:z.1.rowT=true∨z.1.one=true:=by
  rcases hc.2 with e|e
  ·left;cases t<;>simp[Ty.rowT] at e;simp[nj] at hz;obtain⟨_,_,rfl⟩:=hz;rfl
  ·right;rw[k3];exact e
 refine bO.value hd fun ρ' ao=>⟨.pointer (some ⟨w.heap.size,0,none⟩),w.alloc (.cells v0.cells T),?_,?_⟩
 ·simp[execOp,ho,Instr.alloc,zeroValue,run_typeInfo w hi,ui,newVar,newRow]
 ·rw[Ds ao];exact h.mkPtr ht ah _ _ _ (fun k=>Nat.beq k w.heap.size) ((Below.refl _ _).alloc (Nat.le_refl _) _) (fun k hk=>by simp at hk;simp;omega) (VR h k1 Bv ag T)
theorem amv (h:Inv C S ρ σ own hv w0 σ0 A a w)(hC:CtxOK C σ0)(ht:¬A dst)(ah:dst<a.tmps.size){T:TypeId}{x:Operand}{r:St×List PI}(hr:Ai C S dst T x=some r){o:Oper}(hd:o.dst=some dst)(ho:o.op=.box T x):bO C w0 σ0 Φ S ρ A a w o r:=by
 unfold Ai at hr;split at hr
 case h_2=>cases hr
 rename_i t e ag hu ha;cases hc:(t.rowT||t.one)<;>simp only[hc,cond_true,cond_false] at hr
 ·cases hr
 cases hr;simp only[Bool.or_eq_true] at hc;have hx:=bR h hC rfl hu;refine bO.value hd fun ρ' ao=>⟨.pointer (some ⟨w.heap.size,0,none⟩),w.alloc (.cells (a.eval x).cells T),?_,?_⟩
 ·simp[execOp,ho,Instr.box,newVar,newRow]
 ·rw[Ds ao];have:(PE.mk [e]).ev ρ=.agg (e.ev ρ).cells:=by simp[PE.ev,PE.evc]
  rw[this];exact h.mkPtr ht ah _ _ _ (fun k=>Nat.beq k w.heap.size) ((Below.refl _ _).alloc (Nat.le_refl _) _) (fun k hk=>by simp at hk;simp;omega) (VR h hx hc ag T)
theorem amL (h:Inv C S ρ σ own hv w0 σ0 A a w)(ht:¬A dst)(ah:dst<a.tmps.size){T:TypeId}{m:Option Operand}{r:St×List PI}(hr:Al C S dst T m=some r){o:Oper}(hd:o.dst=some dst)(ho:o.op=.makeMap T m):bO C w0 σ0 Φ S ρ A a w o r:=by
 unfold Al at hr;split at hr
 case h_2=>cases hr
 rename_i K E hT;simp only[Option.bind_eq_some_iff,Option.map_eq_some_iff] at hr;obtain⟨kt,hk,et,he,rfl⟩:=hr;refine bO.value hd fun ρ' ao=>⟨.map (some w.heap.size),w.alloc (.map #[] 0),?_,?_⟩
 ·simp[execOp,ho,Instr.makeMap]
 ·rw[Ds ao]
  exact h.mkObj ht ah (.mp kt et) _ _ (fun k=>Nat.beq k w.heap.size) ((Below.refl _ _).alloc (Nat.le_refl _) _) (fun k hk=>by simp at hk;simp;omega)
   ⟨w.heap.size,#[],0,[],aQ _ _ _,by simp[fl],heap_alloc_new w _,by simp[Env.setO,aQ,PE.ev],rfl,⟨by simp,by simp[ls]⟩,by simp⟩
theorem amT (h:Inv C S ρ σ own hv w0 σ0 A a w)(ht:¬A dst)(ah:dst<a.tmps.size){T:TypeId}{x:Operand}{r:St×List PI}(hr:Ap C S dst T x=some r){o:Oper}(hd:o.dst=some dst)(ho:o.op=.range T x):bO C w0 σ0 Φ S ρ A a w o r:=by
 unfold Ap at hr;split at hr
 case h_2=>cases hr
 rename_i K E j ver hT es;obtain⟨dV,_⟩:=vm h (gs:=[]) rfl x;rw[es] at dV;cases hb:(Nat.beq ver (S.ver j)&& !Nat.beq j dst)<;>simp only[hb,cond_true,cond_false] at hr
 ·cases hr
 simp only[Bool.and_eq_true,Bool.not_eq_true'] at hb;have cr:=dV.2 (Nat.eq_of_beq_eq_true hb.1);have aD:j≠dst:=fun e=>by subst e;simp at hb
 have bk:=h.objs j;split at hr
 case h_2=>cases hr
 rename_i kt et eo;cases hr;rw[eo] at bk;obtain⟨m,arr,clock,ds,h1,h2,h3,h4,h5,⟨h6,oW⟩,h7⟩:=bk;have lP:=h.mv aD (by rw[eo];rfl);have nL:m<w.heap.size:=(Array.getElem?_eq_some_iff.1 h3).1;have N0:w0.heap.size≤m:=(h.owns m j h2).1;refine bO.value hd fun ρ' ao=>⟨.pointer (some ⟨w.heap.size,0,none⟩),w.alloc (.mapIter (some m) clock #[] clock),?_,?_⟩
 ·simp[execOp,ho,Instr.range,cr,h1,run_underlying hT,getObj,Sem.run,h3]
 have hρ:ρ'=((ρ.setO dst (.tup [.list [],.map ds])).setR dst .none):=by
  simp[PI.runs,PI.run,PE.ev,PE.evs,h4] at ao;exact ao.symm
 subst hρ;have fA:Below w.heap.size w (w.alloc (.mapIter (some m) clock #[] clock)):=(Below.refl _ _).alloc (Nat.le_refl _) _;have OL:=lP.step (S':=(S.mv j dst).newO dst (.it kt et)) (ρ':=(ρ.setO dst (.tup [.list [],.map ds]))) (σ':=σ) (hv':=bQ (bQ hv dst (hv j)) dst (.pointer (some ⟨w.heap.size,0,none⟩)))
  (own':=fun k=>if k=w.heap.size then some dst else(if own k=some j then some dst else if own k=some dst then none else own k)) (a':=a) (A':=A) (w':=w.alloc (.mapIter (some m) clock #[] clock)) (fun i=>i=dst)
  rfl (.refl σ) (h.ok.below fA) (fun _ _ _ hx=>.inl hx) (fun _ _ hx=>.inl hx) (fA.mono h.below.size) ⟨fun i=>?_,fun i e=>?_⟩ (fun i hi=>⟨?_,?_,?_,fun k hk=>⟨?_,?_⟩⟩) (fun i hi=>?_) (fun k i hk=>?_) (fun _=>id) (fun t=>.inl ⟨rfl,rfl,rfl⟩) (fun _ _=>rfl) (fun k hk _=>fA.block k hk) (fun k i hk=>?_) (fun i hi=>by subst hi;simp[St.newO,aQ])
 ·have jc:=OL.setObj ht (j:=dst) (v:=.pointer (some ⟨w.heap.size,0,none⟩)) (aQ _ _ _) ah;have e:((S.mv j dst).newO dst (.it kt et)).ver dst=(S.mv j dst).ver dst+1:=aQ _ _ _;rw[e] at jc;exact⟨_,_,_,jc⟩
 ·simp only[St.newO,fq];split<;>rename_i e
  ·subst e;omega
  ·omega
 ·simp only[St.newO,fq] at e;split at e
  ·rename_i e';subst e';omega
  ·rename_i N8;exact bo _ _ N8
 ·simp[St.newO,bo _ _ hi]
 ·simp[Env.setO,bo _ _ hi]
 ·exact bo _ _ hi
 ·have arQ:=(lP.owns k i hk).2.1;have aY:k≠w.heap.size:=by omega
  simp only[if_neg aY];exact hk
 ·exact fA.block k (lP.owns k i hk).2.1
 ·subst hi;simp only[St.newO,aQ];have dC:m≠w.heap.size:=by omega
  refine⟨w.heap.size,m,arr,clock,ds,[],aQ _ _ _,by simp,by simp[dC,h2],by omega,?_,heap_alloc_new w _,by simp[Env.setO,aQ,fF],List.nodup_nil,by simp,h5,oW,h7⟩;rw[fA.block m nL];exact h3
 ·split at hk
  ·rename_i e;subst e;refine⟨h.below.size,by simp,fun o=>?_,?_⟩
   ·cases hc:σ.c w.heap.size o with
    |none=>rfl
    |some u=>have:=h.lt hc;omega
   ·cases hc:σ.m w.heap.size with
    |none=>rfl
    |some u=>have:=h.ltm hc;omega
  ·obtain⟨g1,g2,g3,g4⟩:=lP.owns k i hk;exact⟨g1,by simp;omega,g3,g4⟩
 ·split at hk
  ·rename_i e;subst e;exact .inr (Nat.le_refl _)
  ·exact .inl ⟨i,hk⟩
theorem amz (h:Inv C S ρ σ own hv w0 σ0 A a w)(hC:CtxOK C σ0)(ht:¬A dst)(ah:dst<a.tmps.size){T U:TypeId}{x:Operand}{r:St×List PI}(hr:Aj C S dst T U x=some r){o:Oper}(hd:o.dst=some dst)(ho:o.op=.convert T U x):bO C w0 σ0 Φ S ρ A a w o r:=by
 unfold Aj at hr;split at hr
 case h_2=>cases hr
 rename_i e E hu hT hU;split at hr
 case h_2=>cases hr
 rename_i hE;cases hr;have hx:=bR h hC rfl hu;obtain⟨s,aS,bj,hs⟩:=hx.str_inv;have rO:=Lib.run_convert_string_bytes (P:=C.P) w T U E s hT hU hE;refine bO.value hd fun ρ' ao=>⟨.slice (some ⟨w.heap.size,0,none⟩) s.size (grownCap w s.size 0 E),Lib.bytesWorld w E s,by simp[execOp,ho,aS,rO],?_⟩
 simp only[PI.runs,PI.run,Option.bind_eq_some_iff] at ao;obtain⟨ρ1,g1,ρ2,g2,g3⟩:=ao;cases c1:((PE.ci BinOp.leq (.slen e) (.con (.int l0))).ev ρ).b<;>simp only[c1,cond_true,cond_false] at g1
 ·cases g1
 cases g1;cases g2;cases g3;have arM:s.size≤4294967296:=by
  simp[PE.ev,bj,D.s,D.i,D.b,gr,D.int,l0] at c1;omega
 have fA:Below w.heap.size w (Lib.bytesWorld w E s):=⟨rfl,rfl,rfl,by rw[Lib.bytesWorld_size];omega,fun k hk=>Lib.bytesWorld_at_old w E s k hk⟩
 have aL:(Lib.bytesWorld w E s).heap.size=w.heap.size+1:=Lib.bytesWorld_size w E s
 let σ':Im:={c:=fun k i=>if k=w.heap.size then(if i<s.size then some (.int .u8 (s.data.toList.getD i 0).toNat) else none) else σ.c k i,m:=σ.m}
 have hle:σ.le σ':=by
  refine⟨fun k o v hc=>?_,fun k es hc=>hc⟩;have:k≠w.heap.size:=by have:=h.lt hc;omega
  simp[σ',this,hc]
 have aA:σ'.ok (Lib.bytesWorld w E s):=by
  refine⟨fun k i v hc=>?_,(h.ok.below fA).m⟩;simp only[σ'] at hc;split at hc
  ·rename_i ek;subst ek;split at hc
   ·rename_i hi;cases hc;exact Lib.bytesWorld_cell w E s i hi
   ·cases hc
  ·exact(h.ok.below fA).c k i v hc
 have h1:=h.step (S':=S) (ρ':=ρ) (σ':=σ') (own':=own) (hv':=hv) (A':=A) (a':=a) (w':=Lib.bytesWorld w E s) (fun _=>False) rfl hle aA (fun k i v hc=>?_) (fun k es hc=>.inl hc) (fA.mono h.below.size) ⟨fun _=>Nat.le_refl _,fun _ _=>rfl⟩
  (fun j _=>⟨rfl,rfl,rfl,fun k hk=>⟨hk,fA.block k (h.owns k j hk).2.1⟩⟩) (fun j hj=>hj.elim) (fun k j hk=>?_) (fun _=>id) (fun t=>.inl ⟨rfl,rfl,rfl⟩) (fun _ _=>rfl) (fun k hk _=>fA.block k hk) (fun k i hk=>.inl ⟨i,hk⟩) (fun _ hf=>hf.elim)
 ·refine⟨_,_,_,h1.setReg ht (s:=.dat (.slice (.int .u8))) ?_ ah (fun _ _ e=>by cases e)⟩;show Rep C.cap σ' _ _ _;simp only[PE.ev,bj,D.s];refine .slice (.int .u8) w.heap.size 0 s.size _ _ (fun i=>.int .u8 (s.data.toList.getD i 0).toNat) (by simp) (grownCap_ge w s.size 0 E) (grownCap_le_maxLen w s.size 0 E (by unfold maxLen;omega)) (fun i x hx=>?_) (fun i j u hi hu=>?_)
  ·simp only[List.getElem?_map,Option.map_eq_some_iff] at hx;obtain⟨b,hb,rfl⟩:=hx;have:s.data.toList.getD i 0=b:=by simp[List.getD_eq_getElem?_getD,hb]
   rw[this];have:=b.toNat_lt;exact .int .u8 _ (by show(0:Int)≤_;omega) (by show _≤(255:Int);omega)
  ·have hj:j=0:=by
        have:=(Array.getElem?_eq_some_iff.1 hu).1;simp[Value.cells] at this;exact this
   subst hj;simp[Value.cells] at hu;subst hu;simp[σ',Ty.size,hi]
 ·simp only[σ'] at hc;split at hc
  ·rename_i ek;exact .inr ⟨by have:=h.below.size;omega,.inr (by omega)⟩
  ·exact .inl hc
 ·obtain⟨g1,g2,g3,g4⟩:=h.owns k j hk;refine⟨g1,by omega,fun i=>?_,g4⟩;have:k≠w.heap.size:=by omega
  simp[σ',this,g3 i]
end
end Cx
namespace Cx
open Go Go.RowKit
def FM (C:Ctx)(S:St)(gs:List (Nat×Bool))(e:Ty)(z:D)(parts:List (Nat×Operand))(i:Nat):Option PE:=
 match parts.find? (fun p=>Nat.beq p.1 i) with
 |some p=>(use C S gs p.2).bind fun a=>bif Ty.sub a.1 e then some a.2 else Option.none
 |Option.none=>some (PE.con z)
def tz (C:Ctx)(S:St)(gs:List (Nat×Bool))(dst:Nat)(T:TypeId)(len:Nat)(parts:List (Nat×Operand)):kB:=
 match C.P.underlying T with
 |some (.slice E)=>
  (ng C.P E).bind fun e=>(nj e).bind fun z=>
    bif oQ C.P E e&&Ty.sub z.1 e&&iQ (parts.map (·.1))&&parts.all (fun p=>Nat.blt p.1 len)&&Nat.ble (len*e.size) 16777216 then
     ((List.range len).mapM (FM C S gs e z.2 parts)).map fun es=>(mkObj S dst (.row E e),[.setO dst (.lst es),.setR dst (.con .none)])
    else Option.none
 |_=>Option.none
def vW (C:Ctx)(S:St)(gs:List (Nat×Bool))(dst:Nat)(T:TypeId)(len:Nat)(parts:List (Nat×Operand)):kB:=
 match C.P.underlying T,tz C S gs dst T len parts with
 |some (.slice E),some r=>
  (ng C.P E).bind fun e=>
    match r.2 with
    |.setO _ x::_=>some ((S.newO dst .dead).setR dst (match gs with|[]=>.dat (.slice e.rol)|_=>.opt gs (.dat (.slice e.rol))),[.setR dst x])
    |_=>Option.none
 |_,_=>Option.none
def rk (C:Ctx)(S:St)(T:TypeId)(x v:Operand):kB:=
 match C.P.info? T with
 |some inf=>
  match fG S [] x with
  |.ptr j ver off=>
   bif Nat.beq ver (S.ver j) then
    match S.o j with
    |.box ag shs=>
     match use C S [] v with
     |some (t,e)=>
      bif Nat.beq inf.size t.size&&(t.rowT||t.one)&&Nat.ble (off+t.size) shs.length then
             some (S.setO j (.box ag (shs.take off++t.flat.map .dat++shs.drop (off+t.size))),[.setO j (.setc (.o j) off e)])
      else Option.none
     |Option.none=>
      match fG S [] v with
      |.obj j' ni=>
       bif Nat.beq ni (S.ver j')&&lX (S.o j')&&Nat.beq inf.size 1&&Nat.blt off shs.length then
              some (S.setO j (.box ag (shs.set off (.obj j' ni))),[.setO j (.setc (.o j) off (.con .none))])
       else Option.none
      |_=>Option.none
    |_=>Option.none
   else Option.none
  |.eptr j ver size off=>
   bif Nat.beq ver (S.ver j) then
    match S.o j,use C S [] v with
    |.row _ (.agg ts),some (t,e)=>
     bif Nat.beq inf.size t.size&&(t.rowT||t.one)&&Nat.beq size ts.length&&Nat.ble (off+t.size) ts.length&&Ty.subs t.flat ((ts.drop off).take t.size) then
         some (S,[.setO j (.setn (.o j) (sC x) off e)])
     else Option.none
    |.row _ e0,some (t,e)=>
     bif Nat.beq inf.size 1&&Nat.beq size 1&&Nat.beq off 0&&e0.one&&Ty.sub t e0 then some (S,[.setO j (.setn (.o j) (sC x) 0 e)]) else Option.none
    |_,_=>Option.none
   else Option.none
  |_=>Option.none
 |Option.none=>Option.none
def qd (C:Ctx)(S:St)(T:TypeId)(m k v:Operand):kB:=
 match C.P.underlying T,fG S [] m with
 |some (.map K _),.obj j ver=>
  bif Nat.beq ver (S.ver j) then
   match S.o j,use C S [] k,use C S [] v with
   |.mp kt et,some (tk,ek),some (tv,ev)=>
    bif Ty.beq tk kt&&rX C.P K kt&&Ty.sub tv et then some (S,[.chk (.ci .lss (.mlen (.o j)) (.con (.int l0))),.setO j (.put (.o j) ek ev)]) else Option.none
   |_,_,_=>Option.none
  else Option.none
 |_,_=>Option.none
def G2 (x y:PE):PE:=.ci .leq (.llen (.app x y)) (.con (.int l0))
def Lg:Ty→Ty→Bool
 |.slice e',e=>Ty.beq e'.unf e
 |.nils _,_=>true
 |_,_=>false
def Ah (C:Ctx)(S:St)(dst:Nat)(T:TypeId)(s x:Operand):kB:=
 match C.P.underlying T with
 |some (.slice E)=>
  (ng C.P E).bind fun e=>
    match view C S [] x with
    |some (tx,ex)=>
     bif oQ C.P E e&&Lg tx e then
        match use C S [] s with
        |some (.nils _,_)=>some (mkObj S dst (.row E e),[.chk (G2 (.con (.list [])) ex),.setO dst (.app (.con (.list [])) ex),.setR dst (.con .none)])
        |some _=>Option.none
        |Option.none=>
         match fG S [] s with
         |.obj j ver=>
          bif Nat.beq ver (S.ver j) then
             match S.o j with
             |.row E' e'=>
              bif Nat.beq E' E&&Ty.beq e' e then
                some ((S.newO j (.row E e)).setR dst (.obj j (S.ver j+1)),[.chk (G2 (.o j) ex),.setO j (.app (.o j) ex),.setR dst (.con .none)])
              else Option.none
             |_=>Option.none
          else Option.none
         |_=>Option.none
     else Option.none
    |Option.none=>Option.none
 |_=>Option.none
theorem MZ {P:Program}{T:TypeId}{e:Ty}(h:oQ P T e=true):∃inf z,P.info? T=some inf∧inf.size=e.size∧inf.bytes≤ux∧1≤e.size∧inf.zero=some z∧il e z=true:=by
 unfold oQ at h;split at h
 ·rename_i i hi;simp only[Bool.and_eq_true] at h;have h4:=h.2;unfold q5 at h4;split at h4
  ·rename_i z hz;exact⟨i,z,hi,Nat.eq_of_beq_eq_true h.1.1.1,Nat.le_of_ble_eq_true h.1.1.2,Nat.le_of_ble_eq_true h.1.2,hz,h4⟩
  ·cases h4
 ·cases h
theorem Vf {e:Ty}{z:Value}(h:il e z=true):z.cells.size=e.size:=by
 cases e with
 |agg ts=>
  cases z with
  |agg vs=>simp only[il] at h;have:=(Vg ts vs.toList h).1;simpa [Value.cells,Ty.size] using this
  |_=>simp[il] at h
 |_=>cases z<;>simp_all [il,vz,Value.cells,Ty.size]
theorem alG {ρ:Env}{x y:PE}(h:((PE.ci .lss x y).ev ρ).b=true):(x.ev ρ).i<(y.ev ρ).i:=by
 simpa [PE.ev,D.b_bool,gr] using h
theorem V6 {ρ:Env}{x y:PE}(h:((PE.ci .leq x y).ev ρ).b=true):(x.ev ρ).i≤(y.ev ρ).i:=by
 simpa [PE.ev,D.b_bool,gr] using h
theorem aty {n:Nat}(h:(n:Int)<l0):n<4294967296:=by unfold l0 at h;omega
theorem YW {n:Nat}(h:(n:Int)≤l0):n≤4294967296:=by unfold l0 at h;omega
theorem St.setO_self {S:St}{j:Nat}{ob:Ob}(h:S.o j=ob):S.setO j ob=S:=by
 have:bQ S.o j ob=S.o:=by
  funext i;rw[fq];split
  ·rename_i e;subst e;exact h.symm
  ·rfl
 cases S;simp only[St.setO] at this ⊢;rw[this]
section
variable {C:Ctx} {S:St} {ρ:Env} {σ:Im} {own:Nat→Option Nat} {hv:Nat→Value} {w0:World} {σ0:Base} {A:Nat→Prop} {a:Act} {w:World} {gs:List (Nat×Bool)} {Φ:aT} {dst:Nat}
theorem Inv.updO (h:Inv C S ρ σ own hv w0 σ0 A a w)(j:Nat)(ob:Ob)(d:D)(v:Value)(nb:Nat→Bool){w':World}(hw:Below w0.heap.size w w')
 (qp:∀k,k<w.heap.size→own k≠some j→w'.heap[k]?=w.heap[k]?) (da:∀k,nb k=true→(own k=some j∨w.heap.size≤k)∧k<w'.heap.size)
 (cu:bT C (S.newO j ob) (ρ.setO j d) σ (fl own j nb) (bQ hv j v) w' w0.heap.size j ob) (lQ:ob≠.tr:=by intro h;cases h):Inv C (S.newO j ob) (ρ.setO j d) σ (fl own j nb) (bQ hv j v) w0 σ0 A a w':=by
 have aL:w0.heap.size≤w.heap.size:=h.below.size;have bN:∀k i,i≠j→own k=some i→fl own j nb k=some i:=by
  intro k i hi hk;have h1:=h.owns k i hk;have h2:nb k=false:=by
   cases hn:nb k with
   |false=>rfl
   |true=>
    rcases(da k hn).1 with e|e
    ·rw[hk] at e;simp at e;exact absurd e hi
    ·omega
  simp[fl,h2,hk,hi]
 have aA:σ.ok w':=by
  refine⟨fun k o u hc=>?_,fun k es hc=>?_⟩
  ·have aD:own k≠some j:=fun e=>by rw[(h.owns k j e).2.2.1 o] at hc;cases hc
   rw[World.cell?_of_block (qp k (h.lt hc) aD)];exact h.ok.c k o u hc
  ·have aD:own k≠some j:=fun e=>by rw[(h.owns k j e).2.2.2] at hc;cases hc
   exact(h.ok.m k es hc).keep (qp k (h.ltm hc) aD)
 refine h.step (fun i=>i=j) rfl (.refl σ) aA (fun _ _ _ hx=>.inl hx) (fun _ _ hx=>.inl hx) hw ⟨fun i=>?_,fun i e=>?_⟩ (fun i hi=>⟨?_,?_,?_,fun k hk=>⟨bN k i hi hk,?_⟩⟩) (fun i hi=>?_) (fun k i hk=>?_) (fun _=>id) (fun t=>.inl ⟨rfl,rfl,rfl⟩) (fun _ _=>rfl) (fun k hk e=>qp k hk (by rw[e];simp)) (fun k i hk=>by
  unfold fl at hk;split at hk
  ·rename_i hn;rcases(da k hn).1 with e|e
   ·exact .inl ⟨j,e⟩
   ·exact .inr e
  ·split at hk
   ·cases hk
   ·exact .inl ⟨i,hk⟩) (fun i hi=>by subst hi;simpa only[St.newO,aQ] using lQ)
 ·simp only[St.newO,fq];split<;>rename_i e
  ·subst e;omega
  ·omega
 ·simp only[St.newO,fq] at e;split at e
  ·rename_i e';subst e';omega
  ·rename_i aD;exact bo _ _ aD
 ·simp[St.newO,bo _ _ hi]
 ·simp[Env.setO,bo _ _ hi]
 ·exact bo _ _ hi
 ·exact qp k (h.owns k i hk).2.1 (by rw[hk];simpa using hi)
 ·subst hi;simp only[St.newO,aQ];exact cu
 ·unfold fl at hk;split at hk
  ·rename_i hn;obtain⟨g1,g2⟩:=da k hn;rcases g1 with e|e
   ·obtain⟨f1,f2,f3,f4⟩:=h.owns k j e;exact⟨f1,g2,f3,f4⟩
   ·refine⟨by omega,g2,fun o=>?_,?_⟩
    ·cases hc:σ.c k o with
     |none=>rfl
     |some u=>have:=h.lt hc;omega
    ·cases hc:σ.m k with
     |none=>rfl
     |some u=>have:=h.ltm hc;omega
  ·split at hk
   ·cases hk
   ·obtain⟨g1,g2,g3,g4⟩:=h.owns k i hk;exact⟨g1,by have:=hw.size;omega,g3,g4⟩
theorem Inv.updB (h:Inv C S ρ σ own hv w0 σ0 A a w)(j:Nat)(ob:Ob)(d:D){w':World}(hw:Below w0.heap.size w w')
 (qp:∀k,k<w.heap.size→own k≠some j→w'.heap[k]?=w.heap[k]?)
 (cu:bT C (S.setO j ob) (ρ.setO j d) σ own hv w' w0.heap.size j ob) (lQ:ob≠.tr:=by intro h;cases h):Inv C (S.setO j ob) (ρ.setO j d) σ own hv w0 σ0 A a w':=by
 have aA:σ.ok w':=by
  refine⟨fun k o u hc=>?_,fun k es hc=>?_⟩
  ·have aD:own k≠some j:=fun e=>by rw[(h.owns k j e).2.2.1 o] at hc;cases hc
   rw[World.cell?_of_block (qp k (h.lt hc) aD)];exact h.ok.c k o u hc
  ·have aD:own k≠some j:=fun e=>by rw[(h.owns k j e).2.2.2] at hc;cases hc
   exact(h.ok.m k es hc).keep (qp k (h.ltm hc) aD)
 refine h.step (fun i=>i=j) rfl (.refl σ) aA (fun _ _ _ hx=>.inl hx) (fun _ _ hx=>.inl hx) hw (Compat.setO _ _ _ _) (fun i hi=>⟨by simp[St.setO,bo _ _ hi],by simp[Env.setO,bo _ _ hi],rfl,fun k hk=>⟨hk,qp k (h.owns k i hk).2.1 (by rw[hk];simpa using hi)⟩⟩) (fun i hi=>?_) (fun k i hk=>?_) (fun _=>id) (fun t=>.inl ⟨rfl,rfl,rfl⟩) (fun _ _=>rfl) (fun k hk e=>qp k hk (by rw[e];simp)) (fun k i hk=>.inl ⟨i,hk⟩) (fun i hi=>by subst hi;rw[St.setO_o];exact lQ)
 ·subst hi;rw[St.setO_o];exact cu
 ·obtain⟨g1,g2,g3,g4⟩:=h.owns k i hk;exact⟨g1,by have:=hw.size;omega,g3,g4⟩
theorem W2 {B:Nat}{w w':World}{row:Option Nat}(hg:w.grownBy w' row)(hB:B≤w.heap.size)(hr:∀k,row=some k→B≤k):Below B w w':=(Below.refl B w).grown hg hB hr
theorem Zl {z:Array Value}{n i q:Nat}(hz:0<z.size)(hi:i<n)(hq:q<z.size):(madeCells z (n*z.size))[i*z.size+q]?=z[q]?:=by
 have ah:i*z.size+q<n*z.size:=by
  have:(i+1)*z.size≤n*z.size:=Nat.mul_le_mul_right _ hi;rw[Nat.add_mul] at this;omega
 have hm:(i*z.size+q)%z.size=q:=by rw[Nat.add_comm,Nat.add_mul_mod_self_right,Nat.mod_eq_of_lt hq]
 simp[madeCells,Array.getElem?_range,ah,hm,hq]
theorem amN (h:Inv C S ρ σ own hv w0 σ0 A a w)(hC:CtxOK C σ0)(ht:¬A dst)(ah:dst<a.tmps.size){T:TypeId}{l c:Operand}{r:St×List PI}(hr:Am C S dst T l c=some r){o:Oper}(hd:o.dst=some dst)(ho:o.op=.makeSlice T l c):bO C w0 σ0 Φ S ρ A a w o r:=by
 unfold Am at hr;split at hr
 case h_2=>cases hr
 rename_i E k1 n k2 m hT hl hc;simp only[Option.bind_eq_some_iff] at hr;obtain⟨e,he,hr⟩:=hr;cases hf:oQ C.P E e<;>simp only[hf,cond_true,cond_false] at hr
 ·cases hr
 obtain⟨inf,z0,hi,hs,hb,h1,hz,kQ⟩:=MZ hf;simp only[Option.bind_eq_some_iff] at hr;obtain⟨z,hzt,hr⟩:=hr;cases bW:Ty.sub z.1 e<;>simp only[bW,cond_true,cond_false] at hr
 ·cases hr
 cases hr;obtain⟨n1,aS,bj,b1,b2⟩:=(bR h hC rfl hl).int_inv;obtain⟨n2,gg,cZ,b3,b4⟩:=(bR h hC rfl hc).int_inv;simp only at bj cZ;have BE:=((vA (cap:=C.cap) (σ:=σ) hzt kQ).1).sub bW;refine bO.value hd fun ρ' ao=>?_;simp only[PI.runs,PI.run,Option.bind_eq_some_iff] at ao;obtain⟨ρ1,g1,ρ2,g2,ao⟩:=ao;cases c1:((Pf n).ev ρ).b<;>simp only[c1,cond_true,cond_false] at g1
 ·cases g1
 cases g1;cases c2:((PE.ci BinOp.eql n m).ev ρ).b<;>simp only[c2,cond_true,cond_false] at g2
 ·cases g2
 cases g2;have ar0:n1=n2:=by simpa [PE.ev,bj,cZ,D.i_int,D.b_bool,gr] using c2
 subst ar0;have hb:0≤n1∧n1≤l0:=by simpa [Pf,PE.ev,bj,D.i_int,D.b_bool,gr,D.int] using c1
 obtain⟨nn,rfl⟩:=Int.eq_ofNat_of_zero_le hb.1;have Bi:nn≤4294967296:=by have:=hb.2;unfold l0 at this;omega
 have qC:z0.cells.size=e.size:=Vf kQ;obtain⟨w',r1,r2,r3⟩:=run_make_full (P:=C.P) w w0.heap.size T E inf z0 e.size hT hi hz hs k1 k2 nn (by
  have:inf.bytes*nn≤ux*4294967296:=Nat.mul_le_mul (by assumption) Bi;unfold ux at this;omega) (by unfold maxLen;omega) h.below.size
 refine⟨.slice (some ⟨w.heap.size,0,none⟩) nn nn,w',by simp[execOp,ho,aS,gg,r1],?_⟩;obtain⟨ρ3,g3,ρ4,g4,g5⟩:=ao;cases g3;cases g4;cases g5;simp only[PE.ev,bj,D.i_int,Int.toNat_natCast];have hlen:(List.replicate nn z.2).length=nn:=by simp
 refine h.mkObj ht ah (.row E e) _ _ (fun k=>Nat.beq k w.heap.size) (W2 r3 (Nat.le_refl _) (by simp)) (fun k hk=>?_) ⟨_,List.replicate nn z.2,by simp[Env.setO,aQ],by rw[aQ,hlen];exact r2,⟨fun _=>z0,fun i x hx=>?_,fun i j u hi hj=>?_⟩,fun k hk=>?_⟩
 ·have aY:k=w.heap.size:=Nat.eq_of_beq_eq_true hk;have:=(r2.lt _ rfl).2;subst aY;exact⟨Nat.le_refl _,this⟩
 ·have:=(List.getElem?_eq_some_iff.1 hx)
  obtain⟨q1,q2⟩:=this;simp at q2;subst q2;exact BE
 ·rw[hlen] at hi;have bB:j<z0.cells.size:=(Array.getElem?_eq_some_iff.1 hj).1;rw[Array.getElem?_toList,←qC];rw[Zl (by omega) hi bB];exact hj
 ·rw[aQ] at hk;simp[Value.ownBlock] at hk;simp[fl,hk]
theorem ls.push {arr:Array MapEntry}{clock:Nat}(h:ls arr clock)(k v:Value):ls (arr.push {key:=k,val:=v,born:=clock}) (clock+1):=by
 have key:∀(i:Nat) (e:MapEntry),(arr.push {key:=k,val:=v,born:=clock})[i]?=some e→(arr[i]?=some e∧e.born<clock)∨(i=arr.size∧e.born=clock):=by
  intro i e he;rw[Array.getElem?_push] at he;split at he
  ·rename_i hi;cases he;exact .inr ⟨hi,rfl⟩
  ·exact .inl ⟨he,h.1 i e he⟩
 refine⟨fun i e he=>?_,fun i j e f he hf hb=>?_⟩
 ·rcases key i e he with⟨_,h1⟩|⟨_,h1⟩<;>omega
 ·rcases key i e he with⟨h1,h2⟩|⟨h1,h2⟩<;>rcases key j f hf with⟨h3,h4⟩|⟨h3,h4⟩
  ·exact h.2 i j e f h1 h3 hb
  ·omega
  ·omega
  ·omega
theorem ls.modify {arr:Array MapEntry}{clock:Nat}(h:ls arr clock)(i0:Nat)(k v:Value):ls (arr.modify i0 fun e=>{e with key:=k,val:=v}) clock:=by
 have key:∀(i:Nat) (e:MapEntry),(arr.modify i0 fun e=>{e with key:=k,val:=v})[i]?=some e→∃e',arr[i]?=some e'∧e'.born=e.born:=by
  intro i e he;rw[Array.getElem?_modify] at he;split at he
  ·simp only[Option.map_eq_some_iff] at he;obtain⟨e',h1,rfl⟩:=he;exact⟨e',h1,rfl⟩
  ·exact⟨e,he,rfl⟩
 refine⟨fun i e he=>?_,fun i j e f he hf hb=>?_⟩
 ·obtain⟨e',h1,h2⟩:=key i e he;rw[←h2];exact h.1 i e' h1
 ·obtain⟨e',h1,h2⟩:=key i e he;obtain⟨f',h3,h4⟩:=key j f hf;exact h.2 i j e' f' h1 h3 (by rw[h2,h4,hb])
theorem Wr (h:Inv C S ρ σ own hv w0 σ0 A a w)(hC:CtxOK C σ0){T:TypeId}{m k v:Operand}{r:St×List PI}(hr:qd C S T m k v=some r){o:Oper}(hd:o.dst=none)(ho:o.op=.mapUpdate T m k v∨o.op=.insert T m k v):bO C w0 σ0 Φ S ρ A a w o r:=by
 unfold qd at hr;split at hr
 case h_2=>cases hr
 rename_i K E j ver hT es;obtain⟨dV,_⟩:=vm h (gs:=[]) rfl m;rw[es] at dV;cases hb:Nat.beq ver (S.ver j)<;>simp only[hb,cond_true,cond_false] at hr
 ·cases hr
 have cr:=dV.2 (Nat.eq_of_beq_eq_true hb);have bk:=h.objs j;split at hr
 case h_2=>cases hr
 rename_i kt et tk ek tv ev eo hk uj;rw[eo] at bk;cases hc:(Ty.beq tk kt&&rX C.P K kt&&Ty.sub tv et)<;>simp only[hc,cond_true,cond_false] at hr
 ·cases hr
 cases hr;simp only[Bool.and_eq_true] at hc;obtain⟨⟨Gx,Bb⟩,bW⟩:=hc;obtain⟨g,arr,clock,ds,h1,h2,h3,h4,h5,⟨h6,oW⟩,h7⟩:=bk;have aY:=bR h hC rfl hk;rw[Ty.beq_eq _ _ Gx] at aY;have hv':=(bR h hC rfl uj).sub bW;refine bO.skip hd fun ρ' ao=>?_;simp only[PI.runs,PI.run,Option.bind_eq_some_iff] at ao;obtain⟨ρ1,g1,ρ2,g2,g3⟩:=ao;cases c1:((PE.ci BinOp.lss (.mlen (.o j)) (.con (.int l0))).ev ρ).b<;>simp only[c1,cond_true,cond_false] at g1
 ·cases g1
 cases g1;cases g2;cases g3;have arM:ds.length<4294967296:=by
  have h8:=alG c1;simp only[PE.ev,h4,D.m,D.i_int,D.int] at h8;exact aty h8
 have jE:(Instr.checkKey false 10000 K (a.eval k)).run C.P w=.ok () w:=V5 (cap:=C.cap) (σ:=σ) Bb aY;have kg:∃re vQ ds',(Instr.mapUpdate T (a.eval m) (a.eval k) (a.eval v)).run C.P w=.ok () {w with heap:=w.heap.setIfInBounds g (.map re vQ)}∧jQ (ek.ev ρ) (ev.ev ρ) ds=ds'∧ds'.length=re.size∧(ds'.length≤maxLen∧ls re vQ)∧
  ∀(i:Nat) (e:MapEntry) (p:D×D),re[i]?=some e→ds'[i]?=some p→Rep C.cap σ kt e.key p.1∧Rep C.cap σ et e.val p.2:=by
  rcases run_findKey Bb aY arr ds h5 h7 w with⟨f1,f2,f3⟩|⟨i,e,p,f1,f2,f3,f4,f5,f6⟩
  ·refine⟨arr.push {key:=a.eval k,val:=a.eval v,born:=clock},clock+1,ds++[(ek.ev ρ,ev.ev ρ)],?_,f3 _,by simp[h5],⟨by simp;unfold maxLen;omega,oW.push _ _⟩,fun q e p he hp=>?_⟩
   ·rw[cr,h1];simp[Instr.mapUpdate,run_underlying hT,getObj,Sem.run,h3,jE,f1,setObj]
   ·rw[Array.getElem?_push] at he;rw[List.getElem?_append] at hp;by_cases hq:q=arr.size
    ·subst hq;simp at he;rw[if_neg (by omega)] at hp;simp[h5] at hp;subst he;subst hp;exact⟨aY,hv'⟩
    ·rw[if_neg hq] at he;have GN:q<arr.size:=(Array.getElem?_eq_some_iff.1 he).1;rw[if_pos (by omega)] at hp;exact h7 q e p he hp
  ·refine⟨arr.modify i fun e=>{e with key:=a.eval k,val:=a.eval v},clock,ds.set i (ek.ev ρ,ev.ev ρ),?_,f5 _,by simp[h5],⟨by simp;exact h6,oW.modify _ _ _⟩,fun q e' p' he hp=>?_⟩
   ·rw[cr,h1];have cv:(Instr.keyThatStays e.key (a.eval k)).run C.P w=.ok (a.eval k) w:=by simp[Instr.keyThatStays,f6]
    simp[Instr.mapUpdate,run_underlying hT,getObj,Sem.run,h3,jE,f3,f1,cv,setObj]
   ·rw[Array.getElem?_modify] at he;rw[List.getElem?_set] at hp;by_cases hq:i=q
    ·subst hq;simp only[if_true] at he hp;rw[f1] at he;simp at he;split at hp
     ·cases hp;subst he;exact⟨aY,hv'⟩
     ·cases hp
    ·rw[if_neg hq] at he hp;exact h7 q e' p' he hp
 obtain⟨re,vQ,ds',r1,r2,r3,r4,r5⟩:=kg;refine⟨{w with heap:=w.heap.setIfInBounds g (.map re vQ)},by rcases ho with ho|ho<;>simp[execOp,ho,r1],?_⟩;have hgl:g<w.heap.size:=(Array.getElem?_eq_some_iff.1 h3).1;have hgB:w0.heap.size≤g:=(h.owns g j h2).1;have bF:(PE.put (.o j) ek ev).ev ρ=.map ds':=by simp only[PE.ev,h4,D.m,r2]
 rw[bF]
 have:=h.updB j (.mp kt et) (.map ds') (w':={w with heap:=w.heap.setIfInBounds g (.map re vQ)}) ⟨rfl,rfl,rfl,by simp,fun k hk=>by simp;rw[Array.getElem?_setIfInBounds_ne (by omega)]⟩
  (fun k hk aD=>by simp;rw[Array.getElem?_setIfInBounds_ne (fun e=>aD (by rw[←e];exact h2))])
  ⟨g,re,vQ,ds',h1,h2,by simp[hgl],by simp[Env.setO,aQ],r3,r4,r5⟩
 have eS:S.setO j (.mp kt et)=S:=St.setO_self eo;rw[eS] at this;exact⟨_,_,_,this⟩
end
end Cx
namespace Cx
open Go Go.RowKit
theorem aBi {e:Ty}{z:Value}(h:il e z=true):e.rowT=true∨e.one=true:=by
 cases e<;>first|exact .inl rfl|exact .inr rfl|(cases z<;>simp[il,vz] at h)
theorem Rep.cellsOne {cap:Nat→Option CSig}{σ:Im}{t:Ty}{v:Value}{d:D}(h:Rep cap σ t v d)(ht:t.rowT=true∨t.one=true){m:Nat}{u:Value}(hu:v.cells[m]?=some u):u.oneCell'=true:=by
 obtain⟨f1,f2,f3⟩:=h.flat ht;have ah:m<v.cells.size:=(Array.getElem?_eq_some_iff.1 hu).1;rw[h.size] at ah;obtain⟨g1,g2⟩:=f3 m _ (List.getElem?_eq_getElem (by omega:m<t.flat.length));have:=(g2.oneCell g1).2;rw[Array.getD_eq_getD_getElem?,hu] at this;exact this
theorem am8 {cap:Nat→Option CSig}{σ:Im}{e:Ty}{cells:List Value}{xs:List D}(h:fU cap σ e cells xs)(hl:cells.length=xs.length*e.size)(gf:e.rowT=true∨e.one=true):∀u∈cells,u.oneCell'=true:=by
 obtain⟨vs,h1,h2⟩:=h;intro u hu;obtain⟨p,hp,rfl⟩:=List.getElem_of_mem hu;rw[hl] at hp;have hs:0<e.size:=Nat.pos_of_ne_zero fun e0=>by rw[e0] at hp;simp at hp
 have hi:p/e.size<xs.length:=(Nat.div_lt_iff_lt_mul hs).2 hp;have hq:p%e.size<e.size:=Nat.mod_lt _ hs;have bK:=h1 _ _ (List.getElem?_eq_getElem hi);have aL:=bK.size;have nI:(vs (p/e.size)).cells[p%e.size]?=some (vs (p/e.size)).cells[p%e.size]:=Array.getElem?_eq_getElem (by omega);have:=h2 _ _ _ hi nI;rw[Nat.mul_comm,Nat.div_add_mod] at this;have h3:cells[p]=(vs (p/e.size)).cells[p%e.size]:=by
  have h4:=List.getElem?_eq_getElem (show p<cells.length by omega);rw[h4] at this;exact Option.some.inj this
 rw[h3];exact bK.cellsOne gf nI
theorem am7 {cap:Nat→Option CSig}{σ:Im}{e:Ty}{c1 c2:List Value}{xs ys:List D}(h:fU cap σ e c1 xs)(k:fU cap σ e c2 ys)(hl:c1.length=xs.length*e.size):fU cap σ e (c1++c2) (xs++ys):=by
 obtain⟨vs,h1,h2⟩:=h;obtain⟨us,k1,k2⟩:=k;refine⟨fun i=>if i<xs.length then vs i else us (i-xs.length),fun i x hx=>?_,fun i j u hi hj=>?_⟩
 ·rw[List.getElem?_append] at hx;split at hx
  ·rename_i ah;simp only[ah,if_true];exact h1 i x hx
  ·rename_i ah;simp only[ah,if_false];exact k1 _ x hx
 ·by_cases ah:i<xs.length
  ·simp only[ah,if_true] at hj;have:=h2 i j u ah hj;rw[List.getElem?_append_left (List.getElem?_eq_some_iff.1 this).1];exact this
  ·simp only[ah,if_false] at hj;have cU:i-xs.length<ys.length:=by simp at hi;omega
   have:=k2 _ j u cU hj;have e1:i*e.size=c1.length+(i-xs.length)*e.size:=by rw[hl,←Nat.add_mul];congr 1;omega
   rw[List.getElem?_append_right (by omega)];rw[show i*e.size+j-c1.length=(i-xs.length)*e.size+j by omega];exact this
section
variable {C:Ctx} {S:St} {ρ:Env} {σ:Im} {own:Nat→Option Nat} {hv:Nat→Value} {w0:World} {σ0:Base} {A:Nat→Prop} {a:Act} {w:World} {gs:List (Nat×Bool)} {Φ:aT} {dst:Nat}
theorem aAZ (h:Inv C S ρ σ own hv w0 σ0 A a w){B:Nat}{e f:Ty}{v:Value}{d:D}(hs:0<e.size)(gf:e.rowT=true∨e.one=true)(hf:f.unf=e)(OW:LP C σ w B (.slice f) v d):
 ∃ys,d=.list ys∧ys.length≤maxLen∧((v=.slice none 0 0∧ys=[])∨∃(ad:Addr) (c:Nat) (news:List Value),v=.slice (some ad) ys.length c∧news.length=ys.length*e.size∧
  (∀j u,news[j]?=some u→w.cell? (ad.add j)=some u)∧fU C.cap σ e news ys):=by
 rcases OW with hr|⟨T,e',cells,xs,ht,hd,bN,gN⟩|⟨k,arr,clock,es,kt,et,ht,_⟩
 ·obtain⟨xs,hd,wv⟩:=hr.slice_inv;rw[←f.unf_size,hf] at wv;rcases wv with⟨⟨p0,aS⟩,rfl⟩|⟨k,o,c,aS,h1,h2,vs,h3,h4⟩
  ·cases p0 with
   |none=>exact⟨[],hd,by simp,.inl ⟨aS,rfl⟩⟩
   |some a0=>exact⟨[],hd,by simp,.inr ⟨a0,0,[],aS,by simp,fun j u hu=>by simp at hu,fun _=>undef,fun i x hx=>by simp at hx,fun i j u hi=>by simp at hi⟩⟩
  ·refine⟨xs,hd,by omega,.inr ⟨⟨k,o,none⟩,c,(List.range (xs.length*e.size)).map fun p=>(vs (p/e.size)).cells.getD (p%e.size) undef,aS,by simp,fun j u hu=>?_,vs,h3,fun i j u hi hj=>?_⟩⟩
   ·simp only[List.getElem?_map,Option.map_eq_some_iff] at hu;obtain⟨p,hp,rfl⟩:=hu;have fh:j<xs.length*e.size:=by have:=(List.getElem?_eq_some_iff.1 hp).1;simpa using this
    rw[List.getElem?_range fh] at hp;cases hp;have hi:j/e.size<xs.length:=(Nat.div_lt_iff_lt_mul hs).2 fh;have hq:j%e.size<e.size:=Nat.mod_lt _ hs;have bK:=h3 _ _ (List.getElem?_eq_getElem hi);have aL:=bK.size;have nI:(vs (j/e.size)).cells[j%e.size]?=some ((vs (j/e.size)).cells.getD (j%e.size) undef):=by
     rw[Array.getD_eq_getD_getElem?,Array.getElem?_eq_getElem (by omega)];rfl
    have:=h.cell (h4 _ _ _ hi nI);rw[q9]
    rwa [show o+j/e.size*e.size+j%e.size=o+j by rw[Nat.add_assoc,Nat.mul_comm,Nat.div_add_mod]] at this
   ·have bK:=h3 _ _ (List.getElem?_eq_getElem hi);have bB:j<e.size:=by rw[←bK.size];exact(Array.getElem?_eq_some_iff.1 hj).1
    have ah:i*e.size+j<xs.length*e.size:=by
     have:(i+1)*e.size≤xs.length*e.size:=Nat.mul_le_mul_right _ hi;rw[Nat.add_mul] at this;omega
    have e1:(i*e.size+j)/e.size=i:=by rw[Nat.mul_comm,Nat.mul_add_div hs,Nat.div_eq_of_lt bB];omega
    have e2:(i*e.size+j)%e.size=j:=by rw[Nat.add_comm,Nat.add_mul_mod_self_right,Nat.mod_eq_of_lt bB]
    simp only[List.getElem?_map,List.getElem?_range ah,Option.map_some,e1,e2];rw[Array.getD_eq_getD_getElem?,hj];rfl
 ·cases ht;rw[Ty.unf_rol] at hf;obtain⟨b,c,aS,hm,_⟩:=uO bN;have gN:fU C.cap σ e cells xs:=by
   obtain⟨us,u1,u2⟩:=gN;refine⟨us,fun i x hx=>hf▸(u1 i x hx).unf,fun i j u hi hu=>?_⟩;rw[←hf,Ty.unf_size];exact u2 i j u hi hu
  have bN:w.ownsRow B T e.size v xs.length cells:=by rw[←hf,Ty.unf_size];exact bN
  rcases bN.2 with⟨e1,e2⟩|⟨g,cap,cur,e1,e2⟩
  ·have:xs=[]:=List.eq_nil_of_length_eq_zero e2;subst this;exact⟨[],hd,by simp,.inl ⟨e1,rfl⟩⟩
  ·exact⟨xs,hd,hm,.inr ⟨⟨g,0,none⟩,cap,cells,e1,bN.1,bN.cells (by rw[e1];rfl),gN⟩⟩
 ·cases ht
theorem axO {P:Program}{B:Nat}{T E ty:TypeId}{inf:TypeInfo}{z:Value}{size:Nat}{v x:Value}{n m:Nat}{xs news:List Value}(hT:P.underlying T=some (.slice E))(hi:P.info? E=some inf)(hz:inf.zero=some z)
 (hs:inf.size=size) (qC:z.cells.size=size) (aL:0<size) (nH:inf.bytes≤ux) (bN:w.ownsRow B E size v n xs) (hB:B≤w.heap.size) (cP:n+m≤4294967296)
 (hx:(x=.slice none 0 0∧m=0∧news=[])∨∃(ad:Addr) (c:Nat),x=.slice (some ad) m c∧news.length=m*size∧(∀j u,news[j]?=some u→w.cell? (ad.add j)=some u)∧∀u∈news,u.oneCell'=true):
 ∃v' w',(Builtin.append_ #[T,T] ty #[v,x]).run P w=.ok v' w'∧w'.ownsRow B E size v' (n+m) (xs++news)∧w.grownBy w' v.ownBlock∧∀k,v'.ownBlock=some k→v.ownBlock=some k∨(w.heap.size≤k∧k<w'.heap.size):=by
 rcases hx with⟨rfl,rfl,rfl⟩|⟨ad,c,rfl,hl,GG,h1⟩
 ·refine⟨v,w,run_append_owned_none w B T ty E inf size hT hi v n xs bN,by simpa using bN,⟨rfl,rfl,rfl,Nat.le_refl _,fun _ _ _=>rfl⟩,fun k hk=>.inl hk⟩
 ·have NG:(n+m)*inf.bytes≤140737488355328:=by
   have:(n+m)*inf.bytes≤4294967296*ux:=Nat.mul_le_mul cP nH;unfold ux at this;omega
  obtain⟨v',w',r1,r2,r3,r4⟩:=run_append_own (P:=P) w B T ty E inf z size inf.bytes hT hi hz hs rfl qC aL v n xs bN ad m c news hl GG h1 (by unfold maxLen;omega) NG hB;refine⟨v',w',r1,r2,r3,fun k hk=>?_⟩;have ah:=(r2.lt k hk).2;subst hs;rcases bN.2 with⟨rfl,rfl⟩|⟨g,cap,cur,rfl,hbg,hg,db,lK,eE,By⟩
  ·by_cases hm:m=0
   ·subst hm;have:=r4.2 ⟨rfl,rfl⟩;subst this;simp[Value.ownBlock] at hk
   ·have hr:=run_append_nil (P:=P) w T ty E inf z hT hi hz ad m c news hl GG (by omega) (by omega) (by have hb:=NG;simp only[Nat.zero_add] at hb;omega);rw[hr] at r1;cases r1;simp[Value.ownBlock] at hk;subst hk;exact .inr ⟨Nat.le_refl _,ah⟩
  ·by_cases Yj:n+m≤cap
   ·have Gp:n*inf.size+news.length≤cur.size:=by rw[hl,eE,←Nat.add_mul];exact Nat.mul_le_mul_right _ Yj
    have hr:=run_append_room (P:=P) w T ty E inf hT hi g n cap cur hg ad m c news hl GG h1 Yj Gp;rw[hr] at r1;cases r1;exact .inl hk
   ·have hr:=run_append_grow (P:=P) w T ty E inf z hT hi hz ⟨g,0,none⟩ n cap xs bN.1 (bN.cells (g:=g) rfl) ad m c news hl GG (by omega) (by omega) (growslice_fits (by omega) NG);rw[hr] at r1;cases r1;simp[Value.ownBlock] at hk;subst hk;exact .inr ⟨Nat.le_refl _,ah⟩
theorem amt (h:Inv C S ρ σ own hv w0 σ0 A a w)(hC:CtxOK C σ0)(ht:¬A dst)(ah:dst<a.tmps.size){T:TypeId}{s x:Operand}{r:St×List PI}(hr:Ah C S dst T s x=some r){o:Oper}(hd:o.dst=some dst)
 (ho:o.op=.call {callee:=.builtin .append,args:=#[s,x],argTypes:=#[T,T]}):bO C w0 σ0 Φ S ρ A a w o r:=by
 unfold Ah at hr;split at hr
 case h_2=>cases hr
 rename_i E hT;simp only[Option.bind_eq_some_iff] at hr;obtain⟨e,he,hr⟩:=hr;split at hr
 case h_2=>cases hr
 rename_i tx ex OW;have hv':=Va h hC (gs:=[]) rfl OW;obtain⟨cs,ao⟩:=Sd (C:=C) (w:=w) (a:=a) ho;cases hc:(oQ C.P E e&&Lg tx e)<;>simp only[hc,cond_true,cond_false] at hr
 ·cases hr
 simp only[Bool.and_eq_true] at hc;obtain⟨inf,z,hi,hs,nH,h1,hz,kQ⟩:=MZ hc.1;have qC:=Vf kQ;have gf:=aBi kQ;have OX:∃f:Ty,f.unf=e∧LP C σ w w0.heap.size (.slice f) (a.eval x) (ex.ev ρ):=by
  have cv:=hc.2;unfold Lg at cv;split at cv
  ·exact⟨_,Ty.beq_eq _ _ cv,hv'⟩
  ·refine⟨e,Ty.unf_ro gf,?_⟩;rcases hv' with hr|⟨_,_,_,_,ht,_⟩|⟨_,_,_,_,_,_,ht,_⟩
   ·exact .inl (hr.sub (by simp[Ty.sub]))
   ·cases ht
   ·cases ht
  ·cases cv
 obtain⟨fv,dW,OX⟩:=OX;obtain⟨ys,Gm,jm,asK⟩:=aAZ h h1 gf dW OX;have hx:∃news,fU C.cap σ e news ys∧news.length=ys.length*e.size∧((a.eval x=.slice none 0 0∧ys.length=0∧news=[])∨∃(ad:Addr) (c:Nat),a.eval x=.slice (some ad) ys.length c∧news.length=ys.length*e.size∧(∀j u,news[j]?=some u→w.cell? (ad.add j)=some u)∧∀u∈news,u.oneCell'=true):=by
  rcases asK with⟨e1,rfl⟩|⟨ad,c,news,e1,e2,e3,e4⟩
  ·exact⟨[],⟨fun _=>undef,by simp,by simp⟩,by simp,.inl ⟨e1,rfl,rfl⟩⟩
  ·exact⟨news,e4,e2,.inr ⟨ad,c,e1,e2,e3,am8 e4 e2 gf⟩⟩
 obtain⟨news,aD,Oc,hx⟩:=hx;have main:∀(j:Nat) (v:Value) (xs:List D) (cells:List Value),a.eval s=v→w.ownsRow w0.heap.size E e.size v xs.length cells→fU C.cap σ e cells xs→xs.length+ys.length≤4294967296→
  (∀k,v.ownBlock=some k→own k=some j)→
  ∃v' w',(execOp a.eval o).run C.P w=.ok (.value v') w'∧Good C w0 σ0 ((S.newO j (.row E e)).setR dst (.obj j (S.ver j+1))) ((ρ.setO j (.list (xs++ys))).setR dst .none) (fun u=>A u∨u=dst) (a.put (some dst) v') w':=by
  intro j v xs cells OM bN gN hlen cu;obtain⟨v',w',r1,r2,r3,r4⟩:=axO (P:=C.P) (ty:=o.type) hT hi hz hs qC h1 nH bN h.below.size hlen hx;refine⟨v',w',by rw[ao];simp[builtin,OM,r1],?_⟩
  have as2:=h.updO j (.row E e) (.list (xs++ys)) v' (fun k=>decide (v'.ownBlock=some k)) (w':=w') (W2 r3 h.below.size (fun k hk=>(h.owns k j (cu k hk)).1)) (fun k hk aD=>r3.block k hk (fun e=>aD (cu k e.symm))) (fun k hk=>by
        have aY:v'.ownBlock=some k:=by simpa using hk
        rcases r4 k aY with e|e
        ·exact⟨.inl (cu k e),(r2.lt k aY).2⟩
        ·exact⟨.inr e.1,e.2⟩)
   ⟨cells++news,xs++ys,by simp[Env.setO,aQ],by rw[aQ,List.length_append];exact r2,am7 gN aD bN.1,fun k hk=>by rw[aQ] at hk;simp[fl,hk]⟩
  have h2:=as2.setObj ht (j:=j) (v:=v') (aQ _ _ _) ah;have e:(S.newO j (.row E e)).ver j=S.ver j+1:=aQ _ _ _;rw[e] at h2;exact⟨_,_,_,h2⟩
 split at hr
 ·rename_i e0 pe0 hu;cases hr;refine bO.value hd fun ρ' pj=>?_;have ON:=bR h hC rfl hu;have OM:a.eval s=.slice none 0 0:=by
   generalize a.eval s=v at ON;generalize pe0.ev ρ=d at ON;cases ON;rfl
  simp only[PI.runs,PI.run,Option.bind_eq_some_iff] at pj;obtain⟨ρ1,g1,ρ2,g2,ρ3,g3,g4⟩:=pj;cases c1:((G2 (.con (.list [])) ex).ev ρ).b<;>simp only[c1,cond_true,cond_false] at g1
  ·cases g1
  cases g1;cases g2;cases g3;cases g4;have hlen:=V6 c1;simp only[PE.ev,D.l_list,Gm,List.nil_append,D.i_int,D.int] at hlen;have:=main dst (.slice none 0 0) [] [] OM (World.ownsRow_nil _ _ _ _) ⟨fun _=>undef,by simp,by simp⟩ (by simpa using YW hlen) (by simp[Value.ownBlock]);simpa [PE.ev,D.l_list,Gm,mkObj] using this
 ·cases hr
 ·obtain⟨dV,_⟩:=vm h (gs:=[]) rfl s;split at hr
  case h_2=>cases hr
  rename_i j ver es;rw[es] at dV;cases hb:Nat.beq ver (S.ver j)<;>simp only[hb,cond_true,cond_false] at hr
  ·cases hr
  have cr:=dV.2 (Nat.eq_of_beq_eq_true hb);have bk:=h.objs j;split at hr
  case h_2=>cases hr
  rename_i E' e' eo;rw[eo] at bk;cases iJ:(Nat.beq E' E&&Ty.beq e' e)<;>simp only[iJ,cond_true,cond_false] at hr
  ·cases hr
  cases hr;simp only[Bool.and_eq_true] at iJ;have e1:=Nat.eq_of_beq_eq_true iJ.1;have e2:=Ty.beq_eq _ _ iJ.2;subst e1;subst e2;obtain⟨cells,xs,k1,k2,k3,k4⟩:=bk;refine bO.value hd fun ρ' pj=>?_;simp only[PI.runs,PI.run,Option.bind_eq_some_iff] at pj;obtain⟨ρ1,g1,ρ2,g2,ρ3,g3,g4⟩:=pj;cases c1:((G2 (.o j) ex).ev ρ).b<;>simp only[c1,cond_true,cond_false] at g1
  ·cases g1
  cases g1;cases g2;cases g3;cases g4;have hlen:=V6 c1;simp only[PE.ev,D.l_list,Gm,k1,D.i_int,D.int] at hlen;have:=main j (hv j) xs cells cr k2 k3 (by have:=YW hlen;simpa using this) k4;simpa [PE.ev,D.l_list,Gm,k1] using this
end
end Cx
namespace Cx
open Go Go.RowKit
theorem K9 {P:Program}{a:Act}{w:World}{o:Oper}{T:TypeId}{x v:Operand}{inf:TypeInfo}{k off:Nat}{cs:Array Value}{E:TypeId}(ho:o.op=.store T x v)(hi:P.info? T=some inf)(hx:a.eval x=.pointer (some ⟨k,off,none⟩))
 (hs:(a.eval v).cells.size=inf.size) (dN:∀u∈(a.eval v).cells.toList,u.oneCell'=true) (hb:w.heap[k]?=some (.cells cs E (0,0))) (hle:off+inf.size≤cs.size):
 (execOp a.eval o).run P w=.ok .skip (w.setRow k (cs.toList.take off++(a.eval v).cells.toList++cs.toList.drop (off+inf.size)).toArray):=by
 have:=run_storeCells_at P k off E (a.eval v).cells.toList 0 cs w hb (by simp[hs];exact hle) dN;simp only[Nat.add_zero,Array.length_toList,hs] at this;simp[execOp,ho,Instr.storeAt,hx,Instr.sureAddr,storeVar,Go.sizeOf,run_typeInfo w hi,hs,this]
theorem ae3 {w:World}{B k:Nat}{cs:Array Value}(hB:B≤k):Below B w (w.setRow k cs)∧∀i,i≠k→(w.setRow k cs).heap[i]?=w.heap[i]?:=
 ⟨⟨rfl,rfl,rfl,by simp[World.setRow],fun i hi=>setRow_other w k i cs (by omega)⟩,fun i hi=>setRow_other w k i cs hi⟩
theorem FY {α:Type}(xs ys:List α)(off:Nat)(d:α)(hle:off+ys.length≤xs.length)(i:Nat):(xs.take off++ys++xs.drop (off+ys.length)).getD i d=if off≤i∧i<off+ys.length then ys.getD (i-off) d else xs.getD i d:=by
 simp only[List.getD_eq_getElem?_getD,List.append_assoc];rw[List.getElem?_append,List.length_take,Nat.min_eq_left (by omega)];split
 ·rename_i h;rw[if_neg (by omega),List.getElem?_take,if_pos h]
 ·rename_i h;rw[List.getElem?_append];split
  ·rename_i h2;rw[if_pos (by omega)]
  ·rename_i h2;rw[if_neg (by omega),List.getElem?_drop];congr 2;omega
section
variable {C:Ctx} {S:St} {ρ:Env} {σ:Im} {own:Nat→Option Nat} {hv:Nat→Value} {w0:World} {σ0:Base} {A:Nat→Prop} {a:Act} {w:World} {gs:List (Nat×Bool)} {Φ:aT} {dst:Nat}
theorem Inv.storeBox (h:Inv C S ρ σ own hv w0 σ0 A a w){j k off:Nat}{ag:Bool}{shs news:List Sh}{cs:Array Value}{E:TypeId}{ds dn:List D}{vs:List Value}(eo:S.o j=.box ag shs)
 (h1:hv j=.pointer (some ⟨k,0,none⟩)) (h2:own k=some j) (h3:w.heap[k]?=some (.cells cs E (0,0))) (h4:cs.size=shs.length) (h5:ρ.o j=.agg ds) (h6:ds.length=shs.length)
 (h7:∀i s,shs[i]?=some s→(∀gs s',s≠.opt gs s')∧aK C S ρ σ hv s (cs.getD i undef) (ds.getD i .none))
 (l1:news.length=vs.length) (l2:dn.length=vs.length) (hle:off+vs.length≤shs.length)
 (ke:∀i s,news[i]?=some s→(∀gs s',s≠.opt gs s')∧aK C S ρ σ hv s (vs.getD i undef) (dn.getD i .none)):
 Inv C (S.setO j (.box ag (shs.take off++news++shs.drop (off+vs.length)))) (ρ.setO j (.agg (cM ds off dn))) σ own hv w0 σ0 A a (w.setRow k (cs.toList.take off++vs++cs.toList.drop (off+vs.length)).toArray):=by
 have hkB:w0.heap.size≤k:=(h.owns k j h2).1;obtain⟨b1,b2⟩:=ae3 (w:=w) (B:=w0.heap.size) (k:=k) (cs:=(cs.toList.take off++vs++cs.toList.drop (off+vs.length)).toArray) hkB;refine h.updB j _ _ b1 (fun i hi aD=>b2 i fun e=>aD (e▸h2)) ⟨k,_,E,cM ds off dn,h1,h2,setRow_heap w k cs _ E _ h3,?_,by simp[Env.setO,aQ],?_,fun i s hi=>?_⟩
 ·simp[l1];omega
 ·simp[cM,l2,l1];omega
 ·have eE:(cs.toList.take off++vs++cs.toList.drop (off+vs.length)).toArray.getD i undef=if off≤i∧i<off+vs.length then vs.getD (i-off) undef else cs.getD i undef:=by
   have e0:∀l:List Value,l.toArray.getD i undef=l.getD i undef:=fun l=>by simp[Array.getD_eq_getD_getElem?,List.getD_eq_getElem?_getD]
   rw[e0,FY cs.toList vs off undef (by simp;omega),wc cs i]
  have tP:(cM ds off dn).getD i .none=if off≤i∧i<off+vs.length then dn.getD (i-off) .none else ds.getD i .none:=by
   rw[cM,FY ds dn off .none (by omega),l2]
  rw[eE,tP];have X1:∀s v d,(∀gs s',s≠.opt gs s')→aK C S ρ σ hv s v d→aK C (S.setO j (.box ag (shs.take off++news++shs.drop (off+vs.length)))) (ρ.setO j (.agg (cM ds off dn))) σ hv s v d:=
   fun s v d hn hk=>aK.mono' (.refl σ) (Compat.setO _ _ _ _) hn hk
  have jK:(shs.take off++news++shs.drop (off+vs.length))[i]?=if off≤i∧i<off+vs.length then news[i-off]? else shs[i]?:=by
   rw[List.append_assoc,List.getElem?_append,List.length_take,Nat.min_eq_left (by omega)];split
   ·rename_i h;rw[if_neg (by omega),List.getElem?_take,if_pos h]
   ·rename_i h;rw[List.getElem?_append,l1];split
    ·rename_i h2;rw[if_pos (by omega)]
    ·rename_i h2;rw[if_neg (by omega),List.getElem?_drop];congr 1;omega
  rw[jK] at hi;split
  ·rename_i hc;rw[if_pos hc] at hi;obtain⟨g1,g2⟩:=ke _ s hi;exact⟨g1,X1 _ _ _ g1 g2⟩
  ·rename_i hc;rw[if_neg hc] at hi;obtain⟨g1,g2⟩:=h7 _ s hi;exact⟨g1,X1 _ _ _ g1 g2⟩
theorem axL (h:Inv C S ρ σ own hv w0 σ0 A a w){j:Nat}(hr:lX (S.o j)=true):(hv j).cells=#[hv j]∧(hv j).oneCell'=true:=by
 have bk:=h.objs j;cases cu:S.o j with
 |row T e=>
  rw[cu] at bk;obtain⟨cells,xs,h1,h2,h3,h4⟩:=bk;obtain⟨b,c,e1,_⟩:=uO h2;rw[e1];exact⟨rfl,rfl⟩
 |mp kt et=>
  rw[cu] at bk;obtain⟨k0,arr,clock,es,h1,_⟩:=bk;rw[h1];exact⟨rfl,rfl⟩
 |_=>rw[cu] at hr;simp[lX] at hr
theorem Inv.storeRow (h:Inv C S ρ σ own hv w0 σ0 A a w){j k n c i p:Nat}{T:TypeId}{e:Ty}{cells vs:List Value}{xs:List D}{v':Value}{d':D}(eo:S.o j=.row T e)(dX:hv j=.slice (some ⟨k,0,none⟩) n c)
 (h1:ρ.o j=.list xs) (h2:w.ownsRow w0.heap.size T e.size (hv j) xs.length cells) (h3:fU C.cap σ e cells xs) (h4:∀k,(hv j).ownBlock=some k→own k=some j) (hi:i<xs.length)
 (Bo:i*e.size≤p) (eF:p+vs.length≤i*e.size+e.size) (hr:Rep C.cap σ e v' d')
 (hv':∀q u,v'.cells[q]?=some u→(cells.take p++vs++cells.drop (p+vs.length))[i*e.size+q]?=some u):
 ∃cur,w.heap[k]?=some (.cells cur T (0,0))∧p+vs.length≤cur.size∧Inv C S (ρ.setO j (.list (xs.set i d'))) σ own hv w0 σ0 A a (w.setRow k (cur.toList.take p++vs++cur.toList.drop (p+vs.length)).toArray):=by
 have bf:=h2.1;rcases h2.2 with⟨e0,e1⟩|⟨g,cap,cur,e1,e2,e3,e4,e5,e6,e7⟩
 ·omega
 rw[dX] at e1;cases e1;have arF:i*e.size+e.size≤xs.length*e.size:=by
  have:(i+1)*e.size≤xs.length*e.size:=Nat.mul_le_mul_right _ hi;rw[Nat.add_mul] at this;omega
 have aFU:xs.length*e.size≤c*e.size:=Nat.mul_le_mul_right _ e4;have asn:p+vs.length≤cur.size:=by omega
 refine⟨cur,e3,asn,?_⟩;have bN:own k=some j:=h4 k (by rw[dX];rfl);obtain⟨b1,b2⟩:=ae3 (w:=w) (B:=w0.heap.size) (k:=k) (cs:=(cur.toList.take p++vs++cur.toList.drop (p+vs.length)).toArray) e2;have By:(cur.toList.take p++vs++cur.toList.drop (p+vs.length)).take (xs.length*e.size)=cells.take p++vs++cells.drop (p+vs.length):=by
  rw[←e7];apply List.ext_getElem?;intro q;simp only[List.append_assoc,List.getElem?_take,List.getElem?_append,List.length_take,List.getElem?_drop,Array.length_toList];by_cases hq:q<xs.length*e.size
  ·rw[if_pos hq];by_cases hq1:q<p
   ·simp[hq1,Nat.lt_min,show q<cur.size by omega,hq]
   ·by_cases gQ:q-p<vs.length
    ·rw[if_neg (by omega),Nat.min_eq_left (by omega),if_pos gQ,if_neg (by omega),Nat.min_eq_left (by omega),if_pos gQ]
    ·rw[if_neg (by omega),Nat.min_eq_left (by omega),if_neg gQ,if_neg (by omega),Nat.min_eq_left (by omega),if_neg gQ,if_pos (by omega)]
  ·rw[if_neg hq];have:¬q<p:=by omega
   rw[if_neg (by omega),Nat.min_eq_left (by omega),if_neg (by omega),if_neg (by omega)]
 have:=h.updB j (.row T e) (.list (xs.set i d')) b1 (fun q hq aD=>b2 q fun e=>aD (e▸bN))
  ⟨cells.take p++vs++cells.drop (p+vs.length),xs.set i d',by simp[Env.setO,aQ],⟨by simp;omega,.inr ⟨k,c,_,by rw[dX];simp,e2,setRow_heap w k cur _ T _ e3,by simpa using e4,e5,by simp;omega,by simpa using By⟩⟩,?_,h4⟩
 ·rw[St.setO_self eo] at this;exact this
 ·obtain⟨us,u1,u2⟩:=h3;refine⟨fun q=>if q=i then v' else us q,fun q x hx=>?_,fun q m u hq hm=>?_⟩
  ·rw[List.getElem?_set] at hx;by_cases wM:i=q
   ·subst wM;simp only[if_true] at hx ⊢;rw[if_pos hi] at hx;cases hx;exact hr
   ·rw[if_neg wM] at hx;simp only[show ¬q=i from fun e=>wM e.symm,if_false];exact u1 q x hx
  ·by_cases wM:q=i
   ·subst wM;simp only[if_true] at hm;exact hv' m u hm
   ·simp only[wM,if_false] at hm;simp only[List.length_set] at hq;have h9:=u2 q m u hq hm;have aF7:m<e.size:=by rw[←(u1 q _ (List.getElem?_eq_getElem hq)).size];exact(Array.getElem?_eq_some_iff.1 hm).1
    have jh:q*e.size+m<p∨p+vs.length≤q*e.size+m:=by
     rcases Nat.lt_or_ge q i with ah|dS
     ·left;have:(q+1)*e.size≤i*e.size:=Nat.mul_le_mul_right _ ah;rw[Nat.add_mul] at this;omega
     ·right;have:(i+1)*e.size≤q*e.size:=Nat.mul_le_mul_right _ (by omega);rw[Nat.add_mul] at this;omega
    rw[List.append_assoc,List.getElem?_append,List.length_take,Nat.min_eq_left (by omega)];rcases jh with ho|ho
    ·rw[if_pos ho,List.getElem?_take,if_pos ho];exact h9
    ·rw[if_neg (by omega),List.getElem?_append_right (by omega),List.getElem?_drop];rw[show p+vs.length+(q*e.size+m-p-vs.length)=q*e.size+m by omega];exact h9
theorem amV (h:Inv C S ρ σ own hv w0 σ0 A a w)(hC:CtxOK C σ0){T:TypeId}{x v:Operand}{r:St×List PI}(hr:rk C S T x v=some r){o:Oper}(hd:o.dst=none)(ho:o.op=.store T x v):bO C w0 σ0 Φ S ρ A a w o r:=by
 unfold rk at hr;split at hr
 case h_2=>cases hr
 rename_i inf hi;obtain⟨dV,_⟩:=vm h (gs:=[]) rfl x;split at hr
 case h_3=>cases hr
 ·rename_i j ver off es;rw[es] at dV;cases hb:Nat.beq ver (S.ver j)<;>simp only[hb,cond_true,cond_false] at hr
  ·cases hr
  obtain⟨k,dX,ff⟩:=dV.2 (Nat.eq_of_beq_eq_true hb);have bk:=h.objs j;split at hr
  case h_2=>cases hr
  rename_i ag shs eo;rw[eo] at bk;obtain⟨k',cs,E,ds,h1,h2,h3,h4,h5,h6,h7⟩:=bk;have cg:=h1;rw[dX] at h1;cases h1;split at hr
  ·rename_i t e hu;have hv':=bR h hC rfl hu;cases hc:(Nat.beq inf.size t.size&&(t.rowT||t.one)&&Nat.ble (off+t.size) shs.length)<;>simp only[hc,cond_true,cond_false] at hr
   ·cases hr
   cases hr;simp only[Bool.and_eq_true,Bool.or_eq_true] at hc;obtain⟨⟨aL,gf⟩,hle⟩:=hc;have aL:=Nat.eq_of_beq_eq_true aL;have hle:=Nat.le_of_ble_eq_true hle;obtain⟨f1,f2,f3⟩:=hv'.flat gf;have gh:=hv'.size;refine bO.skip hd fun ρ' ao=>?_;rw[qX ao]
   refine⟨_,K9 ho hi ff (by rw[gh,aL]) (fun u hu=>by
        obtain⟨m,hm,rfl⟩:=List.getElem_of_mem hu;exact hv'.cellsOne gf (m:=m) (by simp at hm ⊢)) h3 (by omega),?_⟩
   have cv:=h.storeBox (off:=off) (news:=t.flat.map .dat) (vs:=(a.eval v).cells.toList) (dn:=(e.ev ρ).cells) eo cg h2 h3 h4 h5 h6 h7 (by simp[f1,gh]) (by simp[f2,gh]) (by simp[gh];omega) (fun i s hi=>by
        simp only[List.getElem?_map,Option.map_eq_some_iff] at hi;obtain⟨ti,OP,rfl⟩:=hi;refine⟨fun _ _ e=>(by cases e),?_⟩;rw[wc];exact(f3 i ti OP).2)
   have e1:(a.eval v).cells.toList.length=t.size:=by simp[gh]
   rw[e1] at cv;rw[aL];refine⟨σ,own,hv,?_⟩;simpa [PE.ev,h5,D.cells] using cv
  ·split at hr
   case h_2=>cases hr
   rename_i j' ni fy;obtain⟨OG,_⟩:=vm h (gs:=[]) rfl v;rw[fy] at OG;cases hc:(Nat.beq ni (S.ver j')&&lX (S.o j')&&Nat.beq inf.size 1&&Nat.blt off shs.length)<;>simp only[hc,cond_true,cond_false] at hr
   ·cases hr
   cases hr;simp only[Bool.and_eq_true] at hc;obtain⟨⟨⟨as7,fD⟩,aL⟩,ah⟩:=hc;have aL:=Nat.eq_of_beq_eq_true aL;have ah:off<shs.length:=by simpa [Nat.blt_eq] using ah
   have cr:=OG.2 (Nat.eq_of_beq_eq_true as7);obtain⟨c1,c2⟩:=axL h fD;have jD:(a.eval v).cells=#[a.eval v]:=by rw[cr];exact c1
   refine bO.skip hd fun ρ' ao=>?_;rw[qX ao];refine⟨_,K9 ho hi ff (by rw[jD,aL];rfl) (fun u hu=>by rw[jD] at hu;simp at hu;subst hu;rw[cr];exact c2) h3 (by omega),?_⟩
   have cv:=h.storeBox (off:=off) (news:=[.obj j' ni]) (vs:=[a.eval v]) (dn:=[.none]) eo cg h2 h3 h4 h5 h6 h7 rfl rfl (by simp;omega) (fun i s hi=>by
        match i,hi with
        |0,hi=>simp at hi;subst hi;exact⟨fun _ _ e=>(by cases e),OG.1,fun _=>by simpa using cr⟩
        |i+1,hi=>simp at hi)
   rw[jD,aL];have e2:shs.take off++[Sh.obj j' ni]++shs.drop (off+[a.eval v].length)=shs.set off (.obj j' ni):=by
        rw[List.set_eq_take_append_cons_drop,if_pos ah];simp
   rw[e2] at cv;refine⟨σ,own,hv,?_⟩;simpa [PE.ev,h5,D.cells] using cv
 ·rename_i j ver size off es;rw[es] at dV;cases hb:Nat.beq ver (S.ver j)<;>simp only[hb,cond_true,cond_false] at hr
  ·cases hr
  obtain⟨k,n,c,ik,i,dX,rD,bA,ff⟩:=dV.2 (Nat.eq_of_beq_eq_true hb);have bk:=h.objs j;split at hr
  ·rename_i T' ts t e eo hu;rw[eo] at bk;have hv':=bR h hC rfl hu;cases hc:(Nat.beq inf.size t.size&&(t.rowT||t.one)&&Nat.beq size ts.length&&Nat.ble (off+t.size) ts.length&&Ty.subs t.flat ((ts.drop off).take t.size))<;>simp only[hc,cond_true,cond_false] at hr
   ·cases hr
   cases hr;simp only[Bool.and_eq_true,Bool.or_eq_true] at hc;obtain⟨⟨⟨⟨aL,gf⟩,uf⟩,hle⟩,bW⟩:=hc;have aL:=Nat.eq_of_beq_eq_true aL;have uf:=Nat.eq_of_beq_eq_true uf;have hle:=Nat.le_of_ble_eq_true hle;obtain⟨f1,f2,f3⟩:=hv'.flat gf;have gh:=hv'.size;have f1:t.flat.length=t.size:=f1;have f2:(e.ev ρ).cells.length=t.size:=f2;have gh:(a.eval v).cells.size=t.size:=gh;obtain⟨cells,xs,k1,k2,k3,k4⟩:=bk;obtain⟨b,c',e1,qv,ka⟩:=uO k2;rw[dX] at e1;cases e1;obtain⟨us,u1,u2⟩:=k3;obtain⟨y,hy⟩:∃y,xs[i]?=some y:=⟨_,List.getElem?_eq_getElem bA⟩
   obtain⟨os,ds,wQ,hd0,l1,l2,aP,dN⟩:=(u1 i y hy).agg_inv;have BA:(a.eval v).cells.toList.length=t.size:=by simp[gh]
   have ke:Rep C.cap σ (.agg ts) (.agg (os.take off++(a.eval v).cells.toList++os.drop (off+(a.eval v).cells.toList.length)).toArray) (.agg (cM ds off (e.ev ρ).cells)):=by
        refine .agg _ _ _ (by simp[gh];omega) (by simp[cM,f2];omega) (fun m tm hm=>?_) dN;rw[FY os _ off undef (by rw[BA];omega),cM,FY ds _ off .none (by rw[f2];omega),BA,f2];split
        ·rename_i hc;have asO:=Ty.subs_get _ _ bW (m-off) tm (by
          rw[List.getElem?_take,if_pos (by omega),List.getElem?_drop,show off+(m-off)=m by omega];exact hm)
         obtain⟨tf,htf,cv⟩:=asO;rw[wc];exact((f3 _ tf htf).2).sub cv
        ·exact aP m tm hm
   have bf:=k2.1;have arF:i*(Ty.agg ts).size+(Ty.agg ts).size≤xs.length*(Ty.agg ts).size:=by
        have:(i+1)*(Ty.agg ts).size≤xs.length*(Ty.agg ts).size:=Nat.mul_le_mul_right _ bA;rw[Nat.add_mul] at this;omega
   have Yn:(Ty.agg ts).size=ts.length:=rfl
   obtain⟨cur,q1,q2,q3⟩:=h.storeRow (i:=i) (p:=i*(Ty.agg ts).size+off) (vs:=(a.eval v).cells.toList) eo dX k1 k2 ⟨us,u1,u2⟩ k4 bA (by omega) (by rw[BA];omega) ke (fun q u hq=>by
        have di:(os.take off++(a.eval v).cells.toList++os.drop (off+(a.eval v).cells.toList.length))[q]?=some u:=by simpa [Value.cells] using hq
        have aGc:q<ts.length:=by have:=(List.getElem?_eq_some_iff.1 di).1;simp[gh] at this;omega
        rw[List.append_assoc,List.getElem?_append,List.length_take,Nat.min_eq_left (by omega)] at di;rw[List.append_assoc,List.getElem?_append,List.length_take,Nat.min_eq_left (by omega)];by_cases ph:q<off
        ·rw[if_pos ph,List.getElem?_take,if_pos ph] at di;rw[if_pos (by omega),List.getElem?_take,if_pos (by omega)];exact u2 i q u bA (by rw[wQ];simpa [Value.cells] using di)
        ·rw[if_neg ph,List.getElem?_append] at di;rw[if_neg (by omega),List.getElem?_append];rw[show i*(Ty.agg ts).size+q-(i*(Ty.agg ts).size+off)=q-off by omega];by_cases OB:q-off<(a.eval v).cells.toList.length
         ·rw[if_pos OB] at di ⊢;exact di
         ·rw[if_neg OB,List.getElem?_drop] at di;rw[if_neg OB,List.getElem?_drop];rw[show off+(a.eval v).cells.toList.length+(q-off-(a.eval v).cells.toList.length)=q by omega] at di;rw[show i*(Ty.agg ts).size+off+(a.eval v).cells.toList.length+(q-off-(a.eval v).cells.toList.length)=i*(Ty.agg ts).size+q by omega];exact u2 i q u bA (by rw[wQ];simpa [Value.cells] using di))
   refine bO.skip hd fun ρ' ao=>?_;rw[qX ao]
   refine⟨_,K9 ho hi (cs:=cur) (by rw[ff,uf]) (by rw[gh,aL]) (fun u hu=>by
        obtain⟨m,hm,rfl⟩:=List.getElem_of_mem hu;exact hv'.cellsOne gf (m:=m) (by simp at hm ⊢)) q1 (by rw[BA] at q2;rw[aL,←Yn];exact q2),σ,own,hv,?_⟩
   rw[BA] at q3;simp only[PE.ev,k1,D.l_list,rD,D.i_int,Int.toNat_natCast,qm hy,hd0,sL];rw[aL,←Yn];exact q3
  ·rename_i T' e0 t e aD eo hu;rw[eo] at bk;have hv':=bR h hC rfl hu;cases hc:(Nat.beq inf.size 1&&Nat.beq size 1&&Nat.beq off 0&&e0.one&&Ty.sub t e0)<;>simp only[hc,cond_true,cond_false] at hr
   ·cases hr
   cases hr;simp only[Bool.and_eq_true] at hc;obtain⟨⟨⟨⟨aL,uf⟩,gP⟩,dN⟩,bW⟩:=hc;have aL:=Nat.eq_of_beq_eq_true aL;have uf:=Nat.eq_of_beq_eq_true uf;have gP:=Nat.eq_of_beq_eq_true gP;subst gP;subst uf;have Yq:=hv'.sub bW;obtain⟨c1,c2⟩:=Yq.oneCell dN;have A1:e0.size=1:=by cases e0<;>simp_all [Ty.size,Ty.one]
   obtain⟨cells,xs,k1,k2,k3,k4⟩:=bk;obtain⟨b,c',e1,qv,ka⟩:=uO k2;rw[dX] at e1;cases e1;obtain⟨y,hy⟩:∃y,xs[i]?=some y:=⟨_,List.getElem?_eq_getElem bA⟩
   have bf:=k2.1
   obtain⟨cur,q1,q2,q3⟩:=h.storeRow (i:=i) (p:=i*e0.size) (vs:=[a.eval v]) eo dX k1 k2 k3 k4 bA (Nat.le_refl _) (by rw[A1];simp) Yq (fun q u hq=>by
        rw[c1] at hq;have ua:q=0:=by have:=(Array.getElem?_eq_some_iff.1 hq).1;simpa using this
        subst ua;simp at hq;subst hq;have:i*e0.size≤cells.length:=by rw[bf];exact Nat.mul_le_mul_right _ (by omega)
        rw[List.append_assoc,List.getElem?_append_right (by simp;omega)];simp[Nat.min_eq_left this])
   refine bO.skip hd fun ρ' ao=>?_;rw[qX ao];refine⟨_,K9 ho hi (cs:=cur) (by rw[ff]) (by rw[c1,aL];rfl) (fun u hu=>by rw[c1] at hu;simp at hu;subst hu;exact c2) q1 (by rw[A1] at q2;rw[aL];simpa using q2),σ,own,hv,?_⟩;rw[c1,aL];have BD:sL y 0 (e.ev ρ)=e.ev ρ:=by
        obtain⟨us,u1,u2⟩:=k3;have:=(u1 i y hy).dcells dN;cases y with
        |agg ds=>have h8:=u1 i _ hy;generalize us i=vv at h8;cases h8;simp[Ty.one] at dN
        |_=>rfl
   simp only[PE.ev,k1,D.l_list,rD,D.i_int,Int.toNat_natCast,qm hy,BD];rw[A1] at q3;simpa using q3
  ·cases hr
end
end Cx
namespace Cx
open Go Go.RowKit
section
variable {C:Ctx} {S:St} {ρ:Env} {σ:Im} {own:Nat→Option Nat} {hv:Nat→Value} {w0:World} {σ0:Base} {A:Nat→Prop} {a:Act} {w:World} {gs:List (Nat×Bool)} {Φ:aT} {dst:Nat}
theorem ani {ρ:Env}{es:List PE}{i:Nat}{e:PE}(h:es[i]?=some e):(PE.evs ρ es)[i]?=some (e.ev ρ):=by
 rw[PE.evs_eq,List.getElem?_map,h];rfl
theorem Wl (h:Inv C S ρ σ own hv w0 σ0 A a w)(hC:CtxOK C σ0)(hg:holds gs ρ=true){T:TypeId}{len:Nat}{ps:Array (Nat×Operand)}{r:St×List PI}(hr:tz C S gs dst T len ps.toList=some r){o:Oper}
 (ho:o.op=.buildSlice T len ps):∃(E:TypeId) (e:Ty) (es:List PE) (v:Value) (w':World),C.P.underlying T=some (.slice E)∧ng C.P E=some e∧r=(mkObj S dst (.row E e),[.setO dst (.lst es),.setR dst (.con .none)])∧
   (execOp a.eval o).run C.P w=.ok (.value v) w'∧Below w.heap.size w w'∧(∀k,Nat.beq k w.heap.size=true→w.heap.size≤k∧k<w'.heap.size)∧
   bT C (S.newO dst (.row E e)) (ρ.setO dst (.list (PE.evs ρ es))) σ (fl own dst (fun k=>Nat.beq k w.heap.size)) (bQ hv dst v) w' w0.heap.size dst (.row E e):=by
 unfold tz at hr;split at hr
 case h_2=>cases hr
 rename_i E hT;simp only[Option.bind_eq_some_iff] at hr;obtain⟨e,he,z,hz,hr⟩:=hr;cases hc:(oQ C.P E e&&Ty.sub z.1 e&&iQ (ps.toList.map (·.1))&&ps.toList.all (fun p=>Nat.blt p.1 len)&&Nat.ble (len*e.size) 16777216)<;>simp only[hc,cond_true,cond_false] at hr
 ·cases hr
 simp only[Bool.and_eq_true] at hc;obtain⟨⟨⟨⟨hef,bW⟩,bh⟩,eU⟩,hle⟩:=hc;have hle:=Nat.le_of_ble_eq_true hle;obtain⟨inf,zv,hi,hs,nH,h1,hzv,kQ⟩:=MZ hef;have qC:=Vf kQ;have iK:=l7 bh;have BE:=((vA (cap:=C.cap) (σ:=σ) hz kQ).1).sub bW;simp only[Option.map_eq_some_iff] at hr;obtain⟨es,gO,rfl⟩:=hr;obtain⟨Wu,el2⟩:=mapM_some _ _ _ gO;simp only[List.length_range] at Wu;have Xz:∀i,i<len→∃pe,es[i]?=some pe∧FM C S gs e z.2 ps.toList i=some pe:=by
  intro i hi;obtain⟨y,hy1,qB⟩:=el2 i i (by rw[List.getElem?_range hi]);exact⟨y,hy1,qB⟩
 have pg:∀x,x∈ps.toList→x.1<len∧∃t pe,use C S gs x.2=some (t,pe)∧Ty.sub t e=true∧es[x.1]?=some pe:=by
  intro x hx;have um:x.1<len:=by
   have:=List.all_eq_true.1 eU x hx;simpa [Nat.blt_eq] using this
  refine⟨um,?_⟩;obtain⟨pe,Bo,eF⟩:=Xz x.1 um;have A4:=WI iK (i:=x.1) (x:=x.2) hx;simp only[FM,A4,Option.bind_eq_some_iff] at eF;obtain⟨y,hy,eF⟩:=eF;cases hs:Ty.sub y.1 e<;>simp only[hs,cond_true,cond_false] at eF
  ·cases eF
  cases eF;exact⟨y.1,y.2,hy,hs,Bo⟩
 let c0:Array Value:=madeCells zv.cells (len*e.size)
 have AW:c0.size=len*e.size:=size_madeCells _ _
 have kO:∀p,p∈(ps.toList.map fun(x:Nat×Operand)=>(x.1,a.eval x.2))→∃o,(fun i=>some (i*e.size,e.size)) p.1=some (o,p.2.cells.size)∧o+p.2.cells.size≤c0.size:=by
  intro p hp;obtain⟨x,hx,rfl⟩:=List.mem_map.1 hp;obtain⟨um,t,pe,hu,cv,_⟩:=pg x hx;have rQ:=((bR h hC hg hu).sub cv).size;simp only;refine⟨x.1*e.size,by rw[rQ],?_⟩;rw[rQ,AW];have:(x.1+1)*e.size≤len*e.size:=Nat.mul_le_mul_right _ um;rw[Nat.add_mul] at this;omega
 have wz:∀(i j oi si oj sj:Nat),i≠j→(fun i=>some (i*e.size,e.size)) i=some (oi,si)→(fun i=>some (i*e.size,e.size)) j=some (oj,sj)→oi+si≤oj∨oj+sj≤oi:=by
  intro i j oi si oj sj aD hi hj;simp only[Option.some.injEq,Prod.mk.injEq] at hi hj;obtain⟨rfl,rfl⟩:=hi;obtain⟨rfl,rfl⟩:=hj;rcases Nat.lt_or_ge i j with ah|dS
  ·left;have:(i+1)*e.size≤j*e.size:=Nat.mul_le_mul_right _ ah;rw[Nat.add_mul] at this;omega
  ·right;have:(j+1)*e.size≤i*e.size:=Nat.mul_le_mul_right _ (by omega);rw[Nat.add_mul] at this;omega
 obtain⟨eB,f1,f2,f3,f4⟩:=M6 (fun i=>some (i*e.size,e.size)) (ps.toList.map fun(x:Nat×Operand)=>(x.1,a.eval x.2)) c0 kO wz (by simpa [Function.comp_def] using iK);have ao:(execOp a.eval o).run C.P w=.ok (.value (.slice (some ⟨w.heap.size,0,none⟩) len len)) (w.alloc (.cells eB E)):=by
  have n1:¬(len*inf.size>2^24):=by rw[hs];omega
  have FQ:Instr.fill (fun i=>some (i*inf.size,inf.size)) c0 (ps.toList.map fun(x:Nat×Operand)=>(x.1,a.eval x.2))=some eB:=by rw[hs];exact f1
  by_cases h0:len*inf.size=0
  ·have NH:c0=#[]:=by
        apply Array.eq_empty_of_size_eq_zero;rw[AW,←hs];exact h0
   rw[NH] at FQ
   have ank:Instr.fill (fun i=>some (i*inf.size,inf.size)) (Array.map (fun _=>default) (Array.range 0)) (ps.toList.map fun(x:Nat×Operand)=>(x.1,a.eval x.2))=some eB:=by
        have:(Array.map (fun _=>(default:Value)) (Array.range 0))=#[]:=by simp
        rw[this];exact FQ
   simp[execOp,ho,Instr.buildSlice,run_underlying hT,Go.sizeOf,run_typeInfo w hi,n1,h0,ank,newRow]
  ·have NH:c0=(Array.range (len*inf.size)).map (fun x=>zv.cells[x%zv.cells.size]!):=by simp only[c0,madeCells,hs]
   rw[NH] at FQ;have h00:¬(len=0∨inf.size=0):=by rw[←Nat.mul_eq_zero];exact h0
   simp[execOp,ho,Instr.buildSlice,run_underlying hT,Go.sizeOf,run_typeInfo w hi,n1,h0,h00,zeroValue,hzv,FQ,newRow]
 refine⟨E,e,es,_,_,hT,he,rfl,ao,(Below.refl _ _).alloc (Nat.le_refl _) _,fun k hk=>by simp at hk;simp;omega,?_⟩;have gN:(PE.evs ρ es).length=len:=by rw[PE.evs_eq,List.length_map,Wu]
 have arp:∀(i:Nat) (x:D),(PE.evs ρ es)[i]?=some x→∃v,Rep C.cap σ e v x∧∀q u,v.cells[q]?=some u→eB.toList[i*e.size+q]?=some u:=by
  intro i x hx;have qt:i<len:=by have:=(List.getElem?_eq_some_iff.1 hx).1;omega
  obtain⟨pe,Bo,eF⟩:=Xz i qt;rw[ani Bo] at hx;cases hx;unfold FM at eF;split at eF
  ·rename_i p hp;have Ye:=List.mem_of_find?_eq_some hp;have GM:p.1=i:=by have:=List.find?_some hp;simpa using this
   obtain⟨_,t,pe',hu,cv,rJ⟩:=pg p Ye;rw[GM,Bo] at rJ;cases rJ;have bK:=(bR h hC hg hu).sub cv;refine⟨_,bK,fun q u hq=>?_⟩;have GN:q<(a.eval p.2).cells.size:=(Array.getElem?_eq_some_iff.1 hq).1;have:=f3 p.1 (a.eval p.2) (p.1*e.size) (List.mem_map.2 ⟨p,Ye,rfl⟩) (by simp[bK.size]) q GN;rw[GM] at this;simp[this,hq]
  ·rename_i hp;cases eF;refine⟨zv,BE,fun q u hq=>?_⟩;have GN:q<zv.cells.size:=(Array.getElem?_eq_some_iff.1 hq).1
   have mK:i∉(ps.toList.map fun(x:Nat×Operand)=>(x.1,a.eval x.2)).map (·.1):=by
        intro cJ;simp only[List.map_map,List.mem_map,Function.comp_def] at cJ;obtain⟨x,wU,e⟩:=cJ;have:=List.find?_eq_none.1 hp x wU;simp[e] at this
   have:=f4 i (i*e.size) e.size mK rfl q (by omega);have h9:c0[i*e.size+q]?=zv.cells[q]?:=by
        simp only[c0];rw[←qC];exact Zl (by omega) qt GN
   simp[this,h9,hq]
 have gh:∃vs:Nat→Value,∀(i:Nat) (x:D),(PE.evs ρ es)[i]?=some x→Rep C.cap σ e (vs i) x∧∀q u,(vs i).cells[q]?=some u→eB.toList[i*e.size+q]?=some u:=by
  have kK:∀i,∃v,∀x,(PE.evs ρ es)[i]?=some x→Rep C.cap σ e v x∧∀q u,v.cells[q]?=some u→eB.toList[i*e.size+q]?=some u:=by
   intro i;cases hx:(PE.evs ρ es)[i]? with
   |none=>exact⟨undef,fun x cQ=>by cases cQ⟩
   |some x=>
    obtain⟨v,hv⟩:=arp i x hx;exact⟨v,fun y hy=>by cases hy;exact hv⟩
  exact⟨fun i=>Classical.choose (kK i),fun i x hx=>Classical.choose_spec (kK i) x hx⟩
 obtain⟨vs,gh⟩:=gh;have eE:eB.size=len*e.size:=by rw[f2,AW]
 refine⟨eB.toList,PE.evs ρ es,by simp[Env.setO,aQ],?_,⟨vs,fun i x hx=>(gh i x hx).1,fun i j u hi hj=>(gh i _ (List.getElem?_eq_getElem hi)).2 j u hj⟩,fun k hk=>by rw[aQ] at hk;simp[Value.ownBlock] at hk;simp[fl,hk]⟩;rw[aQ,gN];have NX:len≤maxLen:=by
  have:len*1≤len*e.size:=Nat.mul_le_mul_left _ h1;unfold maxLen;omega
 exact⟨by simp[eE],.inr ⟨w.heap.size,len,eB,rfl,h.below.size,heap_alloc_new w _,Nat.le_refl _,NX,eE,by rw[List.take_of_length_le (by simp[eE])]⟩⟩
theorem amx (h:Inv C S ρ σ own hv w0 σ0 A a w)(hC:CtxOK C σ0)(ht:¬A dst)(ah:dst<a.tmps.size){T:TypeId}{len:Nat}{ps:Array (Nat×Operand)}{r:St×List PI}(hr:tz C S [] dst T len ps.toList=some r){o:Oper}(hd:o.dst=some dst)
 (ho:o.op=.buildSlice T len ps):bO C w0 σ0 Φ S ρ A a w o r:=by
 obtain⟨E,e,es,v,w',_,_,rfl,ao,hb,da,cu⟩:=Wl h hC rfl hr ho;refine bO.value hd fun ρ' pj=>⟨_,_,ao,?_⟩
 rw[Ds pj];exact h.mkObj ht ah (.row E e) _ _ (fun k=>Nat.beq k w.heap.size) hb da cu
theorem Inv.kill (h:Inv C S ρ σ own hv w0 σ0 A a w)(j:Nat):Inv C (S.newO j .dead) ρ σ own hv w0 σ0 A a w:=by
 have dG:∀i,S.ver i≤(S.newO j .dead).ver i:=by
  intro i;show S.ver i≤bQ S.ver j (S.ver j+1) i;rw[fq];by_cases e:i=j
  ·subst e;simp
  ·simp[e]
 have hc:Compat S hv (S.newO j .dead) hv:=⟨dG,fun _ _=>rfl⟩
 refine h.step (·=j) rfl (.refl σ) h.ok (fun _ _ _ hx=>.inl hx) (fun _ _ hx=>.inl hx) (.refl _ _) hc (fun i hi=>⟨by simp[St.newO,bo _ _ hi],rfl,rfl,fun k hk=>⟨hk,rfl⟩⟩) (fun i hi=>?_) h.owns (fun _=>id) (fun t=>.inl ⟨rfl,rfl,rfl⟩) (fun _ _=>rfl) (fun _ _ _=>rfl) (fun k i hk=>.inl ⟨i,hk⟩) (fun i hi=>by subst hi;simp[St.newO,aQ]);subst hi;simp only[St.newO,aQ];trivial
theorem amJ (h:Inv C S ρ σ own hv w0 σ0 A a w)(hC:CtxOK C σ0)(ht:¬A dst)(ah:dst<a.tmps.size)(du:∀g,g∈gs→A g.1)(hg:holds gs ρ=true){T:TypeId}{len:Nat}{ps:Array (Nat×Operand)}{r:St×List PI}(hr:vW C S gs dst T len ps.toList=some r){o:Oper}(hd:o.dst=some dst)
 (ho:o.op=.buildSlice T len ps):bO C w0 σ0 Φ S ρ A a w o r:=by
 unfold vW at hr;split at hr
 case h_2=>cases hr
 rename_i E q hT hq;simp only[Option.bind_eq_some_iff] at hr;obtain⟨e,he,hr⟩:=hr;obtain⟨E',e',es,v,w',wh,j9,rfl,ao,hb,da,cu⟩:=Wl h hC hg hq ho;rw[hT] at wh;cases wh;rw[he] at j9;cases j9;cases hr;refine bO.value hd fun ρ' pj=>⟨_,_,ao,?_⟩
 have hρ:ρ'=ρ.setR dst (.list (PE.evs ρ es)):=by simp[PI.runs,PI.run,PE.ev] at pj;exact pj.symm
 subst hρ;have h1:=h.newO dst (.row E e) (.list (PE.evs ρ es)) v (fun k=>Nat.beq k w.heap.size) hb da cu;obtain⟨σ2,gC,_,h2⟩:=h1.fz dst;have A6:(S.newO dst (.row E e)).fz dst=(S.newO dst (.row E e)).setO dst (.fz (.slice e.rol)):=by
  have:(S.newO dst (.row E e)).o dst=.row E e:=aQ _ _ _;unfold St.fz;rw[this]
 rw[A6] at h2;have bk:=h2.objs dst;have e1:((S.newO dst (.row E e)).setO dst (.fz (.slice e.rol))).o dst=.fz (.slice e.rol):=aQ _ _ _;rw[e1] at bk;have bK:Rep C.cap σ2 (.slice e.rol) v (.list (PE.evs ρ es)):=by
  have:=bk.2
  rwa [aQ,show(ρ.setO dst (.list (PE.evs ρ es))).o dst=.list (PE.evs ρ es) from aQ _ _ _] at this
 have h3:Inv C (S.newO dst .dead) ρ σ2 gC (bQ hv dst v) w0 σ0 A a w':=by
  refine h2.step (·=dst) rfl (.refl σ2) h2.ok (fun _ _ _ hx=>.inl hx) (fun _ _ hx=>.inl hx) (.refl _ _) ⟨fun i=>Nat.le_refl _,fun _ _=>rfl⟩ (fun i hi=>⟨?_,?_,rfl,fun k hk=>⟨hk,rfl⟩⟩) (fun i hi=>?_) h2.owns (fun _=>id) (fun t=>.inl ⟨rfl,rfl,rfl⟩) (fun _ _=>rfl) (fun _ _ _=>rfl) (fun k i hk=>.inl ⟨i,hk⟩) (fun i hi=>by subst hi;simp[St.newO,aQ])
  ·simp[St.newO,St.setO,bo _ _ hi]
  ·simp[Env.setO,bo _ _ hi]
  ·subst hi;simp only[St.newO,aQ];trivial
 have hh:holds gs (ρ.setR dst (.list (PE.evs ρ es)))=true:=by rw[Bl (t:=dst) fun g hm e=>ht (by rw[←e];exact du g hm)];exact hg
 cases gs with
 |nil=>exact⟨_,_,_,h3.setReg ht (s:=.dat (.slice e.rol)) bK ah (fun _ _ e=>by cases e)⟩
 |cons g bC=>
  refine⟨_,_,_,h3.setReg ht (s:=.opt (g::bC) (.dat (.slice e.rol))) ⟨fun _=>bK,fun e=>absurd (hh.symm.trans e) (by decide)⟩ ah (fun gs s e=>?_)⟩;cases e;exact⟨du,fun _ _ e=>by cases e⟩
end
end Cx
