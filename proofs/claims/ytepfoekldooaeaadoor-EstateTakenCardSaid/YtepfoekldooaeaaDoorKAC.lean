/-
  Shared texts of this claim.
-/
import Derived.Test.YtepfoekldooaeaaDoorKAB
import Derived.Laws.OwnMore
import Derived.Lib.ConvBytes
set_option linter.unusedSimpArgs false
set_option linter.unusedVariables false
namespace Cx
open Go Go.RowKit
def mkObj (S:St)(dst:Nat)(ob:Ob):St:=(S.newO dst ob).setR dst (.obj dst (S.ver dst+1))
def mkPtr (S:St)(dst:Nat)(ob:Ob):St:=(S.newO dst ob).setR dst (.ptr dst (S.ver dst+1) 0)
abbrev iZ:=Option (St×List PI)
def wV (C:Ctx)(S:St)(dst:Nat)(T:TypeId)(x:Operand):iZ:=
 match use C S [] x,C.P.underlying T with
 |some (.nils _,_),some (.slice E)=>(kY C.P E).map fun e=>(mkObj S dst (.row E e),[.setO dst (.con (.list [])),.setR dst (.con .none)])
 |_,_=>Option.none
def wN (C:Ctx)(S:St)(dst:Nat)(T:TypeId):iZ:=
 match kY C.P T,C.P.info? T,lK C.P T with
 |some t,some inf,some ag=>
  bif oB inf t&&(t.rowT||t.one) then
   (la t).map fun z=>(mkPtr S dst (.box ag (z.1.flat.map .dat)),[.setO dst (.con (.agg z.2.cells)),.setR dst (.con .none)])
  else Option.none
 |_,_,_=>Option.none
def wP (C:Ctx)(S:St)(dst:Nat)(T:TypeId)(x:Operand):iZ:=
 match use C S [] x,lK C.P T with
 |some (t,e),some ag=>
  bif t.rowT||t.one then some (mkPtr S dst (.box ag (t.flat.map .dat)),[.setO dst (.mk [e]),.setR dst (.con .none)]) else Option.none
 |_,_=>Option.none
def wS (C:Ctx)(S:St)(dst:Nat)(T:TypeId)(r:Option Operand):iZ:=
 match C.P.underlying T,r with
 |some (.map K E),Option.none=>
  (kY C.P K).bind fun kt=>(kY C.P E).map fun et=>(mkObj S dst (.mp kt et),[.setO dst (.con (.map [])),.setR dst (.con .none)])
 |_,_=>Option.none
def wT (C:Ctx)(S:St)(dst:Nat)(T:TypeId)(l c:Operand):iZ:=
 match C.P.underlying T,use C S [] l,use C S [] c with
 |some (.slice E),some (.int _,n),some (.int _,m)=>
  (kY C.P E).bind fun e=>
    bif mm C.P E e then
     (la e).bind fun z=>
        bif Ty.sub z.1 e then some (mkObj S dst (.row E e),[.chk (Jg n),.chk (.ci .eql n m),.setO dst (.rep n (.con z.2)),.setR dst (.con .none)]) else Option.none
    else Option.none
 |_,_,_=>Option.none
def wW (C:Ctx)(S:St)(dst:Nat)(T:TypeId)(x:Operand):iZ:=
 match C.P.underlying T,eK S [] x with
 |some (.map _ _),.obj j ver=>
  bif Nat.beq ver (S.ver j)&& !Nat.beq j dst then
   match S.o j with
   |.mp kt et=>some (mkObj (S.mv j dst) dst (.it kt et),[.setO dst (.tup [.lst [],.o j]),.setR dst (.con .none)])
   |_=>Option.none
  else Option.none
 |_,_=>Option.none
def wQ (C:Ctx)(S:St)(dst:Nat)(s d:TypeId)(x:Operand):iZ:=
 match use C S [] x,C.P.underlying s,C.P.underlying d with
 |some (.str,e),some .string,some (.slice E)=>
  (match C.P.underlying E with
   |some (.int .u8)=>some (S.setR dst (.dat (.slice (.int .u8))),[.chk (.ci .leq (.slen e) (.con (.int j3))),.setR dst (.bytes e)])
   |_=>Option.none)
 |_,_,_=>Option.none
section
variable {C:Ctx} {S:St} {ρ:Env} {σ:Im} {own:Nat→Option Nat} {hv:Nat→Value} {w0:World} {σ0:Base} {A:Nat→Prop} {a:Act} {w:World} {gs:List (Nat×Bool)} {Φ:aO} {dst:Nat}
def bA (C:Ctx)(w0:World)(σ0:Base)(Φ:aO)(S:St)(ρ:Env)(A:Nat→Prop)(a:Act)(w:World)(o:Oper)(r:St×List PI):Prop:=
 ∀ρ',PI.runs Φ r.2 ρ=some ρ'→∀(K:Act→World→Prop) (Q:Exit→Act→World→Prop),(∀a' w',Good C w0 σ0 r.1 ρ' (fun u=>A u∨o.dst=some u) a' w'→a'.tmps.size=a.tmps.size→K a' w')→o.wp C.P a w K Q
theorem size_put (a:Act)(d:Option Tmp)(v:Value):(a.put d v).tmps.size=a.tmps.size:=by
 cases d<;>simp[Act.put]
theorem bA.value {o:Oper}{r:St×List PI}(hd:o.dst=some dst)(hx:∀ρ',PI.runs Φ r.2 ρ=some ρ'→∃v w',(execOp a.eval o).run C.P w=.ok (.value v) w'∧Good C w0 σ0 r.1 ρ' (fun u=>A u∨u=dst) (a.put (some dst) v) w'):bA C w0 σ0 Φ S ρ A a w o r:=by
 intro ρ' af K Q hK;obtain⟨v,w',h1,h2⟩:=hx ρ' af;simp only[Oper.wp,h1,Oper.upon,hd];refine hK _ _ ?_ (size_put _ _ _)
 have:(fun u=>A u∨o.dst=some u)=(fun u=>A u∨u=dst):=by
  funext u;rw[hd];simp[eq_comm]
 rw[this];exact h2
theorem bA.skip {o:Oper}{r:St×List PI}(hd:o.dst=none)(hx:∀ρ',PI.runs Φ r.2 ρ=some ρ'→∃w',(execOp a.eval o).run C.P w=.ok .skip w'∧Good C w0 σ0 r.1 ρ' A a w'):bA C w0 σ0 Φ S ρ A a w o r:=by
 intro ρ' af K Q hK;obtain⟨w',h1,h2⟩:=hx ρ' af;simp only[Oper.wp,h1,Oper.upon,hd]
 have:(fun u=>A u∨o.dst=some u)=A:=by
  funext u;rw[hd];simp
 rw[this] at hK;exact hK _ _ h2 (size_put _ _ _)
theorem di.eff (h:Inv C S ρ σ own hv w0 σ0 A a w)(ht:¬A dst)(ae:dst<a.tmps.size){o:Oper}(hd:o.dst=some dst){s:Sh}{yU:List PI}(hq:di C S ρ σ hv Φ dst a w o (s,yU)):bA C w0 σ0 Φ S ρ A a w o (S.setR dst s,yU):=by
 refine bA.value hd fun ρ' af=>?_;obtain⟨v,d,rfl,h1,h2,h3⟩:=hq ρ' af;exact⟨v,w,h1,σ,own,hv,h.setReg ht (ay.mono' (.refl σ) (.refl S hv) h3 h2) ae (fun gs s' e=>absurd e (h3 gs s'))⟩
theorem di.effG (h:Inv C S ρ σ own hv w0 σ0 A a w)(ht:¬A dst)(ae:dst<a.tmps.size)(cT:∀g,g∈gs→A g.1)(hg:holds gs ρ=true){o:Oper}(hd:o.dst=some dst){s:Sh}{yU:List PI}(hq:di C S ρ σ hv Φ dst a w o (s,yU)):bA C w0 σ0 Φ S ρ A a w o (S.setR dst (.opt gs s),yU):=by
 refine bA.value hd fun ρ' af=>?_;obtain⟨v,d,rfl,h1,h2,h3⟩:=hq ρ' af;have hh:holds gs (ρ.setR dst d)=true:=by rw[yc (t:=dst) (d:=d) fun g hm e=>ht (by rw[←e];exact cT g hm)];exact hg
 refine⟨v,w,h1,σ,own,hv,h.setReg ht ⟨fun _=>ay.mono' (.refl σ) (.refl S hv) h3 h2,fun e=>absurd (hh.symm.trans e) (by decide)⟩ ae (fun bn s' e=>?_)⟩;cases e;exact⟨cT,h3⟩
theorem Inv.passed (h:Inv C S ρ σ own hv w0 σ0 A a w)(ht:¬A dst)(ae:dst<a.tmps.size)(cT:∀g,g∈gs→A g.1)(hg:holds gs ρ=false){s:Sh}(hs:∀bn s',s≠.opt bn s')(d:D):Inv C (S.setR dst (.opt gs s)) (ρ.setR dst d) σ own hv w0 σ0 (fun u=>A u∨u=dst) (a.put (some dst) undef) w:=by
 have hh:holds gs (ρ.setR dst d)=false:=by rw[yc (t:=dst) (d:=d) fun g hm e=>ht (by rw[←e];exact cT g hm)];exact hg
 refine h.setReg ht (s:=.opt gs s) (v:=undef) (d:=d) ⟨fun e=>absurd (hh.symm.trans e) (by decide),fun _=>rfl⟩ ae (fun bn s' e=>?_);cases e;exact⟨cT,hs⟩
theorem Inv.mkObj (h:Inv C S ρ σ own hv w0 σ0 A a w)(ht:¬A dst)(ae:dst<a.tmps.size)(ob:Ob)(d:D)(v:Value)(nb:Nat→Bool){w':World}(hw:Below w.heap.size w w')(cG:∀k,nb k=true→w.heap.size≤k∧k<w'.heap.size)
 (bX:bJ C (S.newO dst ob) (ρ.setO dst d) σ (ew own dst nb) (bC hv dst v) w' w0.heap.size dst ob) (jV:ob≠.tr:=by intro h;cases h):
 Good C w0 σ0 (Cx.mkObj S dst ob) ((ρ.setO dst d).setR dst .none) (fun u=>A u∨u=dst) (a.put (some dst) v) w':=by
 have h1:=h.newO dst ob d v nb hw cG bX jV;have h2:=h1.setObj ht (j:=dst) (v:=v) (aI _ _ _) ae;have e:(S.newO dst ob).ver dst=S.ver dst+1:=aI _ _ _;rw[e] at h2;exact⟨_,_,_,h2⟩
theorem Inv.mkPtr (h:Inv C S ρ σ own hv w0 σ0 A a w)(ht:¬A dst)(ae:dst<a.tmps.size)(ob:Ob)(d:D)(k:Nat)(nb:Nat→Bool){w':World}(hw:Below w.heap.size w w')(cG:∀k,nb k=true→w.heap.size≤k∧k<w'.heap.size)
 (bX:bJ C (S.newO dst ob) (ρ.setO dst d) σ (ew own dst nb) (bC hv dst (.pointer (some ⟨k,0,none⟩))) w' w0.heap.size dst ob) (jV:ob≠.tr:=by intro h;cases h):
 Good C w0 σ0 (Cx.mkPtr S dst ob) ((ρ.setO dst d).setR dst .none) (fun u=>A u∨u=dst) (a.put (some dst) (.pointer (some ⟨k,0,none⟩))) w':=by
 have h1:=h.newO dst ob d _ nb hw cG bX jV;have e:(S.newO dst ob).ver dst=S.ver dst+1:=aI _ _ _;have h2:=h1.setReg ht (s:=.ptr dst (S.ver dst+1) 0) (v:=.pointer (some ⟨k,0,none⟩)) (d:=.none) ⟨Nat.le_of_eq e.symm,fun _=>⟨k,aI _ _ _,rfl⟩⟩ ae (fun _ _ e=>by cases e);exact⟨_,_,_,h2⟩
theorem zP {e:PE}{ρ':Env}(h:PI.runs Φ [.setO dst e,.setR dst (.con .none)] ρ=some ρ'):ρ'=(ρ.setO dst (e.ev ρ)).setR dst .none:=by
 simp[PI.runs,PI.run,PE.ev] at h;exact h.symm
theorem N5 (h:Inv C S ρ σ own hv w0 σ0 A a w){t:Ty}{v:Value}{d:D}(hr:Rep C.cap σ t v d)(ho:t.rowT=true∨t.one=true)(ag:Bool)(T:TypeId):
 bJ C (S.newO dst (.box ag (t.flat.map .dat))) (ρ.setO dst (.agg d.cells)) σ (ew own dst (fun k=>Nat.beq k w.heap.size)) (bC hv dst (.pointer (some ⟨w.heap.size,0,none⟩))) (w.alloc (.cells v.cells T)) w0.heap.size dst (.box ag (t.flat.map .dat)):=by
 obtain⟨f1,f2,f3⟩:=hr.flat ho;refine⟨w.heap.size,v.cells,T,d.cells,aI _ _ _,by simp[ew],heap_alloc_new w _,by rw[hr.size];simp[f1],by simp[Env.setO,aI],by simp[f1,f2],fun i s hi=>?_⟩;simp only[List.getElem?_map,Option.map_eq_some_iff] at hi;obtain⟨ti,Ix,rfl⟩:=hi;exact⟨fun _ _ e=>(by cases e),(f3 i ti Ix).2⟩
theorem abW (h:Inv C S ρ σ own hv w0 σ0 A a w)(hC:CtxOK C σ0)(ht:¬A dst)(ae:dst<a.tmps.size){T:TypeId}{x:Operand}{r:St×List PI}(hr:wV C S dst T x=some r){o:Oper}(hd:o.dst=some dst)(ho:o.op=.assign x):bA C w0 σ0 Φ S ρ A a w o r:=by
 unfold wV at hr;split at hr
 case h_2=>cases hr
 rename_i e0 e1 E hu hT;simp only[Option.map_eq_some_iff] at hr;obtain⟨e,he,rfl⟩:=hr;have hx:=bD h hC rfl hu;have bR:a.eval x=.slice none 0 0:=by
  generalize a.eval x=v at hx;generalize e1.ev ρ=d at hx;cases hx;rfl
 refine bA.value hd fun ρ' af=>⟨.slice none 0 0,w,by simp[execOp,ho,bR],?_⟩
 rw[zP af];exact h.mkObj ht ae (.row E e) _ _ (fun _=>false) (.refl _ _) (by simp) ⟨[],[],by simp[Env.setO,aI,PE.ev],by rw[aI];exact World.ownsRow_nil _ _ _ _,⟨fun _=>undef,by simp,by simp⟩,by rw[aI];simp[Value.ownBlock]⟩
theorem abw (h:Inv C S ρ σ own hv w0 σ0 A a w)(ht:¬A dst)(ae:dst<a.tmps.size){T:TypeId}{r:St×List PI}(hr:wN C S dst T=some r){o:Oper}(hd:o.dst=some dst)(ho:o.op=.alloc T):bA C w0 σ0 Φ S ρ A a w o r:=by
 unfold wN at hr;split at hr
 case h_2=>cases hr
 rename_i t inf ag Iz hi ha;cases hc:(oB inf t&&(t.rowT||t.one))<;>simp only[hc,cond_true,cond_false] at hr
 ·cases hr
 simp only[Bool.and_eq_true,Bool.or_eq_true] at hc;simp only[Option.map_eq_some_iff] at hr;obtain⟨z,hz,rfl⟩:=hr;obtain⟨v0,ru,tP⟩:∃v0,inf.zero=some v0∧fY t v0=true:=by
  have:=hc.1;unfold oB at this;split at this
  ·exact⟨_,by assumption,this⟩
  ·cases this
 obtain⟨k1,k2,k3⟩:=sD (cap:=C.cap) (σ:=σ) hz tP;have yn:z.1.rowT=true∨z.1.one=true:=by
  rcases hc.2 with e|e
  ·left;cases t<;>simp[Ty.rowT] at e;simp[la] at hz;obtain⟨_,_,rfl⟩:=hz;rfl
  ·right;rw[k3];exact e
 refine bA.value hd fun ρ' af=>⟨.pointer (some ⟨w.heap.size,0,none⟩),w.alloc (.cells v0.cells T),?_,?_⟩
 ·simp[execOp,ho,Instr.alloc,zeroValue,run_typeInfo w hi,ru,newVar,newRow]
 ·rw[zP af];exact h.mkPtr ht ae _ _ _ (fun k=>Nat.beq k w.heap.size) ((Below.refl _ _).alloc (Nat.le_refl _) _) (fun k hk=>by simp at hk;simp;omega) (N5 h k1 yn ag T)
theorem abA (h:Inv C S ρ σ own hv w0 σ0 A a w)(hC:CtxOK C σ0)(ht:¬A dst)(ae:dst<a.tmps.size){T:TypeId}{x:Operand}{r:St×List PI}(hr:wP C S dst T x=some r){o:Oper}(hd:o.dst=some dst)(ho:o.op=.box T x):bA C w0 σ0 Φ S ρ A a w o r:=by
 unfold wP at hr;split at hr
 case h_2=>cases hr
 rename_i t e ag hu ha;cases hc:(t.rowT||t.one)<;>simp only[hc,cond_true,cond_false] at hr
 ·cases hr
 cases hr;simp only[Bool.or_eq_true] at hc;have hx:=bD h hC rfl hu;refine bA.value hd fun ρ' af=>⟨.pointer (some ⟨w.heap.size,0,none⟩),w.alloc (.cells (a.eval x).cells T),?_,?_⟩
 ·simp[execOp,ho,Instr.box,newVar,newRow]
 ·rw[zP af];have:(PE.mk [e]).ev ρ=.agg (e.ev ρ).cells:=by simp[PE.ev,PE.evc]
  rw[this];exact h.mkPtr ht ae _ _ _ (fun k=>Nat.beq k w.heap.size) ((Below.refl _ _).alloc (Nat.le_refl _) _) (fun k hk=>by simp at hk;simp;omega) (N5 h hx hc ag T)
theorem abQ (h:Inv C S ρ σ own hv w0 σ0 A a w)(ht:¬A dst)(ae:dst<a.tmps.size){T:TypeId}{m:Option Operand}{r:St×List PI}(hr:wS C S dst T m=some r){o:Oper}(hd:o.dst=some dst)(ho:o.op=.makeMap T m):bA C w0 σ0 Φ S ρ A a w o r:=by
 unfold wS at hr;split at hr
 case h_2=>cases hr
 rename_i K E hT;simp only[Option.bind_eq_some_iff,Option.map_eq_some_iff] at hr;obtain⟨kt,hk,et,he,rfl⟩:=hr;refine bA.value hd fun ρ' af=>⟨.map (some w.heap.size),w.alloc (.map #[] 0),?_,?_⟩
 ·simp[execOp,ho,Instr.makeMap]
 ·rw[zP af]
  exact h.mkObj ht ae (.mp kt et) _ _ (fun k=>Nat.beq k w.heap.size) ((Below.refl _ _).alloc (Nat.le_refl _) _) (fun k hk=>by simp at hk;simp;omega)
   ⟨w.heap.size,#[],0,[],aI _ _ _,by simp[ew],heap_alloc_new w _,by simp[Env.setO,aI,PE.ev],rfl,⟨by simp,by simp[jL]⟩,by simp⟩
theorem abY (h:Inv C S ρ σ own hv w0 σ0 A a w)(ht:¬A dst)(ae:dst<a.tmps.size){T:TypeId}{x:Operand}{r:St×List PI}(hr:wW C S dst T x=some r){o:Oper}(hd:o.dst=some dst)(ho:o.op=.range T x):bA C w0 σ0 Φ S ρ A a w o r:=by
 unfold wW at hr;split at hr
 case h_2=>cases hr
 rename_i K E j ver hT es;obtain⟨dt,_⟩:=sv h (gs:=[]) rfl x;rw[es] at dt;cases hb:(Nat.beq ver (S.ver j)&& !Nat.beq j dst)<;>simp only[hb,cond_true,cond_false] at hr
 ·cases hr
 simp only[Bool.and_eq_true,Bool.not_eq_true'] at hb;have bR:=dt.2 (Nat.eq_of_beq_eq_true hb.1);have av:j≠dst:=fun e=>by subst e;simp at hb
 have aW:=h.objs j;split at hr
 case h_2=>cases hr
 rename_i kt et eo;cases hr;rw[eo] at aW;obtain⟨m,arr,clock,ds,h1,h2,h3,h4,h5,⟨h6,my⟩,h7⟩:=aW;have jT:=h.mv av (by rw[eo];rfl);have nK:m<w.heap.size:=(Array.getElem?_eq_some_iff.1 h3).1;have HP:w0.heap.size≤m:=(h.owns m j h2).1;refine bA.value hd fun ρ' af=>⟨.pointer (some ⟨w.heap.size,0,none⟩),w.alloc (.mapIter (some m) clock #[] clock),?_,?_⟩
 ·simp[execOp,ho,Instr.range,bR,h1,run_underlying hT,getObj,Sem.run,h3]
 have hρ:ρ'=((ρ.setO dst (.tup [.list [],.map ds])).setR dst .none):=by
  simp[PI.runs,PI.run,PE.ev,PE.evs,h4] at af;exact af.symm
 subst hρ;have eF:Below w.heap.size w (w.alloc (.mapIter (some m) clock #[] clock)):=(Below.refl _ _).alloc (Nat.le_refl _) _;have Is:=jT.step (S':=(S.mv j dst).newO dst (.it kt et)) (ρ':=(ρ.setO dst (.tup [.list [],.map ds]))) (σ':=σ) (hv':=bC (bC hv dst (hv j)) dst (.pointer (some ⟨w.heap.size,0,none⟩)))
  (own':=fun k=>if k=w.heap.size then some dst else(if own k=some j then some dst else if own k=some dst then none else own k)) (a':=a) (A':=A) (w':=w.alloc (.mapIter (some m) clock #[] clock)) (fun i=>i=dst)
  rfl (.refl σ) (h.ok.below eF) (fun _ _ _ hx=>.inl hx) (fun _ _ hx=>.inl hx) (eF.mono h.below.size) ⟨fun i=>?_,fun i e=>?_⟩ (fun i hi=>⟨?_,?_,?_,fun k hk=>⟨?_,?_⟩⟩) (fun i hi=>?_) (fun k i hk=>?_) (fun _=>id) (fun t=>.inl ⟨rfl,rfl,rfl⟩) (fun _ _=>rfl) (fun k hk _=>eF.block k hk) (fun k i hk=>?_) (fun i hi=>by subst hi;simp[St.newO,aI])
 ·have jQ:=Is.setObj ht (j:=dst) (v:=.pointer (some ⟨w.heap.size,0,none⟩)) (aI _ _ _) ae;have e:((S.mv j dst).newO dst (.it kt et)).ver dst=(S.mv j dst).ver dst+1:=aI _ _ _;rw[e] at jQ;exact⟨_,_,_,jQ⟩
 ·simp only[St.newO,eC];split<;>rename_i e
  ·subst e;omega
  ·omega
 ·simp only[St.newO,eC] at e;split at e
  ·rename_i e';subst e';omega
  ·rename_i HW;exact ba _ _ HW
 ·simp[St.newO,ba _ _ hi]
 ·simp[Env.setO,ba _ _ hi]
 ·exact ba _ _ hi
 ·have atH:=(jT.owns k i hk).2.1;have bB:k≠w.heap.size:=by omega
  simp only[if_neg bB];exact hk
 ·exact eF.block k (jT.owns k i hk).2.1
 ·subst hi;simp only[St.newO,aI];have dE:m≠w.heap.size:=by omega
  refine⟨w.heap.size,m,arr,clock,ds,[],aI _ _ _,by simp,by simp[dE,h2],by omega,?_,heap_alloc_new w _,by simp[Env.setO,aI,eJ],List.nodup_nil,by simp,h5,my,h7⟩;rw[eF.block m nK];exact h3
 ·split at hk
  ·rename_i e;subst e;refine⟨h.below.size,by simp,fun o=>?_,?_⟩
   ·cases hc:σ.c w.heap.size o with
    |none=>rfl
    |some u=>have:=h.lt hc;omega
   ·cases hc:σ.m w.heap.size with
    |none=>rfl
    |some u=>have:=h.ltm hc;omega
  ·obtain⟨g1,g2,g3,g4⟩:=jT.owns k i hk;exact⟨g1,by simp;omega,g3,g4⟩
 ·split at hk
  ·rename_i e;subst e;exact .inr (Nat.le_refl _)
  ·exact .inl ⟨i,hk⟩
theorem abE (h:Inv C S ρ σ own hv w0 σ0 A a w)(hC:CtxOK C σ0)(ht:¬A dst)(ae:dst<a.tmps.size){T U:TypeId}{x:Operand}{r:St×List PI}(hr:wQ C S dst T U x=some r){o:Oper}(hd:o.dst=some dst)(ho:o.op=.convert T U x):bA C w0 σ0 Φ S ρ A a w o r:=by
 unfold wQ at hr;split at hr
 case h_2=>cases hr
 rename_i e E hu hT hU;split at hr
 case h_2=>cases hr
 rename_i hE;cases hr;have hx:=bD h hC rfl hu;obtain⟨s,aK,aZ,hs⟩:=hx.str_inv;have pk:=Lib.run_convert_string_bytes (P:=C.P) w T U E s hT hU hE;refine bA.value hd fun ρ' af=>⟨.slice (some ⟨w.heap.size,0,none⟩) s.size (grownCap w s.size 0 E),Lib.bytesWorld w E s,by simp[execOp,ho,aK,pk],?_⟩
 simp only[PI.runs,PI.run,Option.bind_eq_some_iff] at af;obtain⟨ρ1,g1,ρ2,g2,g3⟩:=af;cases c1:((PE.ci BinOp.leq (.slen e) (.con (.int j3))).ev ρ).b<;>simp only[c1,cond_true,cond_false] at g1
 ·cases g1
 cases g1;cases g2;cases g3;have agh:s.size≤4294967296:=by
  simp[PE.ev,aZ,D.s,D.i,D.b,fm,D.int,j3] at c1;omega
 have eF:Below w.heap.size w (Lib.bytesWorld w E s):=⟨rfl,rfl,rfl,by rw[Lib.bytesWorld_size];omega,fun k hk=>Lib.bytesWorld_at_old w E s k hk⟩
 have aD:(Lib.bytesWorld w E s).heap.size=w.heap.size+1:=Lib.bytesWorld_size w E s
 let σ':Im:={c:=fun k i=>if k=w.heap.size then(if i<s.size then some (.int .u8 (s.data.toList.getD i 0).toNat) else none) else σ.c k i,m:=σ.m}
 have hle:σ.le σ':=by
  refine⟨fun k o v hc=>?_,fun k es hc=>hc⟩;have:k≠w.heap.size:=by have:=h.lt hc;omega
  simp[σ',this,hc]
 have aw:σ'.ok (Lib.bytesWorld w E s):=by
  refine⟨fun k i v hc=>?_,(h.ok.below eF).m⟩;simp only[σ'] at hc;split at hc
  ·rename_i ek;subst ek;split at hc
   ·rename_i hi;cases hc;exact Lib.bytesWorld_cell w E s i hi
   ·cases hc
  ·exact(h.ok.below eF).c k i v hc
 have h1:=h.step (S':=S) (ρ':=ρ) (σ':=σ') (own':=own) (hv':=hv) (A':=A) (a':=a) (w':=Lib.bytesWorld w E s) (fun _=>False) rfl hle aw (fun k i v hc=>?_) (fun k es hc=>.inl hc) (eF.mono h.below.size) ⟨fun _=>Nat.le_refl _,fun _ _=>rfl⟩
  (fun j _=>⟨rfl,rfl,rfl,fun k hk=>⟨hk,eF.block k (h.owns k j hk).2.1⟩⟩) (fun j hj=>hj.elim) (fun k j hk=>?_) (fun _=>id) (fun t=>.inl ⟨rfl,rfl,rfl⟩) (fun _ _=>rfl) (fun k hk _=>eF.block k hk) (fun k i hk=>.inl ⟨i,hk⟩) (fun _ hf=>hf.elim)
 ·refine⟨_,_,_,h1.setReg ht (s:=.dat (.slice (.int .u8))) ?_ ae (fun _ _ e=>by cases e)⟩;show Rep C.cap σ' _ _ _;simp only[PE.ev,aZ,D.s];refine .slice (.int .u8) w.heap.size 0 s.size _ _ (fun i=>.int .u8 (s.data.toList.getD i 0).toNat) (by simp) (grownCap_ge w s.size 0 E) (grownCap_le_maxLen w s.size 0 E (by unfold maxLen;omega)) (fun i x hx=>?_) (fun i j u hi hu=>?_)
  ·simp only[List.getElem?_map,Option.map_eq_some_iff] at hx;obtain⟨b,hb,rfl⟩:=hx;have:s.data.toList.getD i 0=b:=by simp[List.getD_eq_getElem?_getD,hb]
   rw[this];have:=b.toNat_lt;exact .int .u8 _ (by show(0:Int)≤_;omega) (by show _≤(255:Int);omega)
  ·have hj:j=0:=by
        have:=(Array.getElem?_eq_some_iff.1 hu).1;simp[Value.cells] at this;exact this
   subst hj;simp[Value.cells] at hu;subst hu;simp[σ',Ty.size,hi]
 ·simp only[σ'] at hc;split at hc
  ·rename_i ek;exact .inr ⟨by have:=h.below.size;omega,.inr (by omega)⟩
  ·exact .inl hc
 ·obtain⟨g1,g2,g3,g4⟩:=h.owns k j hk;refine⟨g1,by omega,fun i=>?_,g4⟩;have:k≠w.heap.size:=by omega
  simp[σ',this,g3 i]
end
end Cx
namespace Cx
open Go Go.RowKit
def Bn (C:Ctx)(S:St)(gs:List (Nat×Bool))(e:Ty)(z:D)(parts:List (Nat×Operand))(i:Nat):Option PE:=
 match parts.find? (fun p=>Nat.beq p.1 i) with
 |some p=>(use C S gs p.2).bind fun a=>bif Ty.sub a.1 e then some a.2 else Option.none
 |Option.none=>some (PE.con z)
def qJ (C:Ctx)(S:St)(gs:List (Nat×Bool))(dst:Nat)(T:TypeId)(len:Nat)(parts:List (Nat×Operand)):iZ:=
 match C.P.underlying T with
 |some (.slice E)=>
  (kY C.P E).bind fun e=>(la e).bind fun z=>
    bif mm C.P E e&&Ty.sub z.1 e&&gl (parts.map (·.1))&&parts.all (fun p=>Nat.blt p.1 len)&&Nat.ble (len*e.size) 16777216 then
     ((List.range len).mapM (Bn C S gs e z.2 parts)).map fun es=>(mkObj S dst (.row E e),[.setO dst (.lst es),.setR dst (.con .none)])
    else Option.none
 |_=>Option.none
def sU (C:Ctx)(S:St)(gs:List (Nat×Bool))(dst:Nat)(T:TypeId)(len:Nat)(parts:List (Nat×Operand)):iZ:=
 match C.P.underlying T,qJ C S gs dst T len parts with
 |some (.slice E),some r=>
  (kY C.P E).bind fun e=>
    match r.2 with
    |.setO _ x::_=>some ((S.newO dst .dead).setR dst (match gs with|[]=>.dat (.slice e.rol)|_=>.opt gs (.dat (.slice e.rol))),[.setR dst x])
    |_=>Option.none
 |_,_=>Option.none
def oJ (C:Ctx)(S:St)(T:TypeId)(x v:Operand):iZ:=
 match C.P.info? T with
 |some inf=>
  match eK S [] x with
  |.ptr j ver off=>
   bif Nat.beq ver (S.ver j) then
    match S.o j with
    |.box ag shs=>
     match use C S [] v with
     |some (t,e)=>
      bif Nat.beq inf.size t.size&&(t.rowT||t.one)&&Nat.ble (off+t.size) shs.length then
             some (S.setO j (.box ag (shs.take off++t.flat.map .dat++shs.drop (off+t.size))),[.setO j (.setc (.o j) off e)])
      else Option.none
     |Option.none=>
      match eK S [] v with
      |.obj j' kZ=>
       bif Nat.beq kZ (S.ver j')&&j0 (S.o j')&&Nat.beq inf.size 1&&Nat.blt off shs.length then
              some (S.setO j (.box ag (shs.set off (.obj j' kZ))),[.setO j (.setc (.o j) off (.con .none))])
       else Option.none
      |_=>Option.none
    |_=>Option.none
   else Option.none
  |.eptr j ver size off=>
   bif Nat.beq ver (S.ver j) then
    match S.o j,use C S [] v with
    |.row _ (.agg ts),some (t,e)=>
     bif Nat.beq inf.size t.size&&(t.rowT||t.one)&&Nat.beq size ts.length&&Nat.ble (off+t.size) ts.length&&Ty.subs t.flat ((ts.drop off).take t.size) then
         some (S,[.setO j (.setn (.o j) (p8 x) off e)])
     else Option.none
    |.row _ e0,some (t,e)=>
     bif Nat.beq inf.size 1&&Nat.beq size 1&&Nat.beq off 0&&e0.one&&Ty.sub t e0 then some (S,[.setO j (.setn (.o j) (p8 x) 0 e)]) else Option.none
    |_,_=>Option.none
   else Option.none
  |_=>Option.none
 |Option.none=>Option.none
def np (C:Ctx)(S:St)(T:TypeId)(m k v:Operand):iZ:=
 match C.P.underlying T,eK S [] m with
 |some (.map K _),.obj j ver=>
  bif Nat.beq ver (S.ver j) then
   match S.o j,use C S [] k,use C S [] v with
   |.mp kt et,some (tk,ek),some (tv,ev)=>
    bif Ty.beq tk kt&&pz C.P K kt&&Ty.sub tv et then some (S,[.chk (.ci .lss (.mlen (.o j)) (.con (.int j3))),.setO j (.put (.o j) ek ev)]) else Option.none
   |_,_,_=>Option.none
  else Option.none
 |_,_=>Option.none
def CB (x y:PE):PE:=.ci .leq (.llen (.app x y)) (.con (.int j3))
def Fx:Ty→Ty→Bool
 |.slice e',e=>Ty.beq e'.unf e
 |.nils _,_=>true
 |_,_=>false
def wO (C:Ctx)(S:St)(dst:Nat)(T:TypeId)(s x:Operand):iZ:=
 match C.P.underlying T with
 |some (.slice E)=>
  (kY C.P E).bind fun e=>
    match view C S [] x with
    |some (tx,ex)=>
     bif mm C.P E e&&Fx tx e then
        match use C S [] s with
        |some (.nils _,_)=>some (mkObj S dst (.row E e),[.chk (CB (.con (.list [])) ex),.setO dst (.app (.con (.list [])) ex),.setR dst (.con .none)])
        |some _=>Option.none
        |Option.none=>
         match eK S [] s with
         |.obj j ver=>
          bif Nat.beq ver (S.ver j) then
             match S.o j with
             |.row E' e'=>
              bif Nat.beq E' E&&Ty.beq e' e then
                some ((S.newO j (.row E e)).setR dst (.obj j (S.ver j+1)),[.chk (CB (.o j) ex),.setO j (.app (.o j) ex),.setR dst (.con .none)])
              else Option.none
             |_=>Option.none
          else Option.none
         |_=>Option.none
     else Option.none
    |Option.none=>Option.none
 |_=>Option.none
theorem GS {P:Program}{T:TypeId}{e:Ty}(h:mm P T e=true):∃inf z,P.info? T=some inf∧inf.size=e.size∧inf.bytes≤rE∧1≤e.size∧inf.zero=some z∧fY e z=true:=by
 unfold mm at h;split at h
 ·rename_i i hi;simp only[Bool.and_eq_true] at h;have h4:=h.2;unfold oB at h4;split at h4
  ·rename_i z hz;exact⟨i,z,hi,Nat.eq_of_beq_eq_true h.1.1.1,Nat.le_of_ble_eq_true h.1.1.2,Nat.le_of_ble_eq_true h.1.2,hz,h4⟩
  ·cases h4
 ·cases h
theorem ND {e:Ty}{z:Value}(h:fY e z=true):z.cells.size=e.size:=by
 cases e with
 |agg ts=>
  cases z with
  |agg vs=>simp only[fY] at h;have:=(NF ts vs.toList h).1;simpa [Value.cells,Ty.size] using this
  |_=>simp[fY] at h
 |_=>cases z<;>simp_all [fY,sC,Value.cells,Ty.size]
theorem aa7 {ρ:Env}{x y:PE}(h:((PE.ci .lss x y).ev ρ).b=true):(x.ev ρ).i<(y.ev ρ).i:=by
 simpa [PE.ev,D.b_bool,fm] using h
theorem OE {ρ:Env}{x y:PE}(h:((PE.ci .leq x y).ev ρ).b=true):(x.ev ρ).i≤(y.ev ρ).i:=by
 simpa [PE.ev,D.b_bool,fm] using h
theorem ahW {n:Nat}(h:(n:Int)<j3):n<4294967296:=by unfold j3 at h;omega
theorem Ri {n:Nat}(h:(n:Int)≤j3):n≤4294967296:=by unfold j3 at h;omega
theorem St.setO_self {S:St}{j:Nat}{ob:Ob}(h:S.o j=ob):S.setO j ob=S:=by
 have:bC S.o j ob=S.o:=by
  funext i;rw[eC];split
  ·rename_i e;subst e;exact h.symm
  ·rfl
 cases S;simp only[St.setO] at this ⊢;rw[this]
section
variable {C:Ctx} {S:St} {ρ:Env} {σ:Im} {own:Nat→Option Nat} {hv:Nat→Value} {w0:World} {σ0:Base} {A:Nat→Prop} {a:Act} {w:World} {gs:List (Nat×Bool)} {Φ:aO} {dst:Nat}
theorem Inv.updO (h:Inv C S ρ σ own hv w0 σ0 A a w)(j:Nat)(ob:Ob)(d:D)(v:Value)(nb:Nat→Bool){w':World}(hw:Below w0.heap.size w w')
 (nD:∀k,k<w.heap.size→own k≠some j→w'.heap[k]?=w.heap[k]?) (cG:∀k,nb k=true→(own k=some j∨w.heap.size≤k)∧k<w'.heap.size)
 (bX:bJ C (S.newO j ob) (ρ.setO j d) σ (ew own j nb) (bC hv j v) w' w0.heap.size j ob) (jV:ob≠.tr:=by intro h;cases h):Inv C (S.newO j ob) (ρ.setO j d) σ (ew own j nb) (bC hv j v) w0 σ0 A a w':=by
 have aD:w0.heap.size≤w.heap.size:=h.below.size;have bz:∀k i,i≠j→own k=some i→ew own j nb k=some i:=by
  intro k i hi hk;have h1:=h.owns k i hk;have h2:nb k=false:=by
   cases hn:nb k with
   |false=>rfl
   |true=>
    rcases(cG k hn).1 with e|e
    ·rw[hk] at e;simp at e;exact absurd e hi
    ·omega
  simp[ew,h2,hk,hi]
 have aw:σ.ok w':=by
  refine⟨fun k o u hc=>?_,fun k es hc=>?_⟩
  ·have av:own k≠some j:=fun e=>by rw[(h.owns k j e).2.2.1 o] at hc;cases hc
   rw[World.cell?_of_block (nD k (h.lt hc) av)];exact h.ok.c k o u hc
  ·have av:own k≠some j:=fun e=>by rw[(h.owns k j e).2.2.2] at hc;cases hc
   exact(h.ok.m k es hc).keep (nD k (h.ltm hc) av)
 refine h.step (fun i=>i=j) rfl (.refl σ) aw (fun _ _ _ hx=>.inl hx) (fun _ _ hx=>.inl hx) hw ⟨fun i=>?_,fun i e=>?_⟩ (fun i hi=>⟨?_,?_,?_,fun k hk=>⟨bz k i hi hk,?_⟩⟩) (fun i hi=>?_) (fun k i hk=>?_) (fun _=>id) (fun t=>.inl ⟨rfl,rfl,rfl⟩) (fun _ _=>rfl) (fun k hk e=>nD k hk (by rw[e];simp)) (fun k i hk=>by
  unfold ew at hk;split at hk
  ·rename_i hn;rcases(cG k hn).1 with e|e
   ·exact .inl ⟨j,e⟩
   ·exact .inr e
  ·split at hk
   ·cases hk
   ·exact .inl ⟨i,hk⟩) (fun i hi=>by subst hi;simpa only[St.newO,aI] using jV)
 ·simp only[St.newO,eC];split<;>rename_i e
  ·subst e;omega
  ·omega
 ·simp only[St.newO,eC] at e;split at e
  ·rename_i e';subst e';omega
  ·rename_i av;exact ba _ _ av
 ·simp[St.newO,ba _ _ hi]
 ·simp[Env.setO,ba _ _ hi]
 ·exact ba _ _ hi
 ·exact nD k (h.owns k i hk).2.1 (by rw[hk];simpa using hi)
 ·subst hi;simp only[St.newO,aI];exact bX
 ·unfold ew at hk;split at hk
  ·rename_i hn;obtain⟨g1,g2⟩:=cG k hn;rcases g1 with e|e
   ·obtain⟨f1,f2,f3,f4⟩:=h.owns k j e;exact⟨f1,g2,f3,f4⟩
   ·refine⟨by omega,g2,fun o=>?_,?_⟩
    ·cases hc:σ.c k o with
     |none=>rfl
     |some u=>have:=h.lt hc;omega
    ·cases hc:σ.m k with
     |none=>rfl
     |some u=>have:=h.ltm hc;omega
  ·split at hk
   ·cases hk
   ·obtain⟨g1,g2,g3,g4⟩:=h.owns k i hk;exact⟨g1,by have:=hw.size;omega,g3,g4⟩
theorem Inv.updB (h:Inv C S ρ σ own hv w0 σ0 A a w)(j:Nat)(ob:Ob)(d:D){w':World}(hw:Below w0.heap.size w w')
 (nD:∀k,k<w.heap.size→own k≠some j→w'.heap[k]?=w.heap[k]?)
 (bX:bJ C (S.setO j ob) (ρ.setO j d) σ own hv w' w0.heap.size j ob) (jV:ob≠.tr:=by intro h;cases h):Inv C (S.setO j ob) (ρ.setO j d) σ own hv w0 σ0 A a w':=by
 have aw:σ.ok w':=by
  refine⟨fun k o u hc=>?_,fun k es hc=>?_⟩
  ·have av:own k≠some j:=fun e=>by rw[(h.owns k j e).2.2.1 o] at hc;cases hc
   rw[World.cell?_of_block (nD k (h.lt hc) av)];exact h.ok.c k o u hc
  ·have av:own k≠some j:=fun e=>by rw[(h.owns k j e).2.2.2] at hc;cases hc
   exact(h.ok.m k es hc).keep (nD k (h.ltm hc) av)
 refine h.step (fun i=>i=j) rfl (.refl σ) aw (fun _ _ _ hx=>.inl hx) (fun _ _ hx=>.inl hx) hw (Compat.setO _ _ _ _) (fun i hi=>⟨by simp[St.setO,ba _ _ hi],by simp[Env.setO,ba _ _ hi],rfl,fun k hk=>⟨hk,nD k (h.owns k i hk).2.1 (by rw[hk];simpa using hi)⟩⟩) (fun i hi=>?_) (fun k i hk=>?_) (fun _=>id) (fun t=>.inl ⟨rfl,rfl,rfl⟩) (fun _ _=>rfl) (fun k hk e=>nD k hk (by rw[e];simp)) (fun k i hk=>.inl ⟨i,hk⟩) (fun i hi=>by subst hi;rw[St.setO_o];exact jV)
 ·subst hi;rw[St.setO_o];exact bX
 ·obtain⟨g1,g2,g3,g4⟩:=h.owns k i hk;exact⟨g1,by have:=hw.size;omega,g3,g4⟩
theorem Pp {B:Nat}{w w':World}{row:Option Nat}(hg:w.grownBy w' row)(hB:B≤w.heap.size)(hr:∀k,row=some k→B≤k):Below B w w':=(Below.refl B w).grown hg hB hr
theorem Rw {z:Array Value}{n i q:Nat}(hz:0<z.size)(hi:i<n)(hq:q<z.size):(madeCells z (n*z.size))[i*z.size+q]?=z[q]?:=by
 have ae:i*z.size+q<n*z.size:=by
  have:(i+1)*z.size≤n*z.size:=Nat.mul_le_mul_right _ hi;rw[Nat.add_mul] at this;omega
 have hm:(i*z.size+q)%z.size=q:=by rw[Nat.add_comm,Nat.add_mul_mod_self_right,Nat.mod_eq_of_lt hq]
 simp[madeCells,Array.getElem?_range,ae,hm,hq]
theorem abS (h:Inv C S ρ σ own hv w0 σ0 A a w)(hC:CtxOK C σ0)(ht:¬A dst)(ae:dst<a.tmps.size){T:TypeId}{l c:Operand}{r:St×List PI}(hr:wT C S dst T l c=some r){o:Oper}(hd:o.dst=some dst)(ho:o.op=.makeSlice T l c):bA C w0 σ0 Φ S ρ A a w o r:=by
 unfold wT at hr;split at hr
 case h_2=>cases hr
 rename_i E k1 n k2 m hT hl hc;simp only[Option.bind_eq_some_iff] at hr;obtain⟨e,he,hr⟩:=hr;cases hf:mm C.P E e<;>simp only[hf,cond_true,cond_false] at hr
 ·cases hr
 obtain⟨inf,z0,hi,hs,hb,h1,hz,jq⟩:=GS hf;simp only[Option.bind_eq_some_iff] at hr;obtain⟨z,hzt,hr⟩:=hr;cases bQ:Ty.sub z.1 e<;>simp only[bQ,cond_true,cond_false] at hr
 ·cases hr
 cases hr;obtain⟨n1,aK,aZ,b1,b2⟩:=(bD h hC rfl hl).int_inv;obtain⟨n2,fe,cX,b3,b4⟩:=(bD h hC rfl hc).int_inv;simp only at aZ cX;have yx:=((sD (cap:=C.cap) (σ:=σ) hzt jq).1).sub bQ;refine bA.value hd fun ρ' af=>?_;simp only[PI.runs,PI.run,Option.bind_eq_some_iff] at af;obtain⟨ρ1,g1,ρ2,g2,af⟩:=af;cases c1:((Jg n).ev ρ).b<;>simp only[c1,cond_true,cond_false] at g1
 ·cases g1
 cases g1;cases c2:((PE.ci BinOp.eql n m).ev ρ).b<;>simp only[c2,cond_true,cond_false] at g2
 ·cases g2
 cases g2;have agt:n1=n2:=by simpa [PE.ev,aZ,cX,D.i_int,D.b_bool,fm] using c2
 subst agt;have hb:0≤n1∧n1≤j3:=by simpa [Jg,PE.ev,aZ,D.i_int,D.b_bool,fm,D.int] using c1
 obtain⟨nn,rfl⟩:=Int.eq_ofNat_of_zero_le hb.1;have xZ:nn≤4294967296:=by have:=hb.2;unfold j3 at this;omega
 have nQ:z0.cells.size=e.size:=ND jq;obtain⟨w',r1,r2,r3⟩:=run_make_full (P:=C.P) w w0.heap.size T E inf z0 e.size hT hi hz hs k1 k2 nn (by
  have:inf.bytes*nn≤rE*4294967296:=Nat.mul_le_mul (by assumption) xZ;unfold rE at this;omega) (by unfold maxLen;omega) h.below.size
 refine⟨.slice (some ⟨w.heap.size,0,none⟩) nn nn,w',by simp[execOp,ho,aK,fe,r1],?_⟩;obtain⟨ρ3,g3,ρ4,g4,g5⟩:=af;cases g3;cases g4;cases g5;simp only[PE.ev,aZ,D.i_int,Int.toNat_natCast];have hlen:(List.replicate nn z.2).length=nn:=by simp
 refine h.mkObj ht ae (.row E e) _ _ (fun k=>Nat.beq k w.heap.size) (Pp r3 (Nat.le_refl _) (by simp)) (fun k hk=>?_) ⟨_,List.replicate nn z.2,by simp[Env.setO,aI],by rw[aI,hlen];exact r2,⟨fun _=>z0,fun i x hx=>?_,fun i j u hi hj=>?_⟩,fun k hk=>?_⟩
 ·have bB:k=w.heap.size:=Nat.eq_of_beq_eq_true hk;have:=(r2.lt _ rfl).2;subst bB;exact⟨Nat.le_refl _,this⟩
 ·have:=(List.getElem?_eq_some_iff.1 hx)
  obtain⟨q1,q2⟩:=this;simp at q2;subst q2;exact yx
 ·rw[hlen] at hi;have cL:j<z0.cells.size:=(Array.getElem?_eq_some_iff.1 hj).1;rw[Array.getElem?_toList,←nQ];rw[Rw (by omega) hi cL];exact hj
 ·rw[aI] at hk;simp[Value.ownBlock] at hk;simp[ew,hk]
theorem jL.push {arr:Array MapEntry}{clock:Nat}(h:jL arr clock)(k v:Value):jL (arr.push {key:=k,val:=v,born:=clock}) (clock+1):=by
 have key:∀(i:Nat) (e:MapEntry),(arr.push {key:=k,val:=v,born:=clock})[i]?=some e→(arr[i]?=some e∧e.born<clock)∨(i=arr.size∧e.born=clock):=by
  intro i e he;rw[Array.getElem?_push] at he;split at he
  ·rename_i hi;cases he;exact .inr ⟨hi,rfl⟩
  ·exact .inl ⟨he,h.1 i e he⟩
 refine⟨fun i e he=>?_,fun i j e f he hf hb=>?_⟩
 ·rcases key i e he with⟨_,h1⟩|⟨_,h1⟩<;>omega
 ·rcases key i e he with⟨h1,h2⟩|⟨h1,h2⟩<;>rcases key j f hf with⟨h3,h4⟩|⟨h3,h4⟩
  ·exact h.2 i j e f h1 h3 hb
  ·omega
  ·omega
  ·omega
theorem jL.modify {arr:Array MapEntry}{clock:Nat}(h:jL arr clock)(i0:Nat)(k v:Value):jL (arr.modify i0 fun e=>{e with key:=k,val:=v}) clock:=by
 have key:∀(i:Nat) (e:MapEntry),(arr.modify i0 fun e=>{e with key:=k,val:=v})[i]?=some e→∃e',arr[i]?=some e'∧e'.born=e.born:=by
  intro i e he;rw[Array.getElem?_modify] at he;split at he
  ·simp only[Option.map_eq_some_iff] at he;obtain⟨e',h1,rfl⟩:=he;exact⟨e',h1,rfl⟩
  ·exact⟨e,he,rfl⟩
 refine⟨fun i e he=>?_,fun i j e f he hf hb=>?_⟩
 ·obtain⟨e',h1,h2⟩:=key i e he;rw[←h2];exact h.1 i e' h1
 ·obtain⟨e',h1,h2⟩:=key i e he;obtain⟨f',h3,h4⟩:=key j f hf;exact h.2 i j e' f' h1 h3 (by rw[h2,h4,hb])
theorem OR (h:Inv C S ρ σ own hv w0 σ0 A a w)(hC:CtxOK C σ0){T:TypeId}{m k v:Operand}{r:St×List PI}(hr:np C S T m k v=some r){o:Oper}(hd:o.dst=none)(ho:o.op=.mapUpdate T m k v∨o.op=.insert T m k v):bA C w0 σ0 Φ S ρ A a w o r:=by
 unfold np at hr;split at hr
 case h_2=>cases hr
 rename_i K E j ver hT es;obtain⟨dt,_⟩:=sv h (gs:=[]) rfl m;rw[es] at dt;cases hb:Nat.beq ver (S.ver j)<;>simp only[hb,cond_true,cond_false] at hr
 ·cases hr
 have bR:=dt.2 (Nat.eq_of_beq_eq_true hb);have aW:=h.objs j;split at hr
 case h_2=>cases hr
 rename_i kt et tk ek tv ev eo hk rv;rw[eo] at aW;cases hc:(Ty.beq tk kt&&pz C.P K kt&&Ty.sub tv et)<;>simp only[hc,cond_true,cond_false] at hr
 ·cases hr
 cases hr;simp only[Bool.and_eq_true] at hc;obtain⟨⟨B8,nI⟩,bQ⟩:=hc;obtain⟨g,arr,clock,ds,h1,h2,h3,h4,h5,⟨h6,my⟩,h7⟩:=aW;have bB:=bD h hC rfl hk;rw[Ty.beq_eq _ _ B8] at bB;have hv':=(bD h hC rfl rv).sub bQ;refine bA.skip hd fun ρ' af=>?_;simp only[PI.runs,PI.run,Option.bind_eq_some_iff] at af;obtain⟨ρ1,g1,ρ2,g2,g3⟩:=af;cases c1:((PE.ci BinOp.lss (.mlen (.o j)) (.con (.int j3))).ev ρ).b<;>simp only[c1,cond_true,cond_false] at g1
 ·cases g1
 cases g1;cases g2;cases g3;have agh:ds.length<4294967296:=by
  have h8:=aa7 c1;simp only[PE.ev,h4,D.m,D.i_int,D.int] at h8;exact ahW h8
 have nE:(Instr.checkKey false 10000 K (a.eval k)).run C.P w=.ok () w:=OD (cap:=C.cap) (σ:=σ) nI bB;have iS:∃oF sN ds',(Instr.mapUpdate T (a.eval m) (a.eval k) (a.eval v)).run C.P w=.ok () {w with heap:=w.heap.setIfInBounds g (.map oF sN)}∧iv (ek.ev ρ) (ev.ev ρ) ds=ds'∧ds'.length=oF.size∧(ds'.length≤maxLen∧jL oF sN)∧
  ∀(i:Nat) (e:MapEntry) (p:D×D),oF[i]?=some e→ds'[i]?=some p→Rep C.cap σ kt e.key p.1∧Rep C.cap σ et e.val p.2:=by
  rcases run_findKey nI bB arr ds h5 h7 w with⟨f1,f2,f3⟩|⟨i,e,p,f1,f2,f3,f4,f5,f6⟩
  ·refine⟨arr.push {key:=a.eval k,val:=a.eval v,born:=clock},clock+1,ds++[(ek.ev ρ,ev.ev ρ)],?_,f3 _,by simp[h5],⟨by simp;unfold maxLen;omega,my.push _ _⟩,fun q e p he hp=>?_⟩
   ·rw[bR,h1];simp[Instr.mapUpdate,run_underlying hT,getObj,Sem.run,h3,nE,f1,setObj]
   ·rw[Array.getElem?_push] at he;rw[List.getElem?_append] at hp;by_cases hq:q=arr.size
    ·subst hq;simp at he;rw[if_neg (by omega)] at hp;simp[h5] at hp;subst he;subst hp;exact⟨bB,hv'⟩
    ·rw[if_neg hq] at he;have Cm:q<arr.size:=(Array.getElem?_eq_some_iff.1 he).1;rw[if_pos (by omega)] at hp;exact h7 q e p he hp
  ·refine⟨arr.modify i fun e=>{e with key:=a.eval k,val:=a.eval v},clock,ds.set i (ek.ev ρ,ev.ev ρ),?_,f5 _,by simp[h5],⟨by simp;exact h6,my.modify _ _ _⟩,fun q e' p' he hp=>?_⟩
   ·rw[bR,h1];have cv:(Instr.keyThatStays e.key (a.eval k)).run C.P w=.ok (a.eval k) w:=by simp[Instr.keyThatStays,f6]
    simp[Instr.mapUpdate,run_underlying hT,getObj,Sem.run,h3,nE,f3,f1,cv,setObj]
   ·rw[Array.getElem?_modify] at he;rw[List.getElem?_set] at hp;by_cases hq:i=q
    ·subst hq;simp only[if_true] at he hp;rw[f1] at he;simp at he;split at hp
     ·cases hp;subst he;exact⟨bB,hv'⟩
     ·cases hp
    ·rw[if_neg hq] at he hp;exact h7 q e' p' he hp
 obtain⟨oF,sN,ds',r1,r2,r3,r4,r5⟩:=iS;refine⟨{w with heap:=w.heap.setIfInBounds g (.map oF sN)},by rcases ho with ho|ho<;>simp[execOp,ho,r1],?_⟩;have hgl:g<w.heap.size:=(Array.getElem?_eq_some_iff.1 h3).1;have hgB:w0.heap.size≤g:=(h.owns g j h2).1;have bp:(PE.put (.o j) ek ev).ev ρ=.map ds':=by simp only[PE.ev,h4,D.m,r2]
 rw[bp]
 have:=h.updB j (.mp kt et) (.map ds') (w':={w with heap:=w.heap.setIfInBounds g (.map oF sN)}) ⟨rfl,rfl,rfl,by simp,fun k hk=>by simp;rw[Array.getElem?_setIfInBounds_ne (by omega)]⟩
  (fun k hk av=>by simp;rw[Array.getElem?_setIfInBounds_ne (fun e=>av (by rw[←e];exact h2))])
  ⟨g,oF,sN,ds',h1,h2,by simp[hgl],by simp[Env.setO,aI],r3,r4,r5⟩
 have eS:S.setO j (.mp kt et)=S:=St.setO_self eo;rw[eS] at this;exact⟨_,_,_,this⟩
end
end Cx
namespace Cx
open Go Go.RowKit
theorem apr {e:Ty}{z:Value}(h:fY e z=true):e.rowT=true∨e.one=true:=by
 cases e<;>first|exact .inl rfl|exact .inr rfl|(cases z<;>simp[fY,sC] at h)
theorem Rep.cellsOne {cap:Nat→Option CSig}{σ:Im}{t:Ty}{v:Value}{d:D}(h:Rep cap σ t v d)(ht:t.rowT=true∨t.one=true){m:Nat}{u:Value}(hu:v.cells[m]?=some u):u.oneCell'=true:=by
 obtain⟨f1,f2,f3⟩:=h.flat ht;have ae:m<v.cells.size:=(Array.getElem?_eq_some_iff.1 hu).1;rw[h.size] at ae;obtain⟨g1,g2⟩:=f3 m _ (List.getElem?_eq_getElem (by omega:m<t.flat.length));have:=(g2.oneCell g1).2;rw[Array.getD_eq_getD_getElem?,hu] at this;exact this
theorem acd {cap:Nat→Option CSig}{σ:Im}{e:Ty}{cells:List Value}{xs:List D}(h:eX cap σ e cells xs)(hl:cells.length=xs.length*e.size)(fc:e.rowT=true∨e.one=true):∀u∈cells,u.oneCell'=true:=by
 obtain⟨vs,h1,h2⟩:=h;intro u hu;obtain⟨p,hp,rfl⟩:=List.getElem_of_mem hu;rw[hl] at hp;have hs:0<e.size:=Nat.pos_of_ne_zero fun e0=>by rw[e0] at hp;simp at hp
 have hi:p/e.size<xs.length:=(Nat.div_lt_iff_lt_mul hs).2 hp;have hq:p%e.size<e.size:=Nat.mod_lt _ hs;have bt:=h1 _ _ (List.getElem?_eq_getElem hi);have aD:=bt.size;have lD:(vs (p/e.size)).cells[p%e.size]?=some (vs (p/e.size)).cells[p%e.size]:=Array.getElem?_eq_getElem (by omega);have:=h2 _ _ _ hi lD;rw[Nat.mul_comm,Nat.div_add_mod] at this;have h3:cells[p]=(vs (p/e.size)).cells[p%e.size]:=by
  have h4:=List.getElem?_eq_getElem (show p<cells.length by omega);rw[h4] at this;exact Option.some.inj this
 rw[h3];exact bt.cellsOne fc lD
theorem acb {cap:Nat→Option CSig}{σ:Im}{e:Ty}{c1 c2:List Value}{xs ys:List D}(h:eX cap σ e c1 xs)(k:eX cap σ e c2 ys)(hl:c1.length=xs.length*e.size):eX cap σ e (c1++c2) (xs++ys):=by
 obtain⟨vs,h1,h2⟩:=h;obtain⟨us,k1,k2⟩:=k;refine⟨fun i=>if i<xs.length then vs i else us (i-xs.length),fun i x hx=>?_,fun i j u hi hj=>?_⟩
 ·rw[List.getElem?_append] at hx;split at hx
  ·rename_i ae;simp only[ae,if_true];exact h1 i x hx
  ·rename_i ae;simp only[ae,if_false];exact k1 _ x hx
 ·by_cases ae:i<xs.length
  ·simp only[ae,if_true] at hj;have:=h2 i j u ae hj;rw[List.getElem?_append_left (List.getElem?_eq_some_iff.1 this).1];exact this
  ·simp only[ae,if_false] at hj;have cK:i-xs.length<ys.length:=by simp at hi;omega
   have:=k2 _ j u cK hj;have e1:i*e.size=c1.length+(i-xs.length)*e.size:=by rw[hl,←Nat.add_mul];congr 1;omega
   rw[List.getElem?_append_right (by omega)];rw[show i*e.size+j-c1.length=(i-xs.length)*e.size+j by omega];exact this
section
variable {C:Ctx} {S:St} {ρ:Env} {σ:Im} {own:Nat→Option Nat} {hv:Nat→Value} {w0:World} {σ0:Base} {A:Nat→Prop} {a:Act} {w:World} {gs:List (Nat×Bool)} {Φ:aO} {dst:Nat}
theorem api (h:Inv C S ρ σ own hv w0 σ0 A a w){B:Nat}{e f:Ty}{v:Value}{d:D}(hs:0<e.size)(fc:e.rowT=true∨e.one=true)(hf:f.unf=e)(ID:FW C σ w B (.slice f) v d):
 ∃ys,d=.list ys∧ys.length≤maxLen∧((v=.slice none 0 0∧ys=[])∨∃(ad:Addr) (c:Nat) (news:List Value),v=.slice (some ad) ys.length c∧news.length=ys.length*e.size∧
  (∀j u,news[j]?=some u→w.cell? (ad.add j)=some u)∧eX C.cap σ e news ys):=by
 rcases ID with hr|⟨T,e',cells,xs,ht,hd,bz,fK⟩|⟨k,arr,clock,es,kt,et,ht,_⟩
 ·obtain⟨xs,hd,tj⟩:=hr.slice_inv;rw[←f.unf_size,hf] at tj;rcases tj with⟨⟨p0,aK⟩,rfl⟩|⟨k,o,c,aK,h1,h2,vs,h3,h4⟩
  ·cases p0 with
   |none=>exact⟨[],hd,by simp,.inl ⟨aK,rfl⟩⟩
   |some a0=>exact⟨[],hd,by simp,.inr ⟨a0,0,[],aK,by simp,fun j u hu=>by simp at hu,fun _=>undef,fun i x hx=>by simp at hx,fun i j u hi=>by simp at hi⟩⟩
  ·refine⟨xs,hd,by omega,.inr ⟨⟨k,o,none⟩,c,(List.range (xs.length*e.size)).map fun p=>(vs (p/e.size)).cells.getD (p%e.size) undef,aK,by simp,fun j u hu=>?_,vs,h3,fun i j u hi hj=>?_⟩⟩
   ·simp only[List.getElem?_map,Option.map_eq_some_iff] at hu;obtain⟨p,hp,rfl⟩:=hu;have ei:j<xs.length*e.size:=by have:=(List.getElem?_eq_some_iff.1 hp).1;simpa using this
    rw[List.getElem?_range ei] at hp;cases hp;have hi:j/e.size<xs.length:=(Nat.div_lt_iff_lt_mul hs).2 ei;have hq:j%e.size<e.size:=Nat.mod_lt _ hs;have bt:=h3 _ _ (List.getElem?_eq_getElem hi);have aD:=bt.size;have lD:(vs (j/e.size)).cells[j%e.size]?=some ((vs (j/e.size)).cells.getD (j%e.size) undef):=by
     rw[Array.getD_eq_getD_getElem?,Array.getElem?_eq_getElem (by omega)];rfl
    have:=h.cell (h4 _ _ _ hi lD);rw[oE]
    rwa [show o+j/e.size*e.size+j%e.size=o+j by rw[Nat.add_assoc,Nat.mul_comm,Nat.div_add_mod]] at this
   ·have bt:=h3 _ _ (List.getElem?_eq_getElem hi);have cL:j<e.size:=by rw[←bt.size];exact(Array.getElem?_eq_some_iff.1 hj).1
    have ae:i*e.size+j<xs.length*e.size:=by
     have:(i+1)*e.size≤xs.length*e.size:=Nat.mul_le_mul_right _ hi;rw[Nat.add_mul] at this;omega
    have e1:(i*e.size+j)/e.size=i:=by rw[Nat.mul_comm,Nat.mul_add_div hs,Nat.div_eq_of_lt cL];omega
    have e2:(i*e.size+j)%e.size=j:=by rw[Nat.add_comm,Nat.add_mul_mod_self_right,Nat.mod_eq_of_lt cL]
    simp only[List.getElem?_map,List.getElem?_range ae,Option.map_some,e1,e2];rw[Array.getD_eq_getD_getElem?,hj];rfl
 ·cases ht;rw[Ty.unf_rol] at hf;obtain⟨b,c,aK,hm,_⟩:=rV bz;have fK:eX C.cap σ e cells xs:=by
   obtain⟨us,u1,u2⟩:=fK;refine⟨us,fun i x hx=>hf▸(u1 i x hx).unf,fun i j u hi hu=>?_⟩;rw[←hf,Ty.unf_size];exact u2 i j u hi hu
  have bz:w.ownsRow B T e.size v xs.length cells:=by rw[←hf,Ty.unf_size];exact bz
  rcases bz.2 with⟨e1,e2⟩|⟨g,cap,cur,e1,e2⟩
  ·have:xs=[]:=List.eq_nil_of_length_eq_zero e2;subst this;exact⟨[],hd,by simp,.inl ⟨e1,rfl⟩⟩
  ·exact⟨xs,hd,hm,.inr ⟨⟨g,0,none⟩,cap,cells,e1,bz.1,bz.cells (by rw[e1];rfl),fK⟩⟩
 ·cases ht
theorem amN {P:Program}{B:Nat}{T E ty:TypeId}{inf:TypeInfo}{z:Value}{size:Nat}{v x:Value}{n m:Nat}{xs news:List Value}(hT:P.underlying T=some (.slice E))(hi:P.info? E=some inf)(hz:inf.zero=some z)
 (hs:inf.size=size) (nQ:z.cells.size=size) (aD:0<size) (lC:inf.bytes≤rE) (bz:w.ownsRow B E size v n xs) (hB:B≤w.heap.size) (cM:n+m≤4294967296)
 (hx:(x=.slice none 0 0∧m=0∧news=[])∨∃(ad:Addr) (c:Nat),x=.slice (some ad) m c∧news.length=m*size∧(∀j u,news[j]?=some u→w.cell? (ad.add j)=some u)∧∀u∈news,u.oneCell'=true):
 ∃v' w',(Builtin.append_ #[T,T] ty #[v,x]).run P w=.ok v' w'∧w'.ownsRow B E size v' (n+m) (xs++news)∧w.grownBy w' v.ownBlock∧∀k,v'.ownBlock=some k→v.ownBlock=some k∨(w.heap.size≤k∧k<w'.heap.size):=by
 rcases hx with⟨rfl,rfl,rfl⟩|⟨ad,c,rfl,hl,Cg,h1⟩
 ·refine⟨v,w,run_append_owned_none w B T ty E inf size hT hi v n xs bz,by simpa using bz,⟨rfl,rfl,rfl,Nat.le_refl _,fun _ _ _=>rfl⟩,fun k hk=>.inl hk⟩
 ·have Hu:(n+m)*inf.bytes≤140737488355328:=by
   have:(n+m)*inf.bytes≤4294967296*rE:=Nat.mul_le_mul cM lC;unfold rE at this;omega
  obtain⟨v',w',r1,r2,r3,r4⟩:=run_append_own (P:=P) w B T ty E inf z size inf.bytes hT hi hz hs rfl nQ aD v n xs bz ad m c news hl Cg h1 (by unfold maxLen;omega) Hu hB;refine⟨v',w',r1,r2,r3,fun k hk=>?_⟩;have ae:=(r2.lt k hk).2;subst hs;rcases bz.2 with⟨rfl,rfl⟩|⟨g,cap,cur,rfl,hbg,hg,cY,tn,dD,QG⟩
  ·by_cases hm:m=0
   ·subst hm;have:=r4.2 ⟨rfl,rfl⟩;subst this;simp[Value.ownBlock] at hk
   ·have hr:=run_append_nil (P:=P) w T ty E inf z hT hi hz ad m c news hl Cg (by omega) (by omega) (by have hb:=Hu;simp only[Nat.zero_add] at hb;omega);rw[hr] at r1;cases r1;simp[Value.ownBlock] at hk;subst hk;exact .inr ⟨Nat.le_refl _,ae⟩
  ·by_cases QB:n+m≤cap
   ·have B0:n*inf.size+news.length≤cur.size:=by rw[hl,dD,←Nat.add_mul];exact Nat.mul_le_mul_right _ QB
    have hr:=run_append_room (P:=P) w T ty E inf hT hi g n cap cur hg ad m c news hl Cg h1 QB B0;rw[hr] at r1;cases r1;exact .inl hk
   ·have hr:=run_append_grow (P:=P) w T ty E inf z hT hi hz ⟨g,0,none⟩ n cap xs bz.1 (bz.cells (g:=g) rfl) ad m c news hl Cg (by omega) (by omega) (growslice_fits (by omega) Hu);rw[hr] at r1;cases r1;simp[Value.ownBlock] at hk;subst hk;exact .inr ⟨Nat.le_refl _,ae⟩
theorem aby (h:Inv C S ρ σ own hv w0 σ0 A a w)(hC:CtxOK C σ0)(ht:¬A dst)(ae:dst<a.tmps.size){T:TypeId}{s x:Operand}{r:St×List PI}(hr:wO C S dst T s x=some r){o:Oper}(hd:o.dst=some dst)
 (ho:o.op=.call {callee:=.builtin .append,args:=#[s,x],argTypes:=#[T,T]}):bA C w0 σ0 Φ S ρ A a w o r:=by
 unfold wO at hr;split at hr
 case h_2=>cases hr
 rename_i E hT;simp only[Option.bind_eq_some_iff] at hr;obtain⟨e,he,hr⟩:=hr;split at hr
 case h_2=>cases hr
 rename_i tx ex ID;have hv':=NA h hC (gs:=[]) rfl ID;obtain⟨cs,af⟩:=LI (C:=C) (w:=w) (a:=a) ho;cases hc:(mm C.P E e&&Fx tx e)<;>simp only[hc,cond_true,cond_false] at hr
 ·cases hr
 simp only[Bool.and_eq_true] at hc;obtain⟨inf,z,hi,hs,lC,h1,hz,jq⟩:=GS hc.1;have nQ:=ND jq;have fc:=apr jq;have IE:∃f:Ty,f.unf=e∧FW C σ w w0.heap.size (.slice f) (a.eval x) (ex.ev ρ):=by
  have cv:=hc.2;unfold Fx at cv;split at cv
  ·exact⟨_,Ty.beq_eq _ _ cv,hv'⟩
  ·refine⟨e,Ty.unf_ro fc,?_⟩;rcases hv' with hr|⟨_,_,_,_,ht,_⟩|⟨_,_,_,_,_,_,ht,_⟩
   ·exact .inl (hr.sub (by simp[Ty.sub]))
   ·cases ht
   ·cases ht
  ·cases cv
 obtain⟨fv,du,IE⟩:=IE;obtain⟨ys,BY,jo,ahb⟩:=api h h1 fc du IE;have hx:∃news,eX C.cap σ e news ys∧news.length=ys.length*e.size∧((a.eval x=.slice none 0 0∧ys.length=0∧news=[])∨∃(ad:Addr) (c:Nat),a.eval x=.slice (some ad) ys.length c∧news.length=ys.length*e.size∧(∀j u,news[j]?=some u→w.cell? (ad.add j)=some u)∧∀u∈news,u.oneCell'=true):=by
  rcases ahb with⟨e1,rfl⟩|⟨ad,c,news,e1,e2,e3,e4⟩
  ·exact⟨[],⟨fun _=>undef,by simp,by simp⟩,by simp,.inl ⟨e1,rfl,rfl⟩⟩
  ·exact⟨news,e4,e2,.inr ⟨ad,c,e1,e2,e3,acd e4 e2 fc⟩⟩
 obtain⟨news,av,Qr,hx⟩:=hx;have main:∀(j:Nat) (v:Value) (xs:List D) (cells:List Value),a.eval s=v→w.ownsRow w0.heap.size E e.size v xs.length cells→eX C.cap σ e cells xs→xs.length+ys.length≤4294967296→
  (∀k,v.ownBlock=some k→own k=some j)→
  ∃v' w',(execOp a.eval o).run C.P w=.ok (.value v') w'∧Good C w0 σ0 ((S.newO j (.row E e)).setR dst (.obj j (S.ver j+1))) ((ρ.setO j (.list (xs++ys))).setR dst .none) (fun u=>A u∨u=dst) (a.put (some dst) v') w':=by
  intro j v xs cells It bz fK hlen bX;obtain⟨v',w',r1,r2,r3,r4⟩:=amN (P:=C.P) (ty:=o.type) hT hi hz hs nQ h1 lC bz h.below.size hlen hx;refine⟨v',w',by rw[af];simp[builtin,It,r1],?_⟩
  have ahs:=h.updO j (.row E e) (.list (xs++ys)) v' (fun k=>decide (v'.ownBlock=some k)) (w':=w') (Pp r3 h.below.size (fun k hk=>(h.owns k j (bX k hk)).1)) (fun k hk av=>r3.block k hk (fun e=>av (bX k e.symm))) (fun k hk=>by
        have bB:v'.ownBlock=some k:=by simpa using hk
        rcases r4 k bB with e|e
        ·exact⟨.inl (bX k e),(r2.lt k bB).2⟩
        ·exact⟨.inr e.1,e.2⟩)
   ⟨cells++news,xs++ys,by simp[Env.setO,aI],by rw[aI,List.length_append];exact r2,acb fK av bz.1,fun k hk=>by rw[aI] at hk;simp[ew,hk]⟩
  have h2:=ahs.setObj ht (j:=j) (v:=v') (aI _ _ _) ae;have e:(S.newO j (.row E e)).ver j=S.ver j+1:=aI _ _ _;rw[e] at h2;exact⟨_,_,_,h2⟩
 split at hr
 ·rename_i e0 pe0 hu;cases hr;refine bA.value hd fun ρ' mG=>?_;have Iu:=bD h hC rfl hu;have It:a.eval s=.slice none 0 0:=by
   generalize a.eval s=v at Iu;generalize pe0.ev ρ=d at Iu;cases Iu;rfl
  simp only[PI.runs,PI.run,Option.bind_eq_some_iff] at mG;obtain⟨ρ1,g1,ρ2,g2,ρ3,g3,g4⟩:=mG;cases c1:((CB (.con (.list [])) ex).ev ρ).b<;>simp only[c1,cond_true,cond_false] at g1
  ·cases g1
  cases g1;cases g2;cases g3;cases g4;have hlen:=OE c1;simp only[PE.ev,D.l_list,BY,List.nil_append,D.i_int,D.int] at hlen;have:=main dst (.slice none 0 0) [] [] It (World.ownsRow_nil _ _ _ _) ⟨fun _=>undef,by simp,by simp⟩ (by simpa using Ri hlen) (by simp[Value.ownBlock]);simpa [PE.ev,D.l_list,BY,mkObj] using this
 ·cases hr
 ·obtain⟨dt,_⟩:=sv h (gs:=[]) rfl s;split at hr
  case h_2=>cases hr
  rename_i j ver es;rw[es] at dt;cases hb:Nat.beq ver (S.ver j)<;>simp only[hb,cond_true,cond_false] at hr
  ·cases hr
  have bR:=dt.2 (Nat.eq_of_beq_eq_true hb);have aW:=h.objs j;split at hr
  case h_2=>cases hr
  rename_i E' e' eo;rw[eo] at aW;cases gg:(Nat.beq E' E&&Ty.beq e' e)<;>simp only[gg,cond_true,cond_false] at hr
  ·cases hr
  cases hr;simp only[Bool.and_eq_true] at gg;have e1:=Nat.eq_of_beq_eq_true gg.1;have e2:=Ty.beq_eq _ _ gg.2;subst e1;subst e2;obtain⟨cells,xs,k1,k2,k3,k4⟩:=aW;refine bA.value hd fun ρ' mG=>?_;simp only[PI.runs,PI.run,Option.bind_eq_some_iff] at mG;obtain⟨ρ1,g1,ρ2,g2,ρ3,g3,g4⟩:=mG;cases c1:((CB (.o j) ex).ev ρ).b<;>simp only[c1,cond_true,cond_false] at g1
  ·cases g1
  cases g1;cases g2;cases g3;cases g4;have hlen:=OE c1;simp only[PE.ev,D.l_list,BY,k1,D.i_int,D.int] at hlen;have:=main j (hv j) xs cells bR k2 k3 (by have:=Ri hlen;simpa using this) k4;simpa [PE.ev,D.l_list,BY,k1] using this
end
end Cx
namespace Cx
open Go Go.RowKit
theorem Fs {P:Program}{a:Act}{w:World}{o:Oper}{T:TypeId}{x v:Operand}{inf:TypeInfo}{k off:Nat}{cs:Array Value}{E:TypeId}(ho:o.op=.store T x v)(hi:P.info? T=some inf)(hx:a.eval x=.pointer (some ⟨k,off,none⟩))
 (hs:(a.eval v).cells.size=inf.size) (dj:∀u∈(a.eval v).cells.toList,u.oneCell'=true) (hb:w.heap[k]?=some (.cells cs E (0,0))) (hle:off+inf.size≤cs.size):
 (execOp a.eval o).run P w=.ok .skip (w.setRow k (cs.toList.take off++(a.eval v).cells.toList++cs.toList.drop (off+inf.size)).toArray):=by
 have:=run_storeCells_at P k off E (a.eval v).cells.toList 0 cs w hb (by simp[hs];exact hle) dj;simp only[Nat.add_zero,Array.length_toList,hs] at this;simp[execOp,ho,Instr.storeAt,hx,Instr.sureAddr,storeVar,Go.sizeOf,run_typeInfo w hi,hs,this]
theorem V0 {w:World}{B k:Nat}{cs:Array Value}(hB:B≤k):Below B w (w.setRow k cs)∧∀i,i≠k→(w.setRow k cs).heap[i]?=w.heap[i]?:=
 ⟨⟨rfl,rfl,rfl,by simp[World.setRow],fun i hi=>setRow_other w k i cs (by omega)⟩,fun i hi=>setRow_other w k i cs hi⟩
theorem Bz {α:Type}(xs ys:List α)(off:Nat)(d:α)(hle:off+ys.length≤xs.length)(i:Nat):(xs.take off++ys++xs.drop (off+ys.length)).getD i d=if off≤i∧i<off+ys.length then ys.getD (i-off) d else xs.getD i d:=by
 simp only[List.getD_eq_getElem?_getD,List.append_assoc];rw[List.getElem?_append,List.length_take,Nat.min_eq_left (by omega)];split
 ·rename_i h;rw[if_neg (by omega),List.getElem?_take,if_pos h]
 ·rename_i h;rw[List.getElem?_append];split
  ·rename_i h2;rw[if_pos (by omega)]
  ·rename_i h2;rw[if_neg (by omega),List.getElem?_drop];congr 2;omega
section
variable {C:Ctx} {S:St} {ρ:Env} {σ:Im} {own:Nat→Option Nat} {hv:Nat→Value} {w0:World} {σ0:Base} {A:Nat→Prop} {a:Act} {w:World} {gs:List (Nat×Bool)} {Φ:aO} {dst:Nat}
theorem Inv.storeBox (h:Inv C S ρ σ own hv w0 σ0 A a w){j k off:Nat}{ag:Bool}{shs news:List Sh}{cs:Array Value}{E:TypeId}{ds dn:List D}{vs:List Value}(eo:S.o j=.box ag shs)
 (h1:hv j=.pointer (some ⟨k,0,none⟩)) (h2:own k=some j) (h3:w.heap[k]?=some (.cells cs E (0,0))) (h4:cs.size=shs.length) (h5:ρ.o j=.agg ds) (h6:ds.length=shs.length)
 (h7:∀i s,shs[i]?=some s→(∀gs s',s≠.opt gs s')∧ay C S ρ σ hv s (cs.getD i undef) (ds.getD i .none))
 (l1:news.length=vs.length) (l2:dn.length=vs.length) (hle:off+vs.length≤shs.length)
 (iQ:∀i s,news[i]?=some s→(∀gs s',s≠.opt gs s')∧ay C S ρ σ hv s (vs.getD i undef) (dn.getD i .none)):
 Inv C (S.setO j (.box ag (shs.take off++news++shs.drop (off+vs.length)))) (ρ.setO j (.agg (dL ds off dn))) σ own hv w0 σ0 A a (w.setRow k (cs.toList.take off++vs++cs.toList.drop (off+vs.length)).toArray):=by
 have hkB:w0.heap.size≤k:=(h.owns k j h2).1;obtain⟨b1,b2⟩:=V0 (w:=w) (B:=w0.heap.size) (k:=k) (cs:=(cs.toList.take off++vs++cs.toList.drop (off+vs.length)).toArray) hkB;refine h.updB j _ _ b1 (fun i hi av=>b2 i fun e=>av (e▸h2)) ⟨k,_,E,dL ds off dn,h1,h2,setRow_heap w k cs _ E _ h3,?_,by simp[Env.setO,aI],?_,fun i s hi=>?_⟩
 ·simp[l1];omega
 ·simp[dL,l2,l1];omega
 ·have dD:(cs.toList.take off++vs++cs.toList.drop (off+vs.length)).toArray.getD i undef=if off≤i∧i<off+vs.length then vs.getD (i-off) undef else cs.getD i undef:=by
   have e0:∀l:List Value,l.toArray.getD i undef=l.getD i undef:=fun l=>by simp[Array.getD_eq_getD_getElem?,List.getD_eq_getElem?_getD]
   rw[e0,Bz cs.toList vs off undef (by simp;omega),tc cs i]
  have qX:(dL ds off dn).getD i .none=if off≤i∧i<off+vs.length then dn.getD (i-off) .none else ds.getD i .none:=by
   rw[dL,Bz ds dn off .none (by omega),l2]
  rw[dD,qX];have Qm:∀s v d,(∀gs s',s≠.opt gs s')→ay C S ρ σ hv s v d→ay C (S.setO j (.box ag (shs.take off++news++shs.drop (off+vs.length)))) (ρ.setO j (.agg (dL ds off dn))) σ hv s v d:=
   fun s v d hn hk=>ay.mono' (.refl σ) (Compat.setO _ _ _ _) hn hk
  have ia:(shs.take off++news++shs.drop (off+vs.length))[i]?=if off≤i∧i<off+vs.length then news[i-off]? else shs[i]?:=by
   rw[List.append_assoc,List.getElem?_append,List.length_take,Nat.min_eq_left (by omega)];split
   ·rename_i h;rw[if_neg (by omega),List.getElem?_take,if_pos h]
   ·rename_i h;rw[List.getElem?_append,l1];split
    ·rename_i h2;rw[if_pos (by omega)]
    ·rename_i h2;rw[if_neg (by omega),List.getElem?_drop];congr 1;omega
  rw[ia] at hi;split
  ·rename_i hc;rw[if_pos hc] at hi;obtain⟨g1,g2⟩:=iQ _ s hi;exact⟨g1,Qm _ _ _ g1 g2⟩
  ·rename_i hc;rw[if_neg hc] at hi;obtain⟨g1,g2⟩:=h7 _ s hi;exact⟨g1,Qm _ _ _ g1 g2⟩
theorem amK (h:Inv C S ρ σ own hv w0 σ0 A a w){j:Nat}(hr:j0 (S.o j)=true):(hv j).cells=#[hv j]∧(hv j).oneCell'=true:=by
 have aW:=h.objs j;cases bX:S.o j with
 |row T e=>
  rw[bX] at aW;obtain⟨cells,xs,h1,h2,h3,h4⟩:=aW;obtain⟨b,c,e1,_⟩:=rV h2;rw[e1];exact⟨rfl,rfl⟩
 |mp kt et=>
  rw[bX] at aW;obtain⟨k0,arr,clock,es,h1,_⟩:=aW;rw[h1];exact⟨rfl,rfl⟩
 |_=>rw[bX] at hr;simp[j0] at hr
theorem Inv.storeRow (h:Inv C S ρ σ own hv w0 σ0 A a w){j k n c i p:Nat}{T:TypeId}{e:Ty}{cells vs:List Value}{xs:List D}{v':Value}{d':D}(eo:S.o j=.row T e)(dv:hv j=.slice (some ⟨k,0,none⟩) n c)
 (h1:ρ.o j=.list xs) (h2:w.ownsRow w0.heap.size T e.size (hv j) xs.length cells) (h3:eX C.cap σ e cells xs) (h4:∀k,(hv j).ownBlock=some k→own k=some j) (hi:i<xs.length)
 (yf:i*e.size≤p) (dF:p+vs.length≤i*e.size+e.size) (hr:Rep C.cap σ e v' d')
 (hv':∀q u,v'.cells[q]?=some u→(cells.take p++vs++cells.drop (p+vs.length))[i*e.size+q]?=some u):
 ∃cur,w.heap[k]?=some (.cells cur T (0,0))∧p+vs.length≤cur.size∧Inv C S (ρ.setO j (.list (xs.set i d'))) σ own hv w0 σ0 A a (w.setRow k (cur.toList.take p++vs++cur.toList.drop (p+vs.length)).toArray):=by
 have bh:=h2.1;rcases h2.2 with⟨e0,e1⟩|⟨g,cap,cur,e1,e2,e3,e4,e5,e6,e7⟩
 ·omega
 rw[dv] at e1;cases e1;have af9:i*e.size+e.size≤xs.length*e.size:=by
  have:(i+1)*e.size≤xs.length*e.size:=Nat.mul_le_mul_right _ hi;rw[Nat.add_mul] at this;omega
 have aty:xs.length*e.size≤c*e.size:=Nat.mul_le_mul_right _ e4;have agP:p+vs.length≤cur.size:=by omega
 refine⟨cur,e3,agP,?_⟩;have bz:own k=some j:=h4 k (by rw[dv];rfl);obtain⟨b1,b2⟩:=V0 (w:=w) (B:=w0.heap.size) (k:=k) (cs:=(cur.toList.take p++vs++cur.toList.drop (p+vs.length)).toArray) e2;have QG:(cur.toList.take p++vs++cur.toList.drop (p+vs.length)).take (xs.length*e.size)=cells.take p++vs++cells.drop (p+vs.length):=by
  rw[←e7];apply List.ext_getElem?;intro q;simp only[List.append_assoc,List.getElem?_take,List.getElem?_append,List.length_take,List.getElem?_drop,Array.length_toList];by_cases hq:q<xs.length*e.size
  ·rw[if_pos hq];by_cases hq1:q<p
   ·simp[hq1,Nat.lt_min,show q<cur.size by omega,hq]
   ·by_cases fN:q-p<vs.length
    ·rw[if_neg (by omega),Nat.min_eq_left (by omega),if_pos fN,if_neg (by omega),Nat.min_eq_left (by omega),if_pos fN]
    ·rw[if_neg (by omega),Nat.min_eq_left (by omega),if_neg fN,if_neg (by omega),Nat.min_eq_left (by omega),if_neg fN,if_pos (by omega)]
  ·rw[if_neg hq];have:¬q<p:=by omega
   rw[if_neg (by omega),Nat.min_eq_left (by omega),if_neg (by omega),if_neg (by omega)]
 have:=h.updB j (.row T e) (.list (xs.set i d')) b1 (fun q hq av=>b2 q fun e=>av (e▸bz))
  ⟨cells.take p++vs++cells.drop (p+vs.length),xs.set i d',by simp[Env.setO,aI],⟨by simp;omega,.inr ⟨k,c,_,by rw[dv];simp,e2,setRow_heap w k cur _ T _ e3,by simpa using e4,e5,by simp;omega,by simpa using QG⟩⟩,?_,h4⟩
 ·rw[St.setO_self eo] at this;exact this
 ·obtain⟨us,u1,u2⟩:=h3;refine⟨fun q=>if q=i then v' else us q,fun q x hx=>?_,fun q m u hq hm=>?_⟩
  ·rw[List.getElem?_set] at hx;by_cases tH:i=q
   ·subst tH;simp only[if_true] at hx ⊢;rw[if_pos hi] at hx;cases hx;exact hr
   ·rw[if_neg tH] at hx;simp only[show ¬q=i from fun e=>tH e.symm,if_false];exact u1 q x hx
  ·by_cases tH:q=i
   ·subst tH;simp only[if_true] at hm;exact hv' m u hm
   ·simp only[tH,if_false] at hm;simp only[List.length_set] at hq;have h9:=u2 q m u hq hm;have atM:m<e.size:=by rw[←(u1 q _ (List.getElem?_eq_getElem hq)).size];exact(Array.getElem?_eq_some_iff.1 hm).1
    have gA:q*e.size+m<p∨p+vs.length≤q*e.size+m:=by
     rcases Nat.lt_or_ge q i with ae|eP
     ·left;have:(q+1)*e.size≤i*e.size:=Nat.mul_le_mul_right _ ae;rw[Nat.add_mul] at this;omega
     ·right;have:(i+1)*e.size≤q*e.size:=Nat.mul_le_mul_right _ (by omega);rw[Nat.add_mul] at this;omega
    rw[List.append_assoc,List.getElem?_append,List.length_take,Nat.min_eq_left (by omega)];rcases gA with ho|ho
    ·rw[if_pos ho,List.getElem?_take,if_pos ho];exact h9
    ·rw[if_neg (by omega),List.getElem?_append_right (by omega),List.getElem?_drop];rw[show p+vs.length+(q*e.size+m-p-vs.length)=q*e.size+m by omega];exact h9
theorem ab0 (h:Inv C S ρ σ own hv w0 σ0 A a w)(hC:CtxOK C σ0){T:TypeId}{x v:Operand}{r:St×List PI}(hr:oJ C S T x v=some r){o:Oper}(hd:o.dst=none)(ho:o.op=.store T x v):bA C w0 σ0 Φ S ρ A a w o r:=by
 unfold oJ at hr;split at hr
 case h_2=>cases hr
 rename_i inf hi;obtain⟨dt,_⟩:=sv h (gs:=[]) rfl x;split at hr
 case h_3=>cases hr
 ·rename_i j ver off es;rw[es] at dt;cases hb:Nat.beq ver (S.ver j)<;>simp only[hb,cond_true,cond_false] at hr
  ·cases hr
  obtain⟨k,dv,eg⟩:=dt.2 (Nat.eq_of_beq_eq_true hb);have aW:=h.objs j;split at hr
  case h_2=>cases hr
  rename_i ag shs eo;rw[eo] at aW;obtain⟨k',cs,E,ds,h1,h2,h3,h4,h5,h6,h7⟩:=aW;have cE:=h1;rw[dv] at h1;cases h1;split at hr
  ·rename_i t e hu;have hv':=bD h hC rfl hu;cases hc:(Nat.beq inf.size t.size&&(t.rowT||t.one)&&Nat.ble (off+t.size) shs.length)<;>simp only[hc,cond_true,cond_false] at hr
   ·cases hr
   cases hr;simp only[Bool.and_eq_true,Bool.or_eq_true] at hc;obtain⟨⟨aD,fc⟩,hle⟩:=hc;have aD:=Nat.eq_of_beq_eq_true aD;have hle:=Nat.le_of_ble_eq_true hle;obtain⟨f1,f2,f3⟩:=hv'.flat fc;have ff:=hv'.size;refine bA.skip hd fun ρ' af=>?_;rw[oz af]
   refine⟨_,Fs ho hi eg (by rw[ff,aD]) (fun u hu=>by
        obtain⟨m,hm,rfl⟩:=List.getElem_of_mem hu;exact hv'.cellsOne fc (m:=m) (by simp at hm ⊢)) h3 (by omega),?_⟩
   have cv:=h.storeBox (off:=off) (news:=t.flat.map .dat) (vs:=(a.eval v).cells.toList) (dn:=(e.ev ρ).cells) eo cE h2 h3 h4 h5 h6 h7 (by simp[f1,ff]) (by simp[f2,ff]) (by simp[ff];omega) (fun i s hi=>by
        simp only[List.getElem?_map,Option.map_eq_some_iff] at hi;obtain⟨ti,Ix,rfl⟩:=hi;refine⟨fun _ _ e=>(by cases e),?_⟩;rw[tc];exact(f3 i ti Ix).2)
   have e1:(a.eval v).cells.toList.length=t.size:=by simp[ff]
   rw[e1] at cv;rw[aD];refine⟨σ,own,hv,?_⟩;simpa [PE.ev,h5,D.cells] using cv
  ·split at hr
   case h_2=>cases hr
   rename_i j' kZ eE;obtain⟨Iq,_⟩:=sv h (gs:=[]) rfl v;rw[eE] at Iq;cases hc:(Nat.beq kZ (S.ver j')&&j0 (S.o j')&&Nat.beq inf.size 1&&Nat.blt off shs.length)<;>simp only[hc,cond_true,cond_false] at hr
   ·cases hr
   cases hr;simp only[Bool.and_eq_true] at hc;obtain⟨⟨⟨ahx,eI⟩,aD⟩,ae⟩:=hc;have aD:=Nat.eq_of_beq_eq_true aD;have ae:off<shs.length:=by simpa [Nat.blt_eq] using ae
   have bR:=Iq.2 (Nat.eq_of_beq_eq_true ahx);obtain⟨c1,c2⟩:=amK h eI;have gW:(a.eval v).cells=#[a.eval v]:=by rw[bR];exact c1
   refine bA.skip hd fun ρ' af=>?_;rw[oz af];refine⟨_,Fs ho hi eg (by rw[gW,aD];rfl) (fun u hu=>by rw[gW] at hu;simp at hu;subst hu;rw[bR];exact c2) h3 (by omega),?_⟩
   have cv:=h.storeBox (off:=off) (news:=[.obj j' kZ]) (vs:=[a.eval v]) (dn:=[.none]) eo cE h2 h3 h4 h5 h6 h7 rfl rfl (by simp;omega) (fun i s hi=>by
        match i,hi with
        |0,hi=>simp at hi;subst hi;exact⟨fun _ _ e=>(by cases e),Iq.1,fun _=>by simpa using bR⟩
        |i+1,hi=>simp at hi)
   rw[gW,aD];have e2:shs.take off++[Sh.obj j' kZ]++shs.drop (off+[a.eval v].length)=shs.set off (.obj j' kZ):=by
        rw[List.set_eq_take_append_cons_drop,if_pos ae];simp
   rw[e2] at cv;refine⟨σ,own,hv,?_⟩;simpa [PE.ev,h5,D.cells] using cv
 ·rename_i j ver size off es;rw[es] at dt;cases hb:Nat.beq ver (S.ver j)<;>simp only[hb,cond_true,cond_false] at hr
  ·cases hr
  obtain⟨k,n,c,ik,i,dv,oS,bq,eg⟩:=dt.2 (Nat.eq_of_beq_eq_true hb);have aW:=h.objs j;split at hr
  ·rename_i T' ts t e eo hu;rw[eo] at aW;have hv':=bD h hC rfl hu;cases hc:(Nat.beq inf.size t.size&&(t.rowT||t.one)&&Nat.beq size ts.length&&Nat.ble (off+t.size) ts.length&&Ty.subs t.flat ((ts.drop off).take t.size))<;>simp only[hc,cond_true,cond_false] at hr
   ·cases hr
   cases hr;simp only[Bool.and_eq_true,Bool.or_eq_true] at hc;obtain⟨⟨⟨⟨aD,fc⟩,rn⟩,hle⟩,bQ⟩:=hc;have aD:=Nat.eq_of_beq_eq_true aD;have rn:=Nat.eq_of_beq_eq_true rn;have hle:=Nat.le_of_ble_eq_true hle;obtain⟨f1,f2,f3⟩:=hv'.flat fc;have ff:=hv'.size;have f1:t.flat.length=t.size:=f1;have f2:(e.ev ρ).cells.length=t.size:=f2;have ff:(a.eval v).cells.size=t.size:=ff;obtain⟨cells,xs,k1,k2,k3,k4⟩:=aW;obtain⟨b,c',e1,HO,xU⟩:=rV k2;rw[dv] at e1;cases e1;obtain⟨us,u1,u2⟩:=k3;obtain⟨y,hy⟩:∃y,xs[i]?=some y:=⟨_,List.getElem?_eq_getElem bq⟩
   obtain⟨os,ds,tK,hd0,l1,l2,aJ,dj⟩:=(u1 i y hy).agg_inv;have yr:(a.eval v).cells.toList.length=t.size:=by simp[ff]
   have iQ:Rep C.cap σ (.agg ts) (.agg (os.take off++(a.eval v).cells.toList++os.drop (off+(a.eval v).cells.toList.length)).toArray) (.agg (dL ds off (e.ev ρ).cells)):=by
        refine .agg _ _ _ (by simp[ff];omega) (by simp[dL,f2];omega) (fun m tm hm=>?_) dj;rw[Bz os _ off undef (by rw[yr];omega),dL,Bz ds _ off .none (by rw[f2];omega),yr,f2];split
        ·rename_i hc;have ahf:=Ty.subs_get _ _ bQ (m-off) tm (by
          rw[List.getElem?_take,if_pos (by omega),List.getElem?_drop,show off+(m-off)=m by omega];exact hm)
         obtain⟨tf,htf,cv⟩:=ahf;rw[tc];exact((f3 _ tf htf).2).sub cv
        ·exact aJ m tm hm
   have bh:=k2.1;have af9:i*(Ty.agg ts).size+(Ty.agg ts).size≤xs.length*(Ty.agg ts).size:=by
        have:(i+1)*(Ty.agg ts).size≤xs.length*(Ty.agg ts).size:=Nat.mul_le_mul_right _ bq;rw[Nat.add_mul] at this;omega
   have QH:(Ty.agg ts).size=ts.length:=rfl
   obtain⟨cur,q1,q2,q3⟩:=h.storeRow (i:=i) (p:=i*(Ty.agg ts).size+off) (vs:=(a.eval v).cells.toList) eo dv k1 k2 ⟨us,u1,u2⟩ k4 bq (by omega) (by rw[yr];omega) iQ (fun q u hq=>by
        have cN:(os.take off++(a.eval v).cells.toList++os.drop (off+(a.eval v).cells.toList.length))[q]?=some u:=by simpa [Value.cells] using hq
        have atV:q<ts.length:=by have:=(List.getElem?_eq_some_iff.1 cN).1;simp[ff] at this;omega
        rw[List.append_assoc,List.getElem?_append,List.length_take,Nat.min_eq_left (by omega)] at cN;rw[List.append_assoc,List.getElem?_append,List.length_take,Nat.min_eq_left (by omega)];by_cases mE:q<off
        ·rw[if_pos mE,List.getElem?_take,if_pos mE] at cN;rw[if_pos (by omega),List.getElem?_take,if_pos (by omega)];exact u2 i q u bq (by rw[tK];simpa [Value.cells] using cN)
        ·rw[if_neg mE,List.getElem?_append] at cN;rw[if_neg (by omega),List.getElem?_append];rw[show i*(Ty.agg ts).size+q-(i*(Ty.agg ts).size+off)=q-off by omega];by_cases Ii:q-off<(a.eval v).cells.toList.length
         ·rw[if_pos Ii] at cN ⊢;exact cN
         ·rw[if_neg Ii,List.getElem?_drop] at cN;rw[if_neg Ii,List.getElem?_drop];rw[show off+(a.eval v).cells.toList.length+(q-off-(a.eval v).cells.toList.length)=q by omega] at cN;rw[show i*(Ty.agg ts).size+off+(a.eval v).cells.toList.length+(q-off-(a.eval v).cells.toList.length)=i*(Ty.agg ts).size+q by omega];exact u2 i q u bq (by rw[tK];simpa [Value.cells] using cN))
   refine bA.skip hd fun ρ' af=>?_;rw[oz af]
   refine⟨_,Fs ho hi (cs:=cur) (by rw[eg,rn]) (by rw[ff,aD]) (fun u hu=>by
        obtain⟨m,hm,rfl⟩:=List.getElem_of_mem hu;exact hv'.cellsOne fc (m:=m) (by simp at hm ⊢)) q1 (by rw[yr] at q2;rw[aD,←QH];exact q2),σ,own,hv,?_⟩
   rw[yr] at q3;simp only[PE.ev,k1,D.l_list,oS,D.i_int,Int.toNat_natCast,nz hy,hd0,ql];rw[aD,←QH];exact q3
  ·rename_i T' e0 t e av eo hu;rw[eo] at aW;have hv':=bD h hC rfl hu;cases hc:(Nat.beq inf.size 1&&Nat.beq size 1&&Nat.beq off 0&&e0.one&&Ty.sub t e0)<;>simp only[hc,cond_true,cond_false] at hr
   ·cases hr
   cases hr;simp only[Bool.and_eq_true] at hc;obtain⟨⟨⟨⟨aD,rn⟩,fM⟩,dj⟩,bQ⟩:=hc;have aD:=Nat.eq_of_beq_eq_true aD;have rn:=Nat.eq_of_beq_eq_true rn;have fM:=Nat.eq_of_beq_eq_true fM;subst fM;subst rn;have QK:=hv'.sub bQ;obtain⟨c1,c2⟩:=QK.oneCell dj;have xG:e0.size=1:=by cases e0<;>simp_all [Ty.size,Ty.one]
   obtain⟨cells,xs,k1,k2,k3,k4⟩:=aW;obtain⟨b,c',e1,HO,xU⟩:=rV k2;rw[dv] at e1;cases e1;obtain⟨y,hy⟩:∃y,xs[i]?=some y:=⟨_,List.getElem?_eq_getElem bq⟩
   have bh:=k2.1
   obtain⟨cur,q1,q2,q3⟩:=h.storeRow (i:=i) (p:=i*e0.size) (vs:=[a.eval v]) eo dv k1 k2 k3 k4 bq (Nat.le_refl _) (by rw[xG];simp) QK (fun q u hq=>by
        rw[c1] at hq;have ri:q=0:=by have:=(Array.getElem?_eq_some_iff.1 hq).1;simpa using this
        subst ri;simp at hq;subst hq;have:i*e0.size≤cells.length:=by rw[bh];exact Nat.mul_le_mul_right _ (by omega)
        rw[List.append_assoc,List.getElem?_append_right (by simp;omega)];simp[Nat.min_eq_left this])
   refine bA.skip hd fun ρ' af=>?_;rw[oz af];refine⟨_,Fs ho hi (cs:=cur) (by rw[eg]) (by rw[c1,aD];rfl) (fun u hu=>by rw[c1] at hu;simp at hu;subst hu;exact c2) q1 (by rw[xG] at q2;rw[aD];simpa using q2),σ,own,hv,?_⟩;rw[c1,aD];have IN:ql y 0 (e.ev ρ)=e.ev ρ:=by
        obtain⟨us,u1,u2⟩:=k3;have:=(u1 i y hy).dcells dj;cases y with
        |agg ds=>have h8:=u1 i _ hy;generalize us i=vv at h8;cases h8;simp[Ty.one] at dj
        |_=>rfl
   simp only[PE.ev,k1,D.l_list,oS,D.i_int,Int.toNat_natCast,nz hy,IN];rw[xG] at q3;simpa using q3
  ·cases hr
end
end Cx
namespace Cx
open Go Go.RowKit
section
variable {C:Ctx} {S:St} {ρ:Env} {σ:Im} {own:Nat→Option Nat} {hv:Nat→Value} {w0:World} {σ0:Base} {A:Nat→Prop} {a:Act} {w:World} {gs:List (Nat×Bool)} {Φ:aO} {dst:Nat}
theorem acx {ρ:Env}{es:List PE}{i:Nat}{e:PE}(h:es[i]?=some e):(PE.evs ρ es)[i]?=some (e.ev ρ):=by
 rw[PE.evs_eq,List.getElem?_map,h];rfl
theorem OL (h:Inv C S ρ σ own hv w0 σ0 A a w)(hC:CtxOK C σ0)(hg:holds gs ρ=true){T:TypeId}{len:Nat}{ps:Array (Nat×Operand)}{r:St×List PI}(hr:qJ C S gs dst T len ps.toList=some r){o:Oper}
 (ho:o.op=.buildSlice T len ps):∃(E:TypeId) (e:Ty) (es:List PE) (v:Value) (w':World),C.P.underlying T=some (.slice E)∧kY C.P E=some e∧r=(mkObj S dst (.row E e),[.setO dst (.lst es),.setR dst (.con .none)])∧
   (execOp a.eval o).run C.P w=.ok (.value v) w'∧Below w.heap.size w w'∧(∀k,Nat.beq k w.heap.size=true→w.heap.size≤k∧k<w'.heap.size)∧
   bJ C (S.newO dst (.row E e)) (ρ.setO dst (.list (PE.evs ρ es))) σ (ew own dst (fun k=>Nat.beq k w.heap.size)) (bC hv dst v) w' w0.heap.size dst (.row E e):=by
 unfold qJ at hr;split at hr
 case h_2=>cases hr
 rename_i E hT;simp only[Option.bind_eq_some_iff] at hr;obtain⟨e,he,z,hz,hr⟩:=hr;cases hc:(mm C.P E e&&Ty.sub z.1 e&&gl (ps.toList.map (·.1))&&ps.toList.all (fun p=>Nat.blt p.1 len)&&Nat.ble (len*e.size) 16777216)<;>simp only[hc,cond_true,cond_false] at hr
 ·cases hr
 simp only[Bool.and_eq_true] at hc;obtain⟨⟨⟨⟨hef,bQ⟩,bk⟩,dS⟩,hle⟩:=hc;have hle:=Nat.le_of_ble_eq_true hle;obtain⟨inf,zv,hi,hs,lC,h1,hzv,jq⟩:=GS hef;have nQ:=ND jq;have jU:=j6 bk;have yx:=((sD (cap:=C.cap) (σ:=σ) hz jq).1).sub bQ;simp only[Option.map_eq_some_iff] at hr;obtain⟨es,fL,rfl⟩:=hr;obtain⟨OV,el2⟩:=mapM_some _ _ _ fL;simp only[List.length_range] at OV;have PY:∀i,i<len→∃pe,es[i]?=some pe∧Bn C S gs e z.2 ps.toList i=some pe:=by
  intro i hi;obtain⟨y,hy1,nP⟩:=el2 i i (by rw[List.getElem?_range hi]);exact⟨y,hy1,nP⟩
 have mD:∀x,x∈ps.toList→x.1<len∧∃t pe,use C S gs x.2=some (t,pe)∧Ty.sub t e=true∧es[x.1]?=some pe:=by
  intro x hx;have ry:x.1<len:=by
   have:=List.all_eq_true.1 dS x hx;simpa [Nat.blt_eq] using this
  refine⟨ry,?_⟩;obtain⟨pe,yf,dF⟩:=PY x.1 ry;have xJ:=O7 jU (i:=x.1) (x:=x.2) hx;simp only[Bn,xJ,Option.bind_eq_some_iff] at dF;obtain⟨y,hy,dF⟩:=dF;cases hs:Ty.sub y.1 e<;>simp only[hs,cond_true,cond_false] at dF
  ·cases dF
  cases dF;exact⟨y.1,y.2,hy,hs,yf⟩
 let c0:Array Value:=madeCells zv.cells (len*e.size)
 have xB:c0.size=len*e.size:=size_madeCells _ _
 have jm:∀p,p∈(ps.toList.map fun(x:Nat×Operand)=>(x.1,a.eval x.2))→∃o,(fun i=>some (i*e.size,e.size)) p.1=some (o,p.2.cells.size)∧o+p.2.cells.size≤c0.size:=by
  intro p hp;obtain⟨x,hx,rfl⟩:=List.mem_map.1 hp;obtain⟨ry,t,pe,hu,cv,_⟩:=mD x hx;have pq:=((bD h hC hg hu).sub cv).size;simp only;refine⟨x.1*e.size,by rw[pq],?_⟩;rw[pq,xB];have:(x.1+1)*e.size≤len*e.size:=Nat.mul_le_mul_right _ ry;rw[Nat.add_mul] at this;omega
 have tq:∀(i j oi si oj sj:Nat),i≠j→(fun i=>some (i*e.size,e.size)) i=some (oi,si)→(fun i=>some (i*e.size,e.size)) j=some (oj,sj)→oi+si≤oj∨oj+sj≤oi:=by
  intro i j oi si oj sj av hi hj;simp only[Option.some.injEq,Prod.mk.injEq] at hi hj;obtain⟨rfl,rfl⟩:=hi;obtain⟨rfl,rfl⟩:=hj;rcases Nat.lt_or_ge i j with ae|eP
  ·left;have:(i+1)*e.size≤j*e.size:=Nat.mul_le_mul_right _ ae;rw[Nat.add_mul] at this;omega
  ·right;have:(j+1)*e.size≤i*e.size:=Nat.mul_le_mul_right _ (by omega);rw[Nat.add_mul] at this;omega
 obtain⟨dC,f1,f2,f3,f4⟩:=G2 (fun i=>some (i*e.size,e.size)) (ps.toList.map fun(x:Nat×Operand)=>(x.1,a.eval x.2)) c0 jm tq (by simpa [Function.comp_def] using jU);have af:(execOp a.eval o).run C.P w=.ok (.value (.slice (some ⟨w.heap.size,0,none⟩) len len)) (w.alloc (.cells dC E)):=by
  have n1:¬(len*inf.size>2^24):=by rw[hs];omega
  have Bs:Instr.fill (fun i=>some (i*inf.size,inf.size)) c0 (ps.toList.map fun(x:Nat×Operand)=>(x.1,a.eval x.2))=some dC:=by rw[hs];exact f1
  by_cases h0:len*inf.size=0
  ·have Hv:c0=#[]:=by
        apply Array.eq_empty_of_size_eq_zero;rw[xB,←hs];exact h0
   rw[Hv] at Bs
   have acA:Instr.fill (fun i=>some (i*inf.size,inf.size)) (Array.map (fun _=>default) (Array.range 0)) (ps.toList.map fun(x:Nat×Operand)=>(x.1,a.eval x.2))=some dC:=by
        have:(Array.map (fun _=>(default:Value)) (Array.range 0))=#[]:=by simp
        rw[this];exact Bs
   simp[execOp,ho,Instr.buildSlice,run_underlying hT,Go.sizeOf,run_typeInfo w hi,n1,h0,acA,newRow]
  ·have Hv:c0=(Array.range (len*inf.size)).map (fun x=>zv.cells[x%zv.cells.size]!):=by simp only[c0,madeCells,hs]
   rw[Hv] at Bs;have h00:¬(len=0∨inf.size=0):=by rw[←Nat.mul_eq_zero];exact h0
   simp[execOp,ho,Instr.buildSlice,run_underlying hT,Go.sizeOf,run_typeInfo w hi,n1,h0,h00,zeroValue,hzv,Bs,newRow]
 refine⟨E,e,es,_,_,hT,he,rfl,af,(Below.refl _ _).alloc (Nat.le_refl _) _,fun k hk=>by simp at hk;simp;omega,?_⟩;have fK:(PE.evs ρ es).length=len:=by rw[PE.evs_eq,List.length_map,OV]
 have afV:∀(i:Nat) (x:D),(PE.evs ρ es)[i]?=some x→∃v,Rep C.cap σ e v x∧∀q u,v.cells[q]?=some u→dC.toList[i*e.size+q]?=some u:=by
  intro i x hx;have B5:i<len:=by have:=(List.getElem?_eq_some_iff.1 hx).1;omega
  obtain⟨pe,yf,dF⟩:=PY i B5;rw[acx yf] at hx;cases hx;unfold Bn at dF;split at dF
  ·rename_i p hp;have Qx:=List.mem_of_find?_eq_some hp;have Cl:p.1=i:=by have:=List.find?_some hp;simpa using this
   obtain⟨_,t,pe',hu,cv,pf⟩:=mD p Qx;rw[Cl,yf] at pf;cases pf;have bt:=(bD h hC hg hu).sub cv;refine⟨_,bt,fun q u hq=>?_⟩;have Cm:q<(a.eval p.2).cells.size:=(Array.getElem?_eq_some_iff.1 hq).1;have:=f3 p.1 (a.eval p.2) (p.1*e.size) (List.mem_map.2 ⟨p,Qx,rfl⟩) (by simp[bt.size]) q Cm;rw[Cl] at this;simp[this,hq]
  ·rename_i hp;cases dF;refine⟨zv,yx,fun q u hq=>?_⟩;have Cm:q<zv.cells.size:=(Array.getElem?_eq_some_iff.1 hq).1
   have rh:i∉(ps.toList.map fun(x:Nat×Operand)=>(x.1,a.eval x.2)).map (·.1):=by
        intro cA;simp only[List.map_map,List.mem_map,Function.comp_def] at cA;obtain⟨x,tO,e⟩:=cA;have:=List.find?_eq_none.1 hp x tO;simp[e] at this
   have:=f4 i (i*e.size) e.size rh rfl q (by omega);have h9:c0[i*e.size+q]?=zv.cells[q]?:=by
        simp only[c0];rw[←nQ];exact Rw (by omega) B5 Cm
   simp[this,h9,hq]
 have ff:∃vs:Nat→Value,∀(i:Nat) (x:D),(PE.evs ρ es)[i]?=some x→Rep C.cap σ e (vs i) x∧∀q u,(vs i).cells[q]?=some u→dC.toList[i*e.size+q]?=some u:=by
  have mz:∀i,∃v,∀x,(PE.evs ρ es)[i]?=some x→Rep C.cap σ e v x∧∀q u,v.cells[q]?=some u→dC.toList[i*e.size+q]?=some u:=by
   intro i;cases hx:(PE.evs ρ es)[i]? with
   |none=>exact⟨undef,fun x cD=>by cases cD⟩
   |some x=>
    obtain⟨v,hv⟩:=afV i x hx;exact⟨v,fun y hy=>by cases hy;exact hv⟩
  exact⟨fun i=>Classical.choose (mz i),fun i x hx=>Classical.choose_spec (mz i) x hx⟩
 obtain⟨vs,ff⟩:=ff;have dD:dC.size=len*e.size:=by rw[f2,xB]
 refine⟨dC.toList,PE.evs ρ es,by simp[Env.setO,aI],?_,⟨vs,fun i x hx=>(ff i x hx).1,fun i j u hi hj=>(ff i _ (List.getElem?_eq_getElem hi)).2 j u hj⟩,fun k hk=>by rw[aI] at hk;simp[Value.ownBlock] at hk;simp[ew,hk]⟩;rw[aI,fK];have HL:len≤maxLen:=by
  have:len*1≤len*e.size:=Nat.mul_le_mul_left _ h1;unfold maxLen;omega
 exact⟨by simp[dD],.inr ⟨w.heap.size,len,dC,rfl,h.below.size,heap_alloc_new w _,Nat.le_refl _,HL,dD,by rw[List.take_of_length_le (by simp[dD])]⟩⟩
theorem abC (h:Inv C S ρ σ own hv w0 σ0 A a w)(hC:CtxOK C σ0)(ht:¬A dst)(ae:dst<a.tmps.size){T:TypeId}{len:Nat}{ps:Array (Nat×Operand)}{r:St×List PI}(hr:qJ C S [] dst T len ps.toList=some r){o:Oper}(hd:o.dst=some dst)
 (ho:o.op=.buildSlice T len ps):bA C w0 σ0 Φ S ρ A a w o r:=by
 obtain⟨E,e,es,v,w',_,_,rfl,af,hb,cG,bX⟩:=OL h hC rfl hr ho;refine bA.value hd fun ρ' mG=>⟨_,_,af,?_⟩
 rw[zP mG];exact h.mkObj ht ae (.row E e) _ _ (fun k=>Nat.beq k w.heap.size) hb cG bX
theorem Inv.kill (h:Inv C S ρ σ own hv w0 σ0 A a w)(j:Nat):Inv C (S.newO j .dead) ρ σ own hv w0 σ0 A a w:=by
 have dc:∀i,S.ver i≤(S.newO j .dead).ver i:=by
  intro i;show S.ver i≤bC S.ver j (S.ver j+1) i;rw[eC];by_cases e:i=j
  ·subst e;simp
  ·simp[e]
 have hc:Compat S hv (S.newO j .dead) hv:=⟨dc,fun _ _=>rfl⟩
 refine h.step (·=j) rfl (.refl σ) h.ok (fun _ _ _ hx=>.inl hx) (fun _ _ hx=>.inl hx) (.refl _ _) hc (fun i hi=>⟨by simp[St.newO,ba _ _ hi],rfl,rfl,fun k hk=>⟨hk,rfl⟩⟩) (fun i hi=>?_) h.owns (fun _=>id) (fun t=>.inl ⟨rfl,rfl,rfl⟩) (fun _ _=>rfl) (fun _ _ _=>rfl) (fun k i hk=>.inl ⟨i,hk⟩) (fun i hi=>by subst hi;simp[St.newO,aI]);subst hi;simp only[St.newO,aI];trivial
theorem abO (h:Inv C S ρ σ own hv w0 σ0 A a w)(hC:CtxOK C σ0)(ht:¬A dst)(ae:dst<a.tmps.size)(cT:∀g,g∈gs→A g.1)(hg:holds gs ρ=true){T:TypeId}{len:Nat}{ps:Array (Nat×Operand)}{r:St×List PI}(hr:sU C S gs dst T len ps.toList=some r){o:Oper}(hd:o.dst=some dst)
 (ho:o.op=.buildSlice T len ps):bA C w0 σ0 Φ S ρ A a w o r:=by
 unfold sU at hr;split at hr
 case h_2=>cases hr
 rename_i E q hT hq;simp only[Option.bind_eq_some_iff] at hr;obtain⟨e,he,hr⟩:=hr;obtain⟨E',e',es,v,w',tg,iO,rfl,af,hb,cG,bX⟩:=OL h hC hg hq ho;rw[hT] at tg;cases tg;rw[he] at iO;cases iO;cases hr;refine bA.value hd fun ρ' mG=>⟨_,_,af,?_⟩
 have hρ:ρ'=ρ.setR dst (.list (PE.evs ρ es)):=by simp[PI.runs,PI.run,PE.ev] at mG;exact mG.symm
 subst hρ;have h1:=h.newO dst (.row E e) (.list (PE.evs ρ es)) v (fun k=>Nat.beq k w.heap.size) hb cG bX;obtain⟨σ2,fy,_,h2⟩:=h1.fz dst;have xL:(S.newO dst (.row E e)).fz dst=(S.newO dst (.row E e)).setO dst (.fz (.slice e.rol)):=by
  have:(S.newO dst (.row E e)).o dst=.row E e:=aI _ _ _;unfold St.fz;rw[this]
 rw[xL] at h2;have aW:=h2.objs dst;have e1:((S.newO dst (.row E e)).setO dst (.fz (.slice e.rol))).o dst=.fz (.slice e.rol):=aI _ _ _;rw[e1] at aW;have bt:Rep C.cap σ2 (.slice e.rol) v (.list (PE.evs ρ es)):=by
  have:=aW.2
  rwa [aI,show(ρ.setO dst (.list (PE.evs ρ es))).o dst=.list (PE.evs ρ es) from aI _ _ _] at this
 have h3:Inv C (S.newO dst .dead) ρ σ2 fy (bC hv dst v) w0 σ0 A a w':=by
  refine h2.step (·=dst) rfl (.refl σ2) h2.ok (fun _ _ _ hx=>.inl hx) (fun _ _ hx=>.inl hx) (.refl _ _) ⟨fun i=>Nat.le_refl _,fun _ _=>rfl⟩ (fun i hi=>⟨?_,?_,rfl,fun k hk=>⟨hk,rfl⟩⟩) (fun i hi=>?_) h2.owns (fun _=>id) (fun t=>.inl ⟨rfl,rfl,rfl⟩) (fun _ _=>rfl) (fun _ _ _=>rfl) (fun k i hk=>.inl ⟨i,hk⟩) (fun i hi=>by subst hi;simp[St.newO,aI])
  ·simp[St.newO,St.setO,ba _ _ hi]
  ·simp[Env.setO,ba _ _ hi]
  ·subst hi;simp only[St.newO,aI];trivial
 have hh:holds gs (ρ.setR dst (.list (PE.evs ρ es)))=true:=by rw[yc (t:=dst) fun g hm e=>ht (by rw[←e];exact cT g hm)];exact hg
 cases gs with
 |nil=>exact⟨_,_,_,h3.setReg ht (s:=.dat (.slice e.rol)) bt ae (fun _ _ e=>by cases e)⟩
 |cons g bn=>
  refine⟨_,_,_,h3.setReg ht (s:=.opt (g::bn) (.dat (.slice e.rol))) ⟨fun _=>bt,fun e=>absurd (hh.symm.trans e) (by decide)⟩ ae (fun gs s e=>?_)⟩;cases e;exact⟨cT,fun _ _ e=>by cases e⟩
end
end Cx
