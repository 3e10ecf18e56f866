/-
  Shared texts of this claim.
-/
import Derived.Test.YtkhkejmimnklfaaGreatDoorKAB
import Derived.Laws.OwnMore
import Derived.Lib.ConvBytes
set_option linter.unusedSimpArgs false
set_option linter.unusedVariables false
namespace Cx
open Go Go.RowKit
def mkObj (S:St)(dst:Nat)(ob:Ob):St:=(S.newO dst ob).setR dst (.obj dst (S.ver dst+1))
def mkPtr (S:St)(dst:Nat)(ob:Ob):St:=(S.newO dst ob).setR dst (.ptr dst (S.ver dst+1) 0)
abbrev j4:=Option (St×List PI)
def AB (C:Ctx)(S:St)(dst:Nat)(T:TypeId)(x:Operand):j4:=
 match use C S [] x,C.P.underlying T with
 |some (.nils _,_),some (.slice E)=>(m3 C.P E).map fun e=>(mkObj S dst (.row E e),[.setO dst (.con (.list [])),.setR dst (.con .none)])
 |_,_=>Option.none
def At (C:Ctx)(S:St)(dst:Nat)(T:TypeId):j4:=
 match m3 C.P T,C.P.info? T,nJ C.P T with
 |some t,some inf,some ag=>
  bif qV inf t&&(t.rowT||t.one) then
   (m5 t).map fun z=>(mkPtr S dst (.box ag (z.1.flat.map .dat)),[.setO dst (.con (.agg z.2.cells)),.setR dst (.con .none)])
  else Option.none
 |_,_,_=>Option.none
def Av (C:Ctx)(S:St)(dst:Nat)(T:TypeId)(x:Operand):j4:=
 match use C S [] x,nJ C.P T with
 |some (t,e),some ag=>
  bif t.rowT||t.one then some (mkPtr S dst (.box ag (t.flat.map .dat)),[.setO dst (.mk [e]),.setR dst (.con .none)]) else Option.none
 |_,_=>Option.none
def Ay (C:Ctx)(S:St)(dst:Nat)(T:TypeId)(r:Option Operand):j4:=
 match C.P.underlying T,r with
 |some (.map K E),Option.none=>
  (m3 C.P K).bind fun kt=>(m3 C.P E).map fun et=>(mkObj S dst (.mp kt et),[.setO dst (.con (.map [])),.setR dst (.con .none)])
 |_,_=>Option.none
def Az (C:Ctx)(S:St)(dst:Nat)(T:TypeId)(l c:Operand):j4:=
 match C.P.underlying T,use C S [] l,use C S [] c with
 |some (.slice E),some (.int _,n),some (.int _,m)=>
  (m3 C.P E).bind fun e=>
    bif oH C.P E e then
     (m5 e).bind fun z=>
        bif Ty.sub z.1 e then some (mkObj S dst (.row E e),[.chk (Pl n),.chk (.ci .eql n m),.setO dst (.rep n (.con z.2)),.setR dst (.con .none)]) else Option.none
    else Option.none
 |_,_,_=>Option.none
def AD (C:Ctx)(S:St)(dst:Nat)(T:TypeId)(x:Operand):j4:=
 match C.P.underlying T,fA S [] x with
 |some (.map _ _),.obj j ver=>
  bif Nat.beq ver (S.ver j)&& !Nat.beq j dst then
   match S.o j with
   |.mp kt et=>some (mkObj (S.mv j dst) dst (.it kt et),[.setO dst (.tup [.lst [],.o j]),.setR dst (.con .none)])
   |_=>Option.none
  else Option.none
 |_,_=>Option.none
def Aw (C:Ctx)(S:St)(dst:Nat)(s d:TypeId)(x:Operand):j4:=
 match use C S [] x,C.P.underlying s,C.P.underlying d with
 |some (.str,e),some .string,some (.slice E)=>
  (match C.P.underlying E with
   |some (.int .u8)=>some (S.setR dst (.dat (.slice (.int .u8))),[.chk (.ci .leq (.slen e) (.con (.int lP))),.setR dst (.bytes e)])
   |_=>Option.none)
 |_,_,_=>Option.none
section
variable {C:Ctx} {S:St} {ρ:Env} {σ:Im} {own:Nat→Option Nat} {hv:Nat→Value} {w0:World} {σ0:Base} {A:Nat→Prop} {a:Act} {w:World} {gs:List (Nat×Bool)} {Φ:aR} {dst:Nat}
def bM (C:Ctx)(w0:World)(σ0:Base)(Φ:aR)(S:St)(ρ:Env)(A:Nat→Prop)(a:Act)(w:World)(o:Oper)(r:St×List PI):Prop:=
 ∀ρ',PI.runs Φ r.2 ρ=some ρ'→∀(K:Act→World→Prop) (Q:Exit→Act→World→Prop),(∀a' w',Good C w0 σ0 r.1 ρ' (fun u=>A u∨o.dst=some u) a' w'→a'.tmps.size=a.tmps.size→K a' w')→o.wp C.P a w K Q
theorem size_put (a:Act)(d:Option Tmp)(v:Value):(a.put d v).tmps.size=a.tmps.size:=by
 cases d<;>simp[Act.put]
theorem bM.value {o:Oper}{r:St×List PI}(hd:o.dst=some dst)(hx:∀ρ',PI.runs Φ r.2 ρ=some ρ'→∃v w',(execOp a.eval o).run C.P w=.ok (.value v) w'∧Good C w0 σ0 r.1 ρ' (fun u=>A u∨u=dst) (a.put (some dst) v) w'):bM C w0 σ0 Φ S ρ A a w o r:=by
 intro ρ' aj K Q hK;obtain⟨v,w',h1,h2⟩:=hx ρ' aj;simp only[Oper.wp,h1,Oper.upon,hd];refine hK _ _ ?_ (size_put _ _ _)
 have:(fun u=>A u∨o.dst=some u)=(fun u=>A u∨u=dst):=by
  funext u;rw[hd];simp[eq_comm]
 rw[this];exact h2
theorem bM.skip {o:Oper}{r:St×List PI}(hd:o.dst=none)(hx:∀ρ',PI.runs Φ r.2 ρ=some ρ'→∃w',(execOp a.eval o).run C.P w=.ok .skip w'∧Good C w0 σ0 r.1 ρ' A a w'):bM C w0 σ0 Φ S ρ A a w o r:=by
 intro ρ' aj K Q hK;obtain⟨w',h1,h2⟩:=hx ρ' aj;simp only[Oper.wp,h1,Oper.upon,hd]
 have:(fun u=>A u∨o.dst=some u)=A:=by
  funext u;rw[hd];simp
 rw[this] at hK;exact hK _ _ h2 (size_put _ _ _)
theorem dJ.eff (h:Inv C S ρ σ own hv w0 σ0 A a w)(ht:¬A dst)(ah:dst<a.tmps.size){o:Oper}(hd:o.dst=some dst){s:Sh}{Cp:List PI}(hq:dJ C S ρ σ hv Φ dst a w o (s,Cp)):bM C w0 σ0 Φ S ρ A a w o (S.setR dst s,Cp):=by
 refine bM.value hd fun ρ' aj=>?_;obtain⟨v,d,rfl,h1,h2,h3⟩:=hq ρ' aj;exact⟨v,w,h1,σ,own,hv,h.setReg ht (aI.mono' (.refl σ) (.refl S hv) h3 h2) ah (fun gs s' e=>absurd e (h3 gs s'))⟩
theorem dJ.effG (h:Inv C S ρ σ own hv w0 σ0 A a w)(ht:¬A dst)(ah:dst<a.tmps.size)(dv:∀g,g∈gs→A g.1)(hg:holds gs ρ=true){o:Oper}(hd:o.dst=some dst){s:Sh}{Cp:List PI}(hq:dJ C S ρ σ hv Φ dst a w o (s,Cp)):bM C w0 σ0 Φ S ρ A a w o (S.setR dst (.opt gs s),Cp):=by
 refine bM.value hd fun ρ' aj=>?_;obtain⟨v,d,rfl,h1,h2,h3⟩:=hq ρ' aj;have hh:holds gs (ρ.setR dst d)=true:=by rw[Bz (t:=dst) (d:=d) fun g hm e=>ht (by rw[←e];exact dv g hm)];exact hg
 refine⟨v,w,h1,σ,own,hv,h.setReg ht ⟨fun _=>aI.mono' (.refl σ) (.refl S hv) h3 h2,fun e=>absurd (hh.symm.trans e) (by decide)⟩ ah (fun bu s' e=>?_)⟩;cases e;exact⟨dv,h3⟩
theorem Inv.passed (h:Inv C S ρ σ own hv w0 σ0 A a w)(ht:¬A dst)(ah:dst<a.tmps.size)(dv:∀g,g∈gs→A g.1)(hg:holds gs ρ=false){s:Sh}(hs:∀bu s',s≠.opt bu s')(d:D):Inv C (S.setR dst (.opt gs s)) (ρ.setR dst d) σ own hv w0 σ0 (fun u=>A u∨u=dst) (a.put (some dst) undef) w:=by
 have hh:holds gs (ρ.setR dst d)=false:=by rw[Bz (t:=dst) (d:=d) fun g hm e=>ht (by rw[←e];exact dv g hm)];exact hg
 refine h.setReg ht (s:=.opt gs s) (v:=undef) (d:=d) ⟨fun e=>absurd (hh.symm.trans e) (by decide),fun _=>rfl⟩ ah (fun bu s' e=>?_);cases e;exact⟨dv,hs⟩
theorem Inv.mkObj (h:Inv C S ρ σ own hv w0 σ0 A a w)(ht:¬A dst)(ah:dst<a.tmps.size)(ob:Ob)(d:D)(v:Value)(nb:Nat→Bool){w':World}(hw:Below w.heap.size w w')(cY:∀k,nb k=true→w.heap.size≤k∧k<w'.heap.size)
 (ct:bR C (S.newO dst ob) (ρ.setO dst d) σ (fc own dst nb) (bO hv dst v) w' w0.heap.size dst ob) (lG:ob≠.tr:=by intro h;cases h):
 Good C w0 σ0 (Cx.mkObj S dst ob) ((ρ.setO dst d).setR dst .none) (fun u=>A u∨u=dst) (a.put (some dst) v) w':=by
 have h1:=h.newO dst ob d v nb hw cY ct lG;have h2:=h1.setObj ht (j:=dst) (v:=v) (aP _ _ _) ah;have e:(S.newO dst ob).ver dst=S.ver dst+1:=aP _ _ _;rw[e] at h2;exact⟨_,_,_,h2⟩
theorem Inv.mkPtr (h:Inv C S ρ σ own hv w0 σ0 A a w)(ht:¬A dst)(ah:dst<a.tmps.size)(ob:Ob)(d:D)(k:Nat)(nb:Nat→Bool){w':World}(hw:Below w.heap.size w w')(cY:∀k,nb k=true→w.heap.size≤k∧k<w'.heap.size)
 (ct:bR C (S.newO dst ob) (ρ.setO dst d) σ (fc own dst nb) (bO hv dst (.pointer (some ⟨k,0,none⟩))) w' w0.heap.size dst ob) (lG:ob≠.tr:=by intro h;cases h):
 Good C w0 σ0 (Cx.mkPtr S dst ob) ((ρ.setO dst d).setR dst .none) (fun u=>A u∨u=dst) (a.put (some dst) (.pointer (some ⟨k,0,none⟩))) w':=by
 have h1:=h.newO dst ob d _ nb hw cY ct lG;have e:(S.newO dst ob).ver dst=S.ver dst+1:=aP _ _ _;have h2:=h1.setReg ht (s:=.ptr dst (S.ver dst+1) 0) (v:=.pointer (some ⟨k,0,none⟩)) (d:=.none) ⟨Nat.le_of_eq e.symm,fun _=>⟨k,aP _ _ _,rfl⟩⟩ ah (fun _ _ e=>by cases e);exact⟨_,_,_,h2⟩
theorem Dp {e:PE}{ρ':Env}(h:PI.runs Φ [.setO dst e,.setR dst (.con .none)] ρ=some ρ'):ρ'=(ρ.setO dst (e.ev ρ)).setR dst .none:=by
 simp[PI.runs,PI.run,PE.ev] at h;exact h.symm
theorem VA (h:Inv C S ρ σ own hv w0 σ0 A a w){t:Ty}{v:Value}{d:D}(hr:Rep C.cap σ t v d)(ho:t.rowT=true∨t.one=true)(ag:Bool)(T:TypeId):
 bR C (S.newO dst (.box ag (t.flat.map .dat))) (ρ.setO dst (.agg d.cells)) σ (fc own dst (fun k=>Nat.beq k w.heap.size)) (bO hv dst (.pointer (some ⟨w.heap.size,0,none⟩))) (w.alloc (.cells v.cells T)) w0.heap.size dst (.box ag (t.flat.map .dat)):=by
 obtain⟨f1,f2,f3⟩:=hr.flat ho;refine⟨w.heap.size,v.cells,T,d.cells,aP _ _ _,by simp[fc],heap_alloc_new w _,by rw[hr.size];simp[f1],by simp[Env.setO,aP],by simp[f1,f2],fun i s hi=>?_⟩;simp only[List.getElem?_map,Option.map_eq_some_iff] at hi;obtain⟨ti,OQ,rfl⟩:=hi;exact⟨fun _ _ e=>(by cases e),(f3 i ti OQ).2⟩
theorem ami (h:Inv C S ρ σ own hv w0 σ0 A a w)(hC:CtxOK C σ0)(ht:¬A dst)(ah:dst<a.tmps.size){T:TypeId}{x:Operand}{r:St×List PI}(hr:AB C S dst T x=some r){o:Oper}(hd:o.dst=some dst)(ho:o.op=.assign x):bM C w0 σ0 Φ S ρ A a w o r:=by
 unfold AB at hr;split at hr
 case h_2=>cases hr
 rename_i e0 e1 E hu hT;simp only[Option.map_eq_some_iff] at hr;obtain⟨e,he,rfl⟩:=hr;have hx:=bP h hC rfl hu;have cm:a.eval x=.slice none 0 0:=by
  generalize a.eval x=v at hx;generalize e1.ev ρ=d at hx;cases hx;rfl
 refine bM.value hd fun ρ' aj=>⟨.slice none 0 0,w,by simp[execOp,ho,cm],?_⟩
 rw[Dp aj];exact h.mkObj ht ah (.row E e) _ _ (fun _=>false) (.refl _ _) (by simp) ⟨[],[],by simp[Env.setO,aP,PE.ev],by rw[aP];exact World.ownsRow_nil _ _ _ _,⟨fun _=>undef,by simp,by simp⟩,by rw[aP];simp[Value.ownBlock]⟩
theorem alQ (h:Inv C S ρ σ own hv w0 σ0 A a w)(ht:¬A dst)(ah:dst<a.tmps.size){T:TypeId}{r:St×List PI}(hr:At C S dst T=some r){o:Oper}(hd:o.dst=some dst)(ho:o.op=.alloc T):bM C w0 σ0 Φ S ρ A a w o r:=by
 unfold At at hr;split at hr
 case h_2=>cases hr
 rename_i t inf ag OT hi ha;cases hc:(qV inf t&&(t.rowT||t.one))<;>simp only[hc,cond_true,cond_false] at hr
 ·cases hr
 simp only[Bool.and_eq_true,Bool.or_eq_true] at hc;simp only[Option.map_eq_some_iff] at hr;obtain⟨z,hz,rfl⟩:=hr;obtain⟨v0,ib,xo⟩:∃v0,inf.zero=some v0∧gR t v0=true:=by
  have:=hc.1;unfold qV at this;split at this
  ·exact⟨_,by assumption,this⟩
  ·cases this
 obtain⟨k1,k2,k3⟩:=vS (cap:=C.cap) (σ:=σ) hz xo;have BJ:z.1.rowT=true∨z.1.one=true:=by
  rcases hc.2 with e|e
  ·left;cases t<;>simp[Ty.rowT] at e;simp[m5] at hz;obtain⟨_,_,rfl⟩:=hz;rfl
  ·right;rw[k3];exact e
 refine bM.value hd fun ρ' aj=>⟨.pointer (some ⟨w.heap.size,0,none⟩),w.alloc (.cells v0.cells T),?_,?_⟩
 ·simp[execOp,ho,Instr.alloc,zeroValue,run_typeInfo w hi,ib,newVar,newRow]
 ·rw[Dp aj];exact h.mkPtr ht ah _ _ _ (fun k=>Nat.beq k w.heap.size) ((Below.refl _ _).alloc (Nat.le_refl _) _) (fun k hk=>by simp at hk;simp;omega) (VA h k1 BJ ag T)
theorem alU (h:Inv C S ρ σ own hv w0 σ0 A a w)(hC:CtxOK C σ0)(ht:¬A dst)(ah:dst<a.tmps.size){T:TypeId}{x:Operand}{r:St×List PI}(hr:Av C S dst T x=some r){o:Oper}(hd:o.dst=some dst)(ho:o.op=.box T x):bM C w0 σ0 Φ S ρ A a w o r:=by
 unfold Av at hr;split at hr
 case h_2=>cases hr
 rename_i t e ag hu ha;cases hc:(t.rowT||t.one)<;>simp only[hc,cond_true,cond_false] at hr
 ·cases hr
 cases hr;simp only[Bool.or_eq_true] at hc;have hx:=bP h hC rfl hu;refine bM.value hd fun ρ' aj=>⟨.pointer (some ⟨w.heap.size,0,none⟩),w.alloc (.cells (a.eval x).cells T),?_,?_⟩
 ·simp[execOp,ho,Instr.box,newVar,newRow]
 ·rw[Dp aj];have:(PE.mk [e]).ev ρ=.agg (e.ev ρ).cells:=by simp[PE.ev,PE.evc]
  rw[this];exact h.mkPtr ht ah _ _ _ (fun k=>Nat.beq k w.heap.size) ((Below.refl _ _).alloc (Nat.le_refl _) _) (fun k hk=>by simp at hk;simp;omega) (VA h hx hc ag T)
theorem amc (h:Inv C S ρ σ own hv w0 σ0 A a w)(ht:¬A dst)(ah:dst<a.tmps.size){T:TypeId}{m:Option Operand}{r:St×List PI}(hr:Ay C S dst T m=some r){o:Oper}(hd:o.dst=some dst)(ho:o.op=.makeMap T m):bM C w0 σ0 Φ S ρ A a w o r:=by
 unfold Ay at hr;split at hr
 case h_2=>cases hr
 rename_i K E hT;simp only[Option.bind_eq_some_iff,Option.map_eq_some_iff] at hr;obtain⟨kt,hk,et,he,rfl⟩:=hr;refine bM.value hd fun ρ' aj=>⟨.map (some w.heap.size),w.alloc (.map #[] 0),?_,?_⟩
 ·simp[execOp,ho,Instr.makeMap]
 ·rw[Dp aj]
  exact h.mkObj ht ah (.mp kt et) _ _ (fun k=>Nat.beq k w.heap.size) ((Below.refl _ _).alloc (Nat.le_refl _) _) (fun k hk=>by simp at hk;simp;omega)
   ⟨w.heap.size,#[],0,[],aP _ _ _,by simp[fc],heap_alloc_new w _,by simp[Env.setO,aP,PE.ev],rfl,⟨by simp,by simp[kQ]⟩,by simp⟩
theorem amk (h:Inv C S ρ σ own hv w0 σ0 A a w)(ht:¬A dst)(ah:dst<a.tmps.size){T:TypeId}{x:Operand}{r:St×List PI}(hr:AD C S dst T x=some r){o:Oper}(hd:o.dst=some dst)(ho:o.op=.range T x):bM C w0 σ0 Φ S ρ A a w o r:=by
 unfold AD at hr;split at hr
 case h_2=>cases hr
 rename_i K E j ver hT es;obtain⟨dP,_⟩:=vK h (gs:=[]) rfl x;rw[es] at dP;cases hb:(Nat.beq ver (S.ver j)&& !Nat.beq j dst)<;>simp only[hb,cond_true,cond_false] at hr
 ·cases hr
 simp only[Bool.and_eq_true,Bool.not_eq_true'] at hb;have cm:=dP.2 (Nat.eq_of_beq_eq_true hb.1);have aC:j≠dst:=fun e=>by subst e;simp at hb
 have aZ:=h.objs j;split at hr
 case h_2=>cases hr
 rename_i kt et eo;cases hr;rw[eo] at aZ;obtain⟨m,arr,clock,ds,h1,h2,h3,h4,h5,⟨h6,oO⟩,h7⟩:=aZ;have lE:=h.mv aC (by rw[eo];rfl);have qp:m<w.heap.size:=(Array.getElem?_eq_some_iff.1 h3).1;have N9:w0.heap.size≤m:=(h.owns m j h2).1;refine bM.value hd fun ρ' aj=>⟨.pointer (some ⟨w.heap.size,0,none⟩),w.alloc (.mapIter (some m) clock #[] clock),?_,?_⟩
 ·simp[execOp,ho,Instr.range,cm,h1,run_underlying hT,getObj,Sem.run,h3]
 have hρ:ρ'=((ρ.setO dst (.tup [.list [],.map ds])).setR dst .none):=by
  simp[PI.runs,PI.run,PE.ev,PE.evs,h4] at aj;exact aj.symm
 subst hρ;have eN:Below w.heap.size w (w.alloc (.mapIter (some m) clock #[] clock)):=(Below.refl _ _).alloc (Nat.le_refl _) _;have OM:=lE.step (S':=(S.mv j dst).newO dst (.it kt et)) (ρ':=(ρ.setO dst (.tup [.list [],.map ds]))) (σ':=σ) (hv':=bO (bO hv dst (hv j)) dst (.pointer (some ⟨w.heap.size,0,none⟩)))
  (own':=fun k=>if k=w.heap.size then some dst else(if own k=some j then some dst else if own k=some dst then none else own k)) (a':=a) (A':=A) (w':=w.alloc (.mapIter (some m) clock #[] clock)) (fun i=>i=dst)
  rfl (.refl σ) (h.ok.below eN) (fun _ _ _ hx=>.inl hx) (fun _ _ hx=>.inl hx) (eN.mono h.below.size) ⟨fun i=>?_,fun i e=>?_⟩ (fun i hi=>⟨?_,?_,?_,fun k hk=>⟨?_,?_⟩⟩) (fun i hi=>?_) (fun k i hk=>?_) (fun _=>id) (fun t=>.inl ⟨rfl,rfl,rfl⟩) (fun _ _=>rfl) (fun k hk _=>eN.block k hk) (fun k i hk=>?_) (fun i hi=>by subst hi;simp[St.newO,aP])
 ·have fR:=OM.setObj ht (j:=dst) (v:=.pointer (some ⟨w.heap.size,0,none⟩)) (aP _ _ _) ah;have e:((S.mv j dst).newO dst (.it kt et)).ver dst=(S.mv j dst).ver dst+1:=aP _ _ _;rw[e] at fR;exact⟨_,_,_,fR⟩
 ·simp only[St.newO,fi];split<;>rename_i e
  ·subst e;omega
  ·omega
 ·simp only[St.newO,fi] at e;split at e
  ·rename_i e';subst e';omega
  ·rename_i Og;exact bf _ _ Og
 ·simp[St.newO,bf _ _ hi]
 ·simp[Env.setO,bf _ _ hi]
 ·exact bf _ _ hi
 ·have aFr:=(lE.owns k i hk).2.1;have bN:k≠w.heap.size:=by omega
  simp only[if_neg bN];exact hk
 ·exact eN.block k (lE.owns k i hk).2.1
 ·subst hi;simp only[St.newO,aP];have eB:m≠w.heap.size:=by omega
  refine⟨w.heap.size,m,arr,clock,ds,[],aP _ _ _,by simp,by simp[eB,h2],by omega,?_,heap_alloc_new w _,by simp[Env.setO,aP,fy],List.nodup_nil,by simp,h5,oO,h7⟩;rw[eN.block m qp];exact h3
 ·split at hk
  ·rename_i e;subst e;refine⟨h.below.size,by simp,fun o=>?_,?_⟩
   ·cases hc:σ.c w.heap.size o with
    |none=>rfl
    |some u=>have:=h.lt hc;omega
   ·cases hc:σ.m w.heap.size with
    |none=>rfl
    |some u=>have:=h.ltm hc;omega
  ·obtain⟨g1,g2,g3,g4⟩:=lE.owns k i hk;exact⟨g1,by simp;omega,g3,g4⟩
 ·split at hk
  ·rename_i e;subst e;exact .inr (Nat.le_refl _)
  ·exact .inl ⟨i,hk⟩
theorem alY (h:Inv C S ρ σ own hv w0 σ0 A a w)(hC:CtxOK C σ0)(ht:¬A dst)(ah:dst<a.tmps.size){T U:TypeId}{x:Operand}{r:St×List PI}(hr:Aw C S dst T U x=some r){o:Oper}(hd:o.dst=some dst)(ho:o.op=.convert T U x):bM C w0 σ0 Φ S ρ A a w o r:=by
 unfold Aw at hr;split at hr
 case h_2=>cases hr
 rename_i e E hu hT hU;split at hr
 case h_2=>cases hr
 rename_i hE;cases hr;have hx:=bP h hC rfl hu;obtain⟨s,aN,be,hs⟩:=hx.str_inv;have rN:=Lib.run_convert_string_bytes (P:=C.P) w T U E s hT hU hE;refine bM.value hd fun ρ' aj=>⟨.slice (some ⟨w.heap.size,0,none⟩) s.size (grownCap w s.size 0 E),Lib.bytesWorld w E s,by simp[execOp,ho,aN,rN],?_⟩
 simp only[PI.runs,PI.run,Option.bind_eq_some_iff] at aj;obtain⟨ρ1,g1,ρ2,g2,g3⟩:=aj;cases c1:((PE.ci BinOp.leq (.slen e) (.con (.int lP))).ev ρ).b<;>simp only[c1,cond_true,cond_false] at g1
 ·cases g1
 cases g1;cases g2;cases g3;have arh:s.size≤4294967296:=by
  simp[PE.ev,be,D.s,D.i,D.b,gf,D.int,lP] at c1;omega
 have eN:Below w.heap.size w (Lib.bytesWorld w E s):=⟨rfl,rfl,rfl,by rw[Lib.bytesWorld_size];omega,fun k hk=>Lib.bytesWorld_at_old w E s k hk⟩
 have aK:(Lib.bytesWorld w E s).heap.size=w.heap.size+1:=Lib.bytesWorld_size w E s
 let σ':Im:={c:=fun k i=>if k=w.heap.size then(if i<s.size then some (.int .u8 (s.data.toList.getD i 0).toNat) else none) else σ.c k i,m:=σ.m}
 have hle:σ.le σ':=by
  refine⟨fun k o v hc=>?_,fun k es hc=>hc⟩;have:k≠w.heap.size:=by have:=h.lt hc;omega
  simp[σ',this,hc]
 have au:σ'.ok (Lib.bytesWorld w E s):=by
  refine⟨fun k i v hc=>?_,(h.ok.below eN).m⟩;simp only[σ'] at hc;split at hc
  ·rename_i ek;subst ek;split at hc
   ·rename_i hi;cases hc;exact Lib.bytesWorld_cell w E s i hi
   ·cases hc
  ·exact(h.ok.below eN).c k i v hc
 have h1:=h.step (S':=S) (ρ':=ρ) (σ':=σ') (own':=own) (hv':=hv) (A':=A) (a':=a) (w':=Lib.bytesWorld w E s) (fun _=>False) rfl hle au (fun k i v hc=>?_) (fun k es hc=>.inl hc) (eN.mono h.below.size) ⟨fun _=>Nat.le_refl _,fun _ _=>rfl⟩
  (fun j _=>⟨rfl,rfl,rfl,fun k hk=>⟨hk,eN.block k (h.owns k j hk).2.1⟩⟩) (fun j hj=>hj.elim) (fun k j hk=>?_) (fun _=>id) (fun t=>.inl ⟨rfl,rfl,rfl⟩) (fun _ _=>rfl) (fun k hk _=>eN.block k hk) (fun k i hk=>.inl ⟨i,hk⟩) (fun _ hf=>hf.elim)
 ·refine⟨_,_,_,h1.setReg ht (s:=.dat (.slice (.int .u8))) ?_ ah (fun _ _ e=>by cases e)⟩;show Rep C.cap σ' _ _ _;simp only[PE.ev,be,D.s];refine .slice (.int .u8) w.heap.size 0 s.size _ _ (fun i=>.int .u8 (s.data.toList.getD i 0).toNat) (by simp) (grownCap_ge w s.size 0 E) (grownCap_le_maxLen w s.size 0 E (by unfold maxLen;omega)) (fun i x hx=>?_) (fun i j u hi hu=>?_)
  ·simp only[List.getElem?_map,Option.map_eq_some_iff] at hx;obtain⟨b,hb,rfl⟩:=hx;have:s.data.toList.getD i 0=b:=by simp[List.getD_eq_getElem?_getD,hb]
   rw[this];have:=b.toNat_lt;exact .int .u8 _ (by show(0:Int)≤_;omega) (by show _≤(255:Int);omega)
  ·have hj:j=0:=by
        have:=(Array.getElem?_eq_some_iff.1 hu).1;simp[Value.cells] at this;exact this
   subst hj;simp[Value.cells] at hu;subst hu;simp[σ',Ty.size,hi]
 ·simp only[σ'] at hc;split at hc
  ·rename_i ek;exact .inr ⟨by have:=h.below.size;omega,.inr (by omega)⟩
  ·exact .inl hc
 ·obtain⟨g1,g2,g3,g4⟩:=h.owns k j hk;refine⟨g1,by omega,fun i=>?_,g4⟩;have:k≠w.heap.size:=by omega
  simp[σ',this,g3 i]
end
end Cx
namespace Cx
open Go Go.RowKit
def FL (C:Ctx)(S:St)(gs:List (Nat×Bool))(e:Ty)(z:D)(parts:List (Nat×Operand))(i:Nat):Option PE:=
 match parts.find? (fun p=>Nat.beq p.1 i) with
 |some p=>(use C S gs p.2).bind fun a=>bif Ty.sub a.1 e then some a.2 else Option.none
 |Option.none=>some (PE.con z)
def tR (C:Ctx)(S:St)(gs:List (Nat×Bool))(dst:Nat)(T:TypeId)(len:Nat)(parts:List (Nat×Operand)):j4:=
 match C.P.underlying T with
 |some (.slice E)=>
  (m3 C.P E).bind fun e=>(m5 e).bind fun z=>
    bif oH C.P E e&&Ty.sub z.1 e&&ij (parts.map (·.1))&&parts.all (fun p=>Nat.blt p.1 len)&&Nat.ble (len*e.size) 16777216 then
     ((List.range len).mapM (FL C S gs e z.2 parts)).map fun es=>(mkObj S dst (.row E e),[.setO dst (.lst es),.setR dst (.con .none)])
    else Option.none
 |_=>Option.none
def wv (C:Ctx)(S:St)(gs:List (Nat×Bool))(dst:Nat)(T:TypeId)(len:Nat)(parts:List (Nat×Operand)):j4:=
 match C.P.underlying T,tR C S gs dst T len parts with
 |some (.slice E),some r=>
  (m3 C.P E).bind fun e=>
    match r.2 with
    |.setO _ x::_=>some ((S.newO dst .dead).setR dst (match gs with|[]=>.dat (.slice e.rol)|_=>.opt gs (.dat (.slice e.rol))),[.setR dst x])
    |_=>Option.none
 |_,_=>Option.none
def ri (C:Ctx)(S:St)(T:TypeId)(x v:Operand):j4:=
 match C.P.info? T with
 |some inf=>
  match fA S [] x with
  |.ptr j ver off=>
   bif Nat.beq ver (S.ver j) then
    match S.o j with
    |.box ag shs=>
     match use C S [] v with
     |some (t,e)=>
      bif Nat.beq inf.size t.size&&(t.rowT||t.one)&&Nat.ble (off+t.size) shs.length then
             some (S.setO j (.box ag (shs.take off++t.flat.map .dat++shs.drop (off+t.size))),[.setO j (.setc (.o j) off e)])
      else Option.none
     |Option.none=>
      match fA S [] v with
      |.obj j' m4=>
       bif Nat.beq m4 (S.ver j')&&lM (S.o j')&&Nat.beq inf.size 1&&Nat.blt off shs.length then
              some (S.setO j (.box ag (shs.set off (.obj j' m4))),[.setO j (.setc (.o j) off (.con .none))])
       else Option.none
      |_=>Option.none
    |_=>Option.none
   else Option.none
  |.eptr j ver size off=>
   bif Nat.beq ver (S.ver j) then
    match S.o j,use C S [] v with
    |.row _ (.agg ts),some (t,e)=>
     bif Nat.beq inf.size t.size&&(t.rowT||t.one)&&Nat.beq size ts.length&&Nat.ble (off+t.size) ts.length&&Ty.subs t.flat ((ts.drop off).take t.size) then
         some (S,[.setO j (.setn (.o j) (sP x) off e)])
     else Option.none
    |.row _ e0,some (t,e)=>
     bif Nat.beq inf.size 1&&Nat.beq size 1&&Nat.beq off 0&&e0.one&&Ty.sub t e0 then some (S,[.setO j (.setn (.o j) (sP x) 0 e)]) else Option.none
    |_,_=>Option.none
   else Option.none
  |_=>Option.none
 |Option.none=>Option.none
def p7 (C:Ctx)(S:St)(T:TypeId)(m k v:Operand):j4:=
 match C.P.underlying T,fA S [] m with
 |some (.map K _),.obj j ver=>
  bif Nat.beq ver (S.ver j) then
   match S.o j,use C S [] k,use C S [] v with
   |.mp kt et,some (tk,ek),some (tv,ev)=>
    bif Ty.beq tk kt&&rX C.P K kt&&Ty.sub tv et then some (S,[.chk (.ci .lss (.mlen (.o j)) (.con (.int lP))),.setO j (.put (.o j) ek ev)]) else Option.none
   |_,_,_=>Option.none
  else Option.none
 |_,_=>Option.none
def G9 (x y:PE):PE:=.ci .leq (.llen (.app x y)) (.con (.int lP))
def Lj:Ty→Ty→Bool
 |.slice e',e=>Ty.beq e'.unf e
 |.nils _,_=>true
 |_,_=>false
def Au (C:Ctx)(S:St)(dst:Nat)(T:TypeId)(s x:Operand):j4:=
 match C.P.underlying T with
 |some (.slice E)=>
  (m3 C.P E).bind fun e=>
    match view C S [] x with
    |some (tx,ex)=>
     bif oH C.P E e&&Lj tx e then
        match use C S [] s with
        |some (.nils _,_)=>some (mkObj S dst (.row E e),[.chk (G9 (.con (.list [])) ex),.setO dst (.app (.con (.list [])) ex),.setR dst (.con .none)])
        |some _=>Option.none
        |Option.none=>
         match fA S [] s with
         |.obj j ver=>
          bif Nat.beq ver (S.ver j) then
             match S.o j with
             |.row E' e'=>
              bif Nat.beq E' E&&Ty.beq e' e then
                some ((S.newO j (.row E e)).setR dst (.obj j (S.ver j+1)),[.chk (G9 (.o j) ex),.setO j (.app (.o j) ex),.setR dst (.con .none)])
              else Option.none
             |_=>Option.none
          else Option.none
         |_=>Option.none
     else Option.none
    |Option.none=>Option.none
 |_=>Option.none
theorem Nf {P:Program}{T:TypeId}{e:Ty}(h:oH P T e=true):∃inf z,P.info? T=some inf∧inf.size=e.size∧inf.bytes≤uZ∧1≤e.size∧inf.zero=some z∧gR e z=true:=by
 unfold oH at h;split at h
 ·rename_i i hi;simp only[Bool.and_eq_true] at h;have h4:=h.2;unfold qV at h4;split at h4
  ·rename_i z hz;exact⟨i,z,hi,Nat.eq_of_beq_eq_true h.1.1.1,Nat.le_of_ble_eq_true h.1.1.2,Nat.le_of_ble_eq_true h.1.2,hz,h4⟩
  ·cases h4
 ·cases h
theorem UY {e:Ty}{z:Value}(h:gR e z=true):z.cells.size=e.size:=by
 cases e with
 |agg ts=>
  cases z with
  |agg vs=>simp only[gR] at h;have:=(UZ ts vs.toList h).1;simpa [Value.cells,Ty.size] using this
  |_=>simp[gR] at h
 |_=>cases z<;>simp_all [gR,vR,Value.cells,Ty.size]
theorem ale {ρ:Env}{x y:PE}(h:((PE.ci .lss x y).ev ρ).b=true):(x.ev ρ).i<(y.ev ρ).i:=by
 simpa [PE.ev,D.b_bool,gf] using h
theorem VQ {ρ:Env}{x y:PE}(h:((PE.ci .leq x y).ev ρ).b=true):(x.ev ρ).i≤(y.ev ρ).i:=by
 simpa [PE.ev,D.b_bool,gf] using h
theorem atb {n:Nat}(h:(n:Int)<lP):n<4294967296:=by unfold lP at h;omega
theorem YK {n:Nat}(h:(n:Int)≤lP):n≤4294967296:=by unfold lP at h;omega
theorem St.setO_self {S:St}{j:Nat}{ob:Ob}(h:S.o j=ob):S.setO j ob=S:=by
 have:bO S.o j ob=S.o:=by
  funext i;rw[fi];split
  ·rename_i e;subst e;exact h.symm
  ·rfl
 cases S;simp only[St.setO] at this ⊢;rw[this]
section
variable {C:Ctx} {S:St} {ρ:Env} {σ:Im} {own:Nat→Option Nat} {hv:Nat→Value} {w0:World} {σ0:Base} {A:Nat→Prop} {a:Act} {w:World} {gs:List (Nat×Bool)} {Φ:aR} {dst:Nat}
theorem Inv.updO (h:Inv C S ρ σ own hv w0 σ0 A a w)(j:Nat)(ob:Ob)(d:D)(v:Value)(nb:Nat→Bool){w':World}(hw:Below w0.heap.size w w')
 (qk:∀k,k<w.heap.size→own k≠some j→w'.heap[k]?=w.heap[k]?) (cY:∀k,nb k=true→(own k=some j∨w.heap.size≤k)∧k<w'.heap.size)
 (ct:bR C (S.newO j ob) (ρ.setO j d) σ (fc own j nb) (bO hv j v) w' w0.heap.size j ob) (lG:ob≠.tr:=by intro h;cases h):Inv C (S.newO j ob) (ρ.setO j d) σ (fc own j nb) (bO hv j v) w0 σ0 A a w':=by
 have aK:w0.heap.size≤w.heap.size:=h.below.size;have bE:∀k i,i≠j→own k=some i→fc own j nb k=some i:=by
  intro k i hi hk;have h1:=h.owns k i hk;have h2:nb k=false:=by
   cases hn:nb k with
   |false=>rfl
   |true=>
    rcases(cY k hn).1 with e|e
    ·rw[hk] at e;simp at e;exact absurd e hi
    ·omega
  simp[fc,h2,hk,hi]
 have au:σ.ok w':=by
  refine⟨fun k o u hc=>?_,fun k es hc=>?_⟩
  ·have aC:own k≠some j:=fun e=>by rw[(h.owns k j e).2.2.1 o] at hc;cases hc
   rw[World.cell?_of_block (qk k (h.lt hc) aC)];exact h.ok.c k o u hc
  ·have aC:own k≠some j:=fun e=>by rw[(h.owns k j e).2.2.2] at hc;cases hc
   exact(h.ok.m k es hc).keep (qk k (h.ltm hc) aC)
 refine h.step (fun i=>i=j) rfl (.refl σ) au (fun _ _ _ hx=>.inl hx) (fun _ _ hx=>.inl hx) hw ⟨fun i=>?_,fun i e=>?_⟩ (fun i hi=>⟨?_,?_,?_,fun k hk=>⟨bE k i hi hk,?_⟩⟩) (fun i hi=>?_) (fun k i hk=>?_) (fun _=>id) (fun t=>.inl ⟨rfl,rfl,rfl⟩) (fun _ _=>rfl) (fun k hk e=>qk k hk (by rw[e];simp)) (fun k i hk=>by
  unfold fc at hk;split at hk
  ·rename_i hn;rcases(cY k hn).1 with e|e
   ·exact .inl ⟨j,e⟩
   ·exact .inr e
  ·split at hk
   ·cases hk
   ·exact .inl ⟨i,hk⟩) (fun i hi=>by subst hi;simpa only[St.newO,aP] using lG)
 ·simp only[St.newO,fi];split<;>rename_i e
  ·subst e;omega
  ·omega
 ·simp only[St.newO,fi] at e;split at e
  ·rename_i e';subst e';omega
  ·rename_i aC;exact bf _ _ aC
 ·simp[St.newO,bf _ _ hi]
 ·simp[Env.setO,bf _ _ hi]
 ·exact bf _ _ hi
 ·exact qk k (h.owns k i hk).2.1 (by rw[hk];simpa using hi)
 ·subst hi;simp only[St.newO,aP];exact ct
 ·unfold fc at hk;split at hk
  ·rename_i hn;obtain⟨g1,g2⟩:=cY k hn;rcases g1 with e|e
   ·obtain⟨f1,f2,f3,f4⟩:=h.owns k j e;exact⟨f1,g2,f3,f4⟩
   ·refine⟨by omega,g2,fun o=>?_,?_⟩
    ·cases hc:σ.c k o with
     |none=>rfl
     |some u=>have:=h.lt hc;omega
    ·cases hc:σ.m k with
     |none=>rfl
     |some u=>have:=h.ltm hc;omega
  ·split at hk
   ·cases hk
   ·obtain⟨g1,g2,g3,g4⟩:=h.owns k i hk;exact⟨g1,by have:=hw.size;omega,g3,g4⟩
theorem Inv.updB (h:Inv C S ρ σ own hv w0 σ0 A a w)(j:Nat)(ob:Ob)(d:D){w':World}(hw:Below w0.heap.size w w')
 (qk:∀k,k<w.heap.size→own k≠some j→w'.heap[k]?=w.heap[k]?)
 (ct:bR C (S.setO j ob) (ρ.setO j d) σ own hv w' w0.heap.size j ob) (lG:ob≠.tr:=by intro h;cases h):Inv C (S.setO j ob) (ρ.setO j d) σ own hv w0 σ0 A a w':=by
 have au:σ.ok w':=by
  refine⟨fun k o u hc=>?_,fun k es hc=>?_⟩
  ·have aC:own k≠some j:=fun e=>by rw[(h.owns k j e).2.2.1 o] at hc;cases hc
   rw[World.cell?_of_block (qk k (h.lt hc) aC)];exact h.ok.c k o u hc
  ·have aC:own k≠some j:=fun e=>by rw[(h.owns k j e).2.2.2] at hc;cases hc
   exact(h.ok.m k es hc).keep (qk k (h.ltm hc) aC)
 refine h.step (fun i=>i=j) rfl (.refl σ) au (fun _ _ _ hx=>.inl hx) (fun _ _ hx=>.inl hx) hw (Compat.setO _ _ _ _) (fun i hi=>⟨by simp[St.setO,bf _ _ hi],by simp[Env.setO,bf _ _ hi],rfl,fun k hk=>⟨hk,qk k (h.owns k i hk).2.1 (by rw[hk];simpa using hi)⟩⟩) (fun i hi=>?_) (fun k i hk=>?_) (fun _=>id) (fun t=>.inl ⟨rfl,rfl,rfl⟩) (fun _ _=>rfl) (fun k hk e=>qk k hk (by rw[e];simp)) (fun k i hk=>.inl ⟨i,hk⟩) (fun i hi=>by subst hi;rw[St.setO_o];exact lG)
 ·subst hi;rw[St.setO_o];exact ct
 ·obtain⟨g1,g2,g3,g4⟩:=h.owns k i hk;exact⟨g1,by have:=hw.size;omega,g3,g4⟩
theorem WL {B:Nat}{w w':World}{row:Option Nat}(hg:w.grownBy w' row)(hB:B≤w.heap.size)(hr:∀k,row=some k→B≤k):Below B w w':=(Below.refl B w).grown hg hB hr
theorem Za {z:Array Value}{n i q:Nat}(hz:0<z.size)(hi:i<n)(hq:q<z.size):(madeCells z (n*z.size))[i*z.size+q]?=z[q]?:=by
 have ah:i*z.size+q<n*z.size:=by
  have:(i+1)*z.size≤n*z.size:=Nat.mul_le_mul_right _ hi;rw[Nat.add_mul] at this;omega
 have hm:(i*z.size+q)%z.size=q:=by rw[Nat.add_comm,Nat.add_mul_mod_self_right,Nat.mod_eq_of_lt hq]
 simp[madeCells,Array.getElem?_range,ah,hm,hq]
theorem ame (h:Inv C S ρ σ own hv w0 σ0 A a w)(hC:CtxOK C σ0)(ht:¬A dst)(ah:dst<a.tmps.size){T:TypeId}{l c:Operand}{r:St×List PI}(hr:Az C S dst T l c=some r){o:Oper}(hd:o.dst=some dst)(ho:o.op=.makeSlice T l c):bM C w0 σ0 Φ S ρ A a w o r:=by
 unfold Az at hr;split at hr
 case h_2=>cases hr
 rename_i E k1 n k2 m hT hl hc;simp only[Option.bind_eq_some_iff] at hr;obtain⟨e,he,hr⟩:=hr;cases hf:oH C.P E e<;>simp only[hf,cond_true,cond_false] at hr
 ·cases hr
 obtain⟨inf,z0,hi,hs,hb,h1,hz,kq⟩:=Nf hf;simp only[Option.bind_eq_some_iff] at hr;obtain⟨z,hzt,hr⟩:=hr;cases bZ:Ty.sub z.1 e<;>simp only[bZ,cond_true,cond_false] at hr
 ·cases hr
 cases hr;obtain⟨n1,aN,be,b1,b2⟩:=(bP h hC rfl hl).int_inv;obtain⟨n2,fH,df,b3,b4⟩:=(bP h hC rfl hc).int_inv;simp only at be df;have BU:=((vS (cap:=C.cap) (σ:=σ) hzt kq).1).sub bZ;refine bM.value hd fun ρ' aj=>?_;simp only[PI.runs,PI.run,Option.bind_eq_some_iff] at aj;obtain⟨ρ1,g1,ρ2,g2,aj⟩:=aj;cases c1:((Pl n).ev ρ).b<;>simp only[c1,cond_true,cond_false] at g1
 ·cases g1
 cases g1;cases c2:((PE.ci BinOp.eql n m).ev ρ).b<;>simp only[c2,cond_true,cond_false] at g2
 ·cases g2
 cases g2;have arw:n1=n2:=by simpa [PE.ev,be,df,D.i_int,D.b_bool,gf] using c2
 subst arw;have hb:0≤n1∧n1≤lP:=by simpa [Pl,PE.ev,be,D.i_int,D.b_bool,gf,D.int] using c1
 obtain⟨nn,rfl⟩:=Int.eq_ofNat_of_zero_le hb.1;have Bv:nn≤4294967296:=by have:=hb.2;unfold lP at this;omega
 have qu:z0.cells.size=e.size:=UY kq;obtain⟨w',r1,r2,r3⟩:=run_make_full (P:=C.P) w w0.heap.size T E inf z0 e.size hT hi hz hs k1 k2 nn (by
  have:inf.bytes*nn≤uZ*4294967296:=Nat.mul_le_mul (by assumption) Bv;unfold uZ at this;omega) (by unfold maxLen;omega) h.below.size
 refine⟨.slice (some ⟨w.heap.size,0,none⟩) nn nn,w',by simp[execOp,ho,aN,fH,r1],?_⟩;obtain⟨ρ3,g3,ρ4,g4,g5⟩:=aj;cases g3;cases g4;cases g5;simp only[PE.ev,be,D.i_int,Int.toNat_natCast];have hlen:(List.replicate nn z.2).length=nn:=by simp
 refine h.mkObj ht ah (.row E e) _ _ (fun k=>Nat.beq k w.heap.size) (WL r3 (Nat.le_refl _) (by simp)) (fun k hk=>?_) ⟨_,List.replicate nn z.2,by simp[Env.setO,aP],by rw[aP,hlen];exact r2,⟨fun _=>z0,fun i x hx=>?_,fun i j u hi hj=>?_⟩,fun k hk=>?_⟩
 ·have bN:k=w.heap.size:=Nat.eq_of_beq_eq_true hk;have:=(r2.lt _ rfl).2;subst bN;exact⟨Nat.le_refl _,this⟩
 ·have:=(List.getElem?_eq_some_iff.1 hx)
  obtain⟨q1,q2⟩:=this;simp at q2;subst q2;exact BU
 ·rw[hlen] at hi;have cg:j<z0.cells.size:=(Array.getElem?_eq_some_iff.1 hj).1;rw[Array.getElem?_toList,←qu];rw[Za (by omega) hi cg];exact hj
 ·rw[aP] at hk;simp[Value.ownBlock] at hk;simp[fc,hk]
theorem kQ.push {arr:Array MapEntry}{clock:Nat}(h:kQ arr clock)(k v:Value):kQ (arr.push {key:=k,val:=v,born:=clock}) (clock+1):=by
 have key:∀(i:Nat) (e:MapEntry),(arr.push {key:=k,val:=v,born:=clock})[i]?=some e→(arr[i]?=some e∧e.born<clock)∨(i=arr.size∧e.born=clock):=by
  intro i e he;rw[Array.getElem?_push] at he;split at he
  ·rename_i hi;cases he;exact .inr ⟨hi,rfl⟩
  ·exact .inl ⟨he,h.1 i e he⟩
 refine⟨fun i e he=>?_,fun i j e f he hf hb=>?_⟩
 ·rcases key i e he with⟨_,h1⟩|⟨_,h1⟩<;>omega
 ·rcases key i e he with⟨h1,h2⟩|⟨h1,h2⟩<;>rcases key j f hf with⟨h3,h4⟩|⟨h3,h4⟩
  ·exact h.2 i j e f h1 h3 hb
  ·omega
  ·omega
  ·omega
theorem kQ.modify {arr:Array MapEntry}{clock:Nat}(h:kQ arr clock)(i0:Nat)(k v:Value):kQ (arr.modify i0 fun e=>{e with key:=k,val:=v}) clock:=by
 have key:∀(i:Nat) (e:MapEntry),(arr.modify i0 fun e=>{e with key:=k,val:=v})[i]?=some e→∃e',arr[i]?=some e'∧e'.born=e.born:=by
  intro i e he;rw[Array.getElem?_modify] at he;split at he
  ·simp only[Option.map_eq_some_iff] at he;obtain⟨e',h1,rfl⟩:=he;exact⟨e',h1,rfl⟩
  ·exact⟨e,he,rfl⟩
 refine⟨fun i e he=>?_,fun i j e f he hf hb=>?_⟩
 ·obtain⟨e',h1,h2⟩:=key i e he;rw[←h2];exact h.1 i e' h1
 ·obtain⟨e',h1,h2⟩:=key i e he;obtain⟨f',h3,h4⟩:=key j f hf;exact h.2 i j e' f' h1 h3 (by rw[h2,h4,hb])
theorem Wf (h:Inv C S ρ σ own hv w0 σ0 A a w)(hC:CtxOK C σ0){T:TypeId}{m k v:Operand}{r:St×List PI}(hr:p7 C S T m k v=some r){o:Oper}(hd:o.dst=none)(ho:o.op=.mapUpdate T m k v∨o.op=.insert T m k v):bM C w0 σ0 Φ S ρ A a w o r:=by
 unfold p7 at hr;split at hr
 case h_2=>cases hr
 rename_i K E j ver hT es;obtain⟨dP,_⟩:=vK h (gs:=[]) rfl m;rw[es] at dP;cases hb:Nat.beq ver (S.ver j)<;>simp only[hb,cond_true,cond_false] at hr
 ·cases hr
 have cm:=dP.2 (Nat.eq_of_beq_eq_true hb);have aZ:=h.objs j;split at hr
 case h_2=>cases hr
 rename_i kt et tk ek tv ev eo hk uN;rw[eo] at aZ;cases hc:(Ty.beq tk kt&&rX C.P K kt&&Ty.sub tv et)<;>simp only[hc,cond_true,cond_false] at hr
 ·cases hr
 cases hr;simp only[Bool.and_eq_true] at hc;obtain⟨⟨GA,Bl⟩,bZ⟩:=hc;obtain⟨g,arr,clock,ds,h1,h2,h3,h4,h5,⟨h6,oO⟩,h7⟩:=aZ;have bN:=bP h hC rfl hk;rw[Ty.beq_eq _ _ GA] at bN;have hv':=(bP h hC rfl uN).sub bZ;refine bM.skip hd fun ρ' aj=>?_;simp only[PI.runs,PI.run,Option.bind_eq_some_iff] at aj;obtain⟨ρ1,g1,ρ2,g2,g3⟩:=aj;cases c1:((PE.ci BinOp.lss (.mlen (.o j)) (.con (.int lP))).ev ρ).b<;>simp only[c1,cond_true,cond_false] at g1
 ·cases g1
 cases g1;cases g2;cases g3;have arh:ds.length<4294967296:=by
  have h8:=ale c1;simp only[PE.ev,h4,D.m,D.i_int,D.int] at h8;exact atb h8
 have gA:(Instr.checkKey false 10000 K (a.eval k)).run C.P w=.ok () w:=VP (cap:=C.cap) (σ:=σ) Bl bN;have jR:∃qY we ds',(Instr.mapUpdate T (a.eval m) (a.eval k) (a.eval v)).run C.P w=.ok () {w with heap:=w.heap.setIfInBounds g (.map qY we)}∧dZ (ek.ev ρ) (ev.ev ρ) ds=ds'∧ds'.length=qY.size∧(ds'.length≤maxLen∧kQ qY we)∧
  ∀(i:Nat) (e:MapEntry) (p:D×D),qY[i]?=some e→ds'[i]?=some p→Rep C.cap σ kt e.key p.1∧Rep C.cap σ et e.val p.2:=by
  rcases run_findKey Bl bN arr ds h5 h7 w with⟨f1,f2,f3⟩|⟨i,e,p,f1,f2,f3,f4,f5,f6⟩
  ·refine⟨arr.push {key:=a.eval k,val:=a.eval v,born:=clock},clock+1,ds++[(ek.ev ρ,ev.ev ρ)],?_,f3 _,by simp[h5],⟨by simp;unfold maxLen;omega,oO.push _ _⟩,fun q e p he hp=>?_⟩
   ·rw[cm,h1];simp[Instr.mapUpdate,run_underlying hT,getObj,Sem.run,h3,gA,f1,setObj]
   ·rw[Array.getElem?_push] at he;rw[List.getElem?_append] at hp;by_cases hq:q=arr.size
    ·subst hq;simp at he;rw[if_neg (by omega)] at hp;simp[h5] at hp;subst he;subst hp;exact⟨bN,hv'⟩
    ·rw[if_neg hq] at he;have GO:q<arr.size:=(Array.getElem?_eq_some_iff.1 he).1;rw[if_pos (by omega)] at hp;exact h7 q e p he hp
  ·refine⟨arr.modify i fun e=>{e with key:=a.eval k,val:=a.eval v},clock,ds.set i (ek.ev ρ,ev.ev ρ),?_,f5 _,by simp[h5],⟨by simp;exact h6,oO.modify _ _ _⟩,fun q e' p' he hp=>?_⟩
   ·rw[cm,h1];have cu:(Instr.keyThatStays e.key (a.eval k)).run C.P w=.ok (a.eval k) w:=by simp[Instr.keyThatStays,f6]
    simp[Instr.mapUpdate,run_underlying hT,getObj,Sem.run,h3,gA,f3,f1,cu,setObj]
   ·rw[Array.getElem?_modify] at he;rw[List.getElem?_set] at hp;by_cases hq:i=q
    ·subst hq;simp only[if_true] at he hp;rw[f1] at he;simp at he;split at hp
     ·cases hp;subst he;exact⟨bN,hv'⟩
     ·cases hp
    ·rw[if_neg hq] at he hp;exact h7 q e' p' he hp
 obtain⟨qY,we,ds',r1,r2,r3,r4,r5⟩:=jR;refine⟨{w with heap:=w.heap.setIfInBounds g (.map qY we)},by rcases ho with ho|ho<;>simp[execOp,ho,r1],?_⟩;have Xp:g<w.heap.size:=(Array.getElem?_eq_some_iff.1 h3).1;have hgB:w0.heap.size≤g:=(h.owns g j h2).1;have bA:(PE.put (.o j) ek ev).ev ρ=.map ds':=by simp only[PE.ev,h4,D.m,r2]
 rw[bA]
 have:=h.updB j (.mp kt et) (.map ds') (w':={w with heap:=w.heap.setIfInBounds g (.map qY we)}) ⟨rfl,rfl,rfl,by simp,fun k hk=>by simp;rw[Array.getElem?_setIfInBounds_ne (by omega)]⟩
  (fun k hk aC=>by simp;rw[Array.getElem?_setIfInBounds_ne (fun e=>aC (by rw[←e];exact h2))])
  ⟨g,qY,we,ds',h1,h2,by simp[Xp],by simp[Env.setO,aP],r3,r4,r5⟩
 have eS:S.setO j (.mp kt et)=S:=St.setO_self eo;rw[eS] at this;exact⟨_,_,_,this⟩
end
end Cx
namespace Cx
open Go Go.RowKit
theorem aAk {e:Ty}{z:Value}(h:gR e z=true):e.rowT=true∨e.one=true:=by
 cases e<;>first|exact .inl rfl|exact .inr rfl|(cases z<;>simp[gR,vR] at h)
theorem Rep.cellsOne {cap:Nat→Option CSig}{σ:Im}{t:Ty}{v:Value}{d:D}(h:Rep cap σ t v d)(ht:t.rowT=true∨t.one=true){m:Nat}{u:Value}(hu:v.cells[m]?=some u):u.oneCell'=true:=by
 obtain⟨f1,f2,f3⟩:=h.flat ht;have ah:m<v.cells.size:=(Array.getElem?_eq_some_iff.1 hu).1;rw[h.size] at ah;obtain⟨g1,g2⟩:=f3 m _ (List.getElem?_eq_getElem (by omega:m<t.flat.length));have:=(g2.oneCell g1).2;rw[Array.getD_eq_getD_getElem?,hu] at this;exact this
theorem amD {cap:Nat→Option CSig}{σ:Im}{e:Ty}{cells:List Value}{xs:List D}(h:fL cap σ e cells xs)(hl:cells.length=xs.length*e.size)(fS:e.rowT=true∨e.one=true):∀u∈cells,u.oneCell'=true:=by
 obtain⟨vs,h1,h2⟩:=h;intro u hu;obtain⟨p,hp,rfl⟩:=List.getElem_of_mem hu;rw[hl] at hp;have hs:0<e.size:=Nat.pos_of_ne_zero fun e0=>by rw[e0] at hp;simp at hp
 have hi:p/e.size<xs.length:=(Nat.div_lt_iff_lt_mul hs).2 hp;have hq:p%e.size<e.size:=Nat.mod_lt _ hs;have bI:=h1 _ _ (List.getElem?_eq_getElem hi);have aK:=bI.size;have nB:(vs (p/e.size)).cells[p%e.size]?=some (vs (p/e.size)).cells[p%e.size]:=Array.getElem?_eq_getElem (by omega);have:=h2 _ _ _ hi nB;rw[Nat.mul_comm,Nat.div_add_mod] at this;have h3:cells[p]=(vs (p/e.size)).cells[p%e.size]:=by
  have h4:=List.getElem?_eq_getElem (show p<cells.length by omega);rw[h4] at this;exact Option.some.inj this
 rw[h3];exact bI.cellsOne fS nB
theorem amC {cap:Nat→Option CSig}{σ:Im}{e:Ty}{c1 c2:List Value}{xs ys:List D}(h:fL cap σ e c1 xs)(k:fL cap σ e c2 ys)(hl:c1.length=xs.length*e.size):fL cap σ e (c1++c2) (xs++ys):=by
 obtain⟨vs,h1,h2⟩:=h;obtain⟨us,k1,k2⟩:=k;refine⟨fun i=>if i<xs.length then vs i else us (i-xs.length),fun i x hx=>?_,fun i j u hi hj=>?_⟩
 ·rw[List.getElem?_append] at hx;split at hx
  ·rename_i ah;simp only[ah,if_true];exact h1 i x hx
  ·rename_i ah;simp only[ah,if_false];exact k1 _ x hx
 ·by_cases ah:i<xs.length
  ·simp only[ah,if_true] at hj;have:=h2 i j u ah hj;rw[List.getElem?_append_left (List.getElem?_eq_some_iff.1 this).1];exact this
  ·simp only[ah,if_false] at hj;have dg:i-xs.length<ys.length:=by simp at hi;omega
   have:=k2 _ j u dg hj;have e1:i*e.size=c1.length+(i-xs.length)*e.size:=by rw[hl,←Nat.add_mul];congr 1;omega
   rw[List.getElem?_append_right (by omega)];rw[show i*e.size+j-c1.length=(i-xs.length)*e.size+j by omega];exact this
section
variable {C:Ctx} {S:St} {ρ:Env} {σ:Im} {own:Nat→Option Nat} {hv:Nat→Value} {w0:World} {σ0:Base} {A:Nat→Prop} {a:Act} {w:World} {gs:List (Nat×Bool)} {Φ:aR} {dst:Nat}
theorem az0 (h:Inv C S ρ σ own hv w0 σ0 A a w){B:Nat}{e f:Ty}{v:Value}{d:D}(hs:0<e.size)(fS:e.rowT=true∨e.one=true)(hf:f.unf=e)(OY:LZ C σ w B (.slice f) v d):
 ∃ys,d=.list ys∧ys.length≤maxLen∧((v=.slice none 0 0∧ys=[])∨∃(ad:Addr) (c:Nat) (news:List Value),v=.slice (some ad) ys.length c∧news.length=ys.length*e.size∧
  (∀j u,news[j]?=some u→w.cell? (ad.add j)=some u)∧fL C.cap σ e news ys):=by
 rcases OY with hr|⟨T,e',cells,xs,ht,hd,bE,gB⟩|⟨k,arr,clock,es,kt,et,ht,_⟩
 ·obtain⟨xs,hd,oP⟩:=hr.slice_inv;rw[←f.unf_size,hf] at oP;rcases oP with⟨⟨p0,aN⟩,rfl⟩|⟨k,o,c,aN,h1,h2,vs,h3,h4⟩
  ·cases p0 with
   |none=>exact⟨[],hd,by simp,.inl ⟨aN,rfl⟩⟩
   |some a0=>exact⟨[],hd,by simp,.inr ⟨a0,0,[],aN,by simp,fun j u hu=>by simp at hu,fun _=>undef,fun i x hx=>by simp at hx,fun i j u hi=>by simp at hi⟩⟩
  ·refine⟨xs,hd,by omega,.inr ⟨⟨k,o,none⟩,c,(List.range (xs.length*e.size)).map fun p=>(vs (p/e.size)).cells.getD (p%e.size) undef,aN,by simp,fun j u hu=>?_,vs,h3,fun i j u hi hj=>?_⟩⟩
   ·simp only[List.getElem?_map,Option.map_eq_some_iff] at hu;obtain⟨p,hp,rfl⟩:=hu;have dW:j<xs.length*e.size:=by have:=(List.getElem?_eq_some_iff.1 hp).1;simpa using this
    rw[List.getElem?_range dW] at hp;cases hp;have hi:j/e.size<xs.length:=(Nat.div_lt_iff_lt_mul hs).2 dW;have hq:j%e.size<e.size:=Nat.mod_lt _ hs;have bI:=h3 _ _ (List.getElem?_eq_getElem hi);have aK:=bI.size;have nB:(vs (j/e.size)).cells[j%e.size]?=some ((vs (j/e.size)).cells.getD (j%e.size) undef):=by
     rw[Array.getD_eq_getD_getElem?,Array.getElem?_eq_getElem (by omega)];rfl
    have:=h.cell (h4 _ _ _ hi nB);rw[qX]
    rwa [show o+j/e.size*e.size+j%e.size=o+j by rw[Nat.add_assoc,Nat.mul_comm,Nat.div_add_mod]] at this
   ·have bI:=h3 _ _ (List.getElem?_eq_getElem hi);have cg:j<e.size:=by rw[←bI.size];exact(Array.getElem?_eq_some_iff.1 hj).1
    have ah:i*e.size+j<xs.length*e.size:=by
     have:(i+1)*e.size≤xs.length*e.size:=Nat.mul_le_mul_right _ hi;rw[Nat.add_mul] at this;omega
    have e1:(i*e.size+j)/e.size=i:=by rw[Nat.mul_comm,Nat.mul_add_div hs,Nat.div_eq_of_lt cg];omega
    have e2:(i*e.size+j)%e.size=j:=by rw[Nat.add_comm,Nat.add_mul_mod_self_right,Nat.mod_eq_of_lt cg]
    simp only[List.getElem?_map,List.getElem?_range ah,Option.map_some,e1,e2];rw[Array.getD_eq_getD_getElem?,hj];rfl
 ·cases ht;rw[Ty.unf_rol] at hf;obtain⟨b,c,aN,hm,_⟩:=vl bE;have gB:fL C.cap σ e cells xs:=by
   obtain⟨us,u1,u2⟩:=gB;refine⟨us,fun i x hx=>hf▸(u1 i x hx).unf,fun i j u hi hu=>?_⟩;rw[←hf,Ty.unf_size];exact u2 i j u hi hu
  have bE:w.ownsRow B T e.size v xs.length cells:=by rw[←hf,Ty.unf_size];exact bE
  rcases bE.2 with⟨e1,e2⟩|⟨g,cap,cur,e1,e2⟩
  ·have:xs=[]:=List.eq_nil_of_length_eq_zero e2;subst this;exact⟨[],hd,by simp,.inl ⟨e1,rfl⟩⟩
  ·exact⟨xs,hd,hm,.inr ⟨⟨g,0,none⟩,cap,cells,e1,bE.1,bE.cells (by rw[e1];rfl),gB⟩⟩
 ·cases ht
theorem awU {P:Program}{B:Nat}{T E ty:TypeId}{inf:TypeInfo}{z:Value}{size:Nat}{v x:Value}{n m:Nat}{xs news:List Value}(hT:P.underlying T=some (.slice E))(hi:P.info? E=some inf)(hz:inf.zero=some z)
 (hs:inf.size=size) (qu:z.cells.size=size) (aK:0<size) (nA:inf.bytes≤uZ) (bE:w.ownsRow B E size v n xs) (hB:B≤w.heap.size) (cO:n+m≤4294967296)
 (hx:(x=.slice none 0 0∧m=0∧news=[])∨∃(ad:Addr) (c:Nat),x=.slice (some ad) m c∧news.length=m*size∧(∀j u,news[j]?=some u→w.cell? (ad.add j)=some u)∧∀u∈news,u.oneCell'=true):
 ∃v' w',(Builtin.append_ #[T,T] ty #[v,x]).run P w=.ok v' w'∧w'.ownsRow B E size v' (n+m) (xs++news)∧w.grownBy w' v.ownBlock∧∀k,v'.ownBlock=some k→v.ownBlock=some k∨(w.heap.size≤k∧k<w'.heap.size):=by
 rcases hx with⟨rfl,rfl,rfl⟩|⟨ad,c,rfl,hl,GG,h1⟩
 ·refine⟨v,w,run_append_owned_none w B T ty E inf size hT hi v n xs bE,by simpa using bE,⟨rfl,rfl,rfl,Nat.le_refl _,fun _ _ _=>rfl⟩,fun k hk=>.inl hk⟩
 ·have NP:(n+m)*inf.bytes≤140737488355328:=by
   have:(n+m)*inf.bytes≤4294967296*uZ:=Nat.mul_le_mul cO nA;unfold uZ at this;omega
  obtain⟨v',w',r1,r2,r3,r4⟩:=run_append_own (P:=P) w B T ty E inf z size inf.bytes hT hi hz hs rfl qu aK v n xs bE ad m c news hl GG h1 (by unfold maxLen;omega) NP hB;refine⟨v',w',r1,r2,r3,fun k hk=>?_⟩;have ah:=(r2.lt k hk).2;subst hs;rcases bE.2 with⟨rfl,rfl⟩|⟨g,cap,cur,rfl,hbg,hg,cZ,lz,ez,BN⟩
  ·by_cases hm:m=0
   ·subst hm;have:=r4.2 ⟨rfl,rfl⟩;subst this;simp[Value.ownBlock] at hk
   ·have hr:=run_append_nil (P:=P) w T ty E inf z hT hi hz ad m c news hl GG (by omega) (by omega) (by have hb:=NP;simp only[Nat.zero_add] at hb;omega);rw[hr] at r1;cases r1;simp[Value.ownBlock] at hk;subst hk;exact .inr ⟨Nat.le_refl _,ah⟩
  ·by_cases XZ:n+m≤cap
   ·have Gs:n*inf.size+news.length≤cur.size:=by rw[hl,ez,←Nat.add_mul];exact Nat.mul_le_mul_right _ XZ
    have hr:=run_append_room (P:=P) w T ty E inf hT hi g n cap cur hg ad m c news hl GG h1 XZ Gs;rw[hr] at r1;cases r1;exact .inl hk
   ·have hr:=run_append_grow (P:=P) w T ty E inf z hT hi hz ⟨g,0,none⟩ n cap xs bE.1 (bE.cells (g:=g) rfl) ad m c news hl GG (by omega) (by omega) (growslice_fits (by omega) NP);rw[hr] at r1;cases r1;simp[Value.ownBlock] at hk;subst hk;exact .inr ⟨Nat.le_refl _,ah⟩
theorem alS (h:Inv C S ρ σ own hv w0 σ0 A a w)(hC:CtxOK C σ0)(ht:¬A dst)(ah:dst<a.tmps.size){T:TypeId}{s x:Operand}{r:St×List PI}(hr:Au C S dst T s x=some r){o:Oper}(hd:o.dst=some dst)
 (ho:o.op=.call {callee:=.builtin .append,args:=#[s,x],argTypes:=#[T,T]}):bM C w0 σ0 Φ S ρ A a w o r:=by
 unfold Au at hr;split at hr
 case h_2=>cases hr
 rename_i E hT;simp only[Option.bind_eq_some_iff] at hr;obtain⟨e,he,hr⟩:=hr;split at hr
 case h_2=>cases hr
 rename_i tx ex OY;have hv':=UU h hC (gs:=[]) rfl OY;obtain⟨cs,aj⟩:=R9 (C:=C) (w:=w) (a:=a) ho;cases hc:(oH C.P E e&&Lj tx e)<;>simp only[hc,cond_true,cond_false] at hr
 ·cases hr
 simp only[Bool.and_eq_true] at hc;obtain⟨inf,z,hi,hs,nA,h1,hz,kq⟩:=Nf hc.1;have qu:=UY kq;have fS:=aAk kq;have OZ:∃f:Ty,f.unf=e∧LZ C σ w w0.heap.size (.slice f) (a.eval x) (ex.ev ρ):=by
  have cu:=hc.2;unfold Lj at cu;split at cu
  ·exact⟨_,Ty.beq_eq _ _ cu,hv'⟩
  ·refine⟨e,Ty.unf_ro fS,?_⟩;rcases hv' with hr|⟨_,_,_,_,ht,_⟩|⟨_,_,_,_,_,_,ht,_⟩
   ·exact .inl (hr.sub (by simp[Ty.sub]))
   ·cases ht
   ·cases ht
  ·cases cu
 obtain⟨fv,dQ,OZ⟩:=OZ;obtain⟨ys,Gq,iO,asf⟩:=az0 h h1 fS dQ OZ;have hx:∃news,fL C.cap σ e news ys∧news.length=ys.length*e.size∧((a.eval x=.slice none 0 0∧ys.length=0∧news=[])∨∃(ad:Addr) (c:Nat),a.eval x=.slice (some ad) ys.length c∧news.length=ys.length*e.size∧(∀j u,news[j]?=some u→w.cell? (ad.add j)=some u)∧∀u∈news,u.oneCell'=true):=by
  rcases asf with⟨e1,rfl⟩|⟨ad,c,news,e1,e2,e3,e4⟩
  ·exact⟨[],⟨fun _=>undef,by simp,by simp⟩,by simp,.inl ⟨e1,rfl,rfl⟩⟩
  ·exact⟨news,e4,e2,.inr ⟨ad,c,e1,e2,e3,amD e4 e2 fS⟩⟩
 obtain⟨news,aC,XO,hx⟩:=hx;have main:∀(j:Nat) (v:Value) (xs:List D) (cells:List Value),a.eval s=v→w.ownsRow w0.heap.size E e.size v xs.length cells→fL C.cap σ e cells xs→xs.length+ys.length≤4294967296→
  (∀k,v.ownBlock=some k→own k=some j)→
  ∃v' w',(execOp a.eval o).run C.P w=.ok (.value v') w'∧Good C w0 σ0 ((S.newO j (.row E e)).setR dst (.obj j (S.ver j+1))) ((ρ.setO j (.list (xs++ys))).setR dst .none) (fun u=>A u∨u=dst) (a.put (some dst) v') w':=by
  intro j v xs cells ON bE gB hlen ct;obtain⟨v',w',r1,r2,r3,r4⟩:=awU (P:=C.P) (ty:=o.type) hT hi hz hs qu h1 nA bE h.below.size hlen hx;refine⟨v',w',by rw[aj];simp[builtin,ON,r1],?_⟩
  have asA:=h.updO j (.row E e) (.list (xs++ys)) v' (fun k=>decide (v'.ownBlock=some k)) (w':=w') (WL r3 h.below.size (fun k hk=>(h.owns k j (ct k hk)).1)) (fun k hk aC=>r3.block k hk (fun e=>aC (ct k e.symm))) (fun k hk=>by
        have bN:v'.ownBlock=some k:=by simpa using hk
        rcases r4 k bN with e|e
        ·exact⟨.inl (ct k e),(r2.lt k bN).2⟩
        ·exact⟨.inr e.1,e.2⟩)
   ⟨cells++news,xs++ys,by simp[Env.setO,aP],by rw[aP,List.length_append];exact r2,amC gB aC bE.1,fun k hk=>by rw[aP] at hk;simp[fc,hk]⟩
  have h2:=asA.setObj ht (j:=j) (v:=v') (aP _ _ _) ah;have e:(S.newO j (.row E e)).ver j=S.ver j+1:=aP _ _ _;rw[e] at h2;exact⟨_,_,_,h2⟩
 split at hr
 ·rename_i e0 pe0 hu;cases hr;refine bM.value hd fun ρ' oZ=>?_;have OO:=bP h hC rfl hu;have ON:a.eval s=.slice none 0 0:=by
   generalize a.eval s=v at OO;generalize pe0.ev ρ=d at OO;cases OO;rfl
  simp only[PI.runs,PI.run,Option.bind_eq_some_iff] at oZ;obtain⟨ρ1,g1,ρ2,g2,ρ3,g3,g4⟩:=oZ;cases c1:((G9 (.con (.list [])) ex).ev ρ).b<;>simp only[c1,cond_true,cond_false] at g1
  ·cases g1
  cases g1;cases g2;cases g3;cases g4;have hlen:=VQ c1;simp only[PE.ev,D.l_list,Gq,List.nil_append,D.i_int,D.int] at hlen;have:=main dst (.slice none 0 0) [] [] ON (World.ownsRow_nil _ _ _ _) ⟨fun _=>undef,by simp,by simp⟩ (by simpa using YK hlen) (by simp[Value.ownBlock]);simpa [PE.ev,D.l_list,Gq,mkObj] using this
 ·cases hr
 ·obtain⟨dP,_⟩:=vK h (gs:=[]) rfl s;split at hr
  case h_2=>cases hr
  rename_i j ver es;rw[es] at dP;cases hb:Nat.beq ver (S.ver j)<;>simp only[hb,cond_true,cond_false] at hr
  ·cases hr
  have cm:=dP.2 (Nat.eq_of_beq_eq_true hb);have aZ:=h.objs j;split at hr
  case h_2=>cases hr
  rename_i E' e' eo;rw[eo] at aZ;cases gY:(Nat.beq E' E&&Ty.beq e' e)<;>simp only[gY,cond_true,cond_false] at hr
  ·cases hr
  cases hr;simp only[Bool.and_eq_true] at gY;have e1:=Nat.eq_of_beq_eq_true gY.1;have e2:=Ty.beq_eq _ _ gY.2;subst e1;subst e2;obtain⟨cells,xs,k1,k2,k3,k4⟩:=aZ;refine bM.value hd fun ρ' oZ=>?_;simp only[PI.runs,PI.run,Option.bind_eq_some_iff] at oZ;obtain⟨ρ1,g1,ρ2,g2,ρ3,g3,g4⟩:=oZ;cases c1:((G9 (.o j) ex).ev ρ).b<;>simp only[c1,cond_true,cond_false] at g1
  ·cases g1
  cases g1;cases g2;cases g3;cases g4;have hlen:=VQ c1;simp only[PE.ev,D.l_list,Gq,k1,D.i_int,D.int] at hlen;have:=main j (hv j) xs cells cm k2 k3 (by have:=YK hlen;simpa using this) k4;simpa [PE.ev,D.l_list,Gq,k1] using this
end
end Cx
namespace Cx
open Go Go.RowKit
theorem Lb {P:Program}{a:Act}{w:World}{o:Oper}{T:TypeId}{x v:Operand}{inf:TypeInfo}{k off:Nat}{cs:Array Value}{E:TypeId}(ho:o.op=.store T x v)(hi:P.info? T=some inf)(hx:a.eval x=.pointer (some ⟨k,off,none⟩))
 (hs:(a.eval v).cells.size=inf.size) (dL:∀u∈(a.eval v).cells.toList,u.oneCell'=true) (hb:w.heap[k]?=some (.cells cs E (0,0))) (hle:off+inf.size≤cs.size):
 (execOp a.eval o).run P w=.ok .skip (w.setRow k (cs.toList.take off++(a.eval v).cells.toList++cs.toList.drop (off+inf.size)).toArray):=by
 have:=run_storeCells_at P k off E (a.eval v).cells.toList 0 cs w hb (by simp[hs];exact hle) dL;simp only[Nat.add_zero,Array.length_toList,hs] at this;simp[execOp,ho,Instr.storeAt,hx,Instr.sureAddr,storeVar,Go.sizeOf,run_typeInfo w hi,hs,this]
theorem aeV {w:World}{B k:Nat}{cs:Array Value}(hB:B≤k):Below B w (w.setRow k cs)∧∀i,i≠k→(w.setRow k cs).heap[i]?=w.heap[i]?:=
 ⟨⟨rfl,rfl,rfl,by simp[World.setRow],fun i hi=>setRow_other w k i cs (by omega)⟩,fun i hi=>setRow_other w k i cs hi⟩
theorem FZ {α:Type}(xs ys:List α)(off:Nat)(d:α)(hle:off+ys.length≤xs.length)(i:Nat):(xs.take off++ys++xs.drop (off+ys.length)).getD i d=if off≤i∧i<off+ys.length then ys.getD (i-off) d else xs.getD i d:=by
 simp only[List.getD_eq_getElem?_getD,List.append_assoc];rw[List.getElem?_append,List.length_take,Nat.min_eq_left (by omega)];split
 ·rename_i h;rw[if_neg (by omega),List.getElem?_take,if_pos h]
 ·rename_i h;rw[List.getElem?_append];split
  ·rename_i h2;rw[if_pos (by omega)]
  ·rename_i h2;rw[if_neg (by omega),List.getElem?_drop];congr 2;omega
section
variable {C:Ctx} {S:St} {ρ:Env} {σ:Im} {own:Nat→Option Nat} {hv:Nat→Value} {w0:World} {σ0:Base} {A:Nat→Prop} {a:Act} {w:World} {gs:List (Nat×Bool)} {Φ:aR} {dst:Nat}
theorem Inv.storeBox (h:Inv C S ρ σ own hv w0 σ0 A a w){j k off:Nat}{ag:Bool}{shs news:List Sh}{cs:Array Value}{E:TypeId}{ds dn:List D}{vs:List Value}(eo:S.o j=.box ag shs)
 (h1:hv j=.pointer (some ⟨k,0,none⟩)) (h2:own k=some j) (h3:w.heap[k]?=some (.cells cs E (0,0))) (h4:cs.size=shs.length) (h5:ρ.o j=.agg ds) (h6:ds.length=shs.length)
 (h7:∀i s,shs[i]?=some s→(∀gs s',s≠.opt gs s')∧aI C S ρ σ hv s (cs.getD i undef) (ds.getD i .none))
 (l1:news.length=vs.length) (l2:dn.length=vs.length) (hle:off+vs.length≤shs.length)
 (jQ:∀i s,news[i]?=some s→(∀gs s',s≠.opt gs s')∧aI C S ρ σ hv s (vs.getD i undef) (dn.getD i .none)):
 Inv C (S.setO j (.box ag (shs.take off++news++shs.drop (off+vs.length)))) (ρ.setO j (.agg (cK ds off dn))) σ own hv w0 σ0 A a (w.setRow k (cs.toList.take off++vs++cs.toList.drop (off+vs.length)).toArray):=by
 have hkB:w0.heap.size≤k:=(h.owns k j h2).1;obtain⟨b1,b2⟩:=aeV (w:=w) (B:=w0.heap.size) (k:=k) (cs:=(cs.toList.take off++vs++cs.toList.drop (off+vs.length)).toArray) hkB;refine h.updB j _ _ b1 (fun i hi aC=>b2 i fun e=>aC (e▸h2)) ⟨k,_,E,cK ds off dn,h1,h2,setRow_heap w k cs _ E _ h3,?_,by simp[Env.setO,aP],?_,fun i s hi=>?_⟩
 ·simp[l1];omega
 ·simp[cK,l2,l1];omega
 ·have ez:(cs.toList.take off++vs++cs.toList.drop (off+vs.length)).toArray.getD i undef=if off≤i∧i<off+vs.length then vs.getD (i-off) undef else cs.getD i undef:=by
   have e0:∀l:List Value,l.toArray.getD i undef=l.getD i undef:=fun l=>by simp[Array.getD_eq_getD_getElem?,List.getD_eq_getElem?_getD]
   rw[e0,FZ cs.toList vs off undef (by simp;omega),wJ cs i]
  have uk:(cK ds off dn).getD i .none=if off≤i∧i<off+vs.length then dn.getD (i-off) .none else ds.getD i .none:=by
   rw[cK,FZ ds dn off .none (by omega),l2]
  rw[ez,uk];have XJ:∀s v d,(∀gs s',s≠.opt gs s')→aI C S ρ σ hv s v d→aI C (S.setO j (.box ag (shs.take off++news++shs.drop (off+vs.length)))) (ρ.setO j (.agg (cK ds off dn))) σ hv s v d:=
   fun s v d hn hk=>aI.mono' (.refl σ) (Compat.setO _ _ _ _) hn hk
  have jv:(shs.take off++news++shs.drop (off+vs.length))[i]?=if off≤i∧i<off+vs.length then news[i-off]? else shs[i]?:=by
   rw[List.append_assoc,List.getElem?_append,List.length_take,Nat.min_eq_left (by omega)];split
   ·rename_i h;rw[if_neg (by omega),List.getElem?_take,if_pos h]
   ·rename_i h;rw[List.getElem?_append,l1];split
    ·rename_i h2;rw[if_pos (by omega)]
    ·rename_i h2;rw[if_neg (by omega),List.getElem?_drop];congr 1;omega
  rw[jv] at hi;split
  ·rename_i hc;rw[if_pos hc] at hi;obtain⟨g1,g2⟩:=jQ _ s hi;exact⟨g1,XJ _ _ _ g1 g2⟩
  ·rename_i hc;rw[if_neg hc] at hi;obtain⟨g1,g2⟩:=h7 _ s hi;exact⟨g1,XJ _ _ _ g1 g2⟩
theorem awR (h:Inv C S ρ σ own hv w0 σ0 A a w){j:Nat}(hr:lM (S.o j)=true):(hv j).cells=#[hv j]∧(hv j).oneCell'=true:=by
 have aZ:=h.objs j;cases ct:S.o j with
 |row T e=>
  rw[ct] at aZ;obtain⟨cells,xs,h1,h2,h3,h4⟩:=aZ;obtain⟨b,c,e1,_⟩:=vl h2;rw[e1];exact⟨rfl,rfl⟩
 |mp kt et=>
  rw[ct] at aZ;obtain⟨k0,arr,clock,es,h1,_⟩:=aZ;rw[h1];exact⟨rfl,rfl⟩
 |_=>rw[ct] at hr;simp[lM] at hr
theorem Inv.storeRow (h:Inv C S ρ σ own hv w0 σ0 A a w){j k n c i p:Nat}{T:TypeId}{e:Ty}{cells vs:List Value}{xs:List D}{v':Value}{d':D}(eo:S.o j=.row T e)(dR:hv j=.slice (some ⟨k,0,none⟩) n c)
 (h1:ρ.o j=.list xs) (h2:w.ownsRow w0.heap.size T e.size (hv j) xs.length cells) (h3:fL C.cap σ e cells xs) (h4:∀k,(hv j).ownBlock=some k→own k=some j) (hi:i<xs.length)
 (BC:i*e.size≤p) (eC:p+vs.length≤i*e.size+e.size) (hr:Rep C.cap σ e v' d')
 (hv':∀q u,v'.cells[q]?=some u→(cells.take p++vs++cells.drop (p+vs.length))[i*e.size+q]?=some u):
 ∃cur,w.heap[k]?=some (.cells cur T (0,0))∧p+vs.length≤cur.size∧Inv C S (ρ.setO j (.list (xs.set i d'))) σ own hv w0 σ0 A a (w.setRow k (cur.toList.take p++vs++cur.toList.drop (p+vs.length)).toArray):=by
 have aY:=h2.1;rcases h2.2 with⟨e0,e1⟩|⟨g,cap,cur,e1,e2,e3,e4,e5,e6,e7⟩
 ·omega
 rw[dR] at e1;cases e1;have ara:i*e.size+e.size≤xs.length*e.size:=by
  have:(i+1)*e.size≤xs.length*e.size:=Nat.mul_le_mul_right _ hi;rw[Nat.add_mul] at this;omega
 have aFg:xs.length*e.size≤c*e.size:=Nat.mul_le_mul_right _ e4;have arU:p+vs.length≤cur.size:=by omega
 refine⟨cur,e3,arU,?_⟩;have bE:own k=some j:=h4 k (by rw[dR];rfl);obtain⟨b1,b2⟩:=aeV (w:=w) (B:=w0.heap.size) (k:=k) (cs:=(cur.toList.take p++vs++cur.toList.drop (p+vs.length)).toArray) e2;have BN:(cur.toList.take p++vs++cur.toList.drop (p+vs.length)).take (xs.length*e.size)=cells.take p++vs++cells.drop (p+vs.length):=by
  rw[←e7];apply List.ext_getElem?;intro q;simp only[List.append_assoc,List.getElem?_take,List.getElem?_append,List.length_take,List.getElem?_drop,Array.length_toList];by_cases hq:q<xs.length*e.size
  ·rw[if_pos hq];by_cases uE:q<p
   ·simp[uE,Nat.lt_min,show q<cur.size by omega,hq]
   ·by_cases dX:q-p<vs.length
    ·rw[if_neg (by omega),Nat.min_eq_left (by omega),if_pos dX,if_neg (by omega),Nat.min_eq_left (by omega),if_pos dX]
    ·rw[if_neg (by omega),Nat.min_eq_left (by omega),if_neg dX,if_neg (by omega),Nat.min_eq_left (by omega),if_neg dX,if_pos (by omega)]
  ·rw[if_neg hq];have:¬q<p:=by omega
   rw[if_neg (by omega),Nat.min_eq_left (by omega),if_neg (by omega),if_neg (by omega)]
 have:=h.updB j (.row T e) (.list (xs.set i d')) b1 (fun q hq aC=>b2 q fun e=>aC (e▸bE))
  ⟨cells.take p++vs++cells.drop (p+vs.length),xs.set i d',by simp[Env.setO,aP],⟨by simp;omega,.inr ⟨k,c,_,by rw[dR];simp,e2,setRow_heap w k cur _ T _ e3,by simpa using e4,e5,by simp;omega,by simpa using BN⟩⟩,?_,h4⟩
 ·rw[St.setO_self eo] at this;exact this
 ·obtain⟨us,u1,u2⟩:=h3;refine⟨fun q=>if q=i then v' else us q,fun q x hx=>?_,fun q m u hq hm=>?_⟩
  ·rw[List.getElem?_set] at hx;by_cases xd:i=q
   ·subst xd;simp only[if_true] at hx ⊢;rw[if_pos hi] at hx;cases hx;exact hr
   ·rw[if_neg xd] at hx;simp only[show ¬q=i from fun e=>xd e.symm,if_false];exact u1 q x hx
  ·by_cases xd:q=i
   ·subst xd;simp only[if_true] at hm;exact hv' m u hm
   ·simp only[xd,if_false] at hm;simp only[List.length_set] at hq;have h9:=u2 q m u hq hm;have aFw:m<e.size:=by rw[←(u1 q _ (List.getElem?_eq_getElem hq)).size];exact(Array.getElem?_eq_some_iff.1 hm).1
    have iL:q*e.size+m<p∨p+vs.length≤q*e.size+m:=by
     rcases Nat.lt_or_ge q i with ah|fE
     ·left;have:(q+1)*e.size≤i*e.size:=Nat.mul_le_mul_right _ ah;rw[Nat.add_mul] at this;omega
     ·right;have:(i+1)*e.size≤q*e.size:=Nat.mul_le_mul_right _ (by omega);rw[Nat.add_mul] at this;omega
    rw[List.append_assoc,List.getElem?_append,List.length_take,Nat.min_eq_left (by omega)];rcases iL with ho|ho
    ·rw[if_pos ho,List.getElem?_take,if_pos ho];exact h9
    ·rw[if_neg (by omega),List.getElem?_append_right (by omega),List.getElem?_drop];rw[show p+vs.length+(q*e.size+m-p-vs.length)=q*e.size+m by omega];exact h9
theorem amm (h:Inv C S ρ σ own hv w0 σ0 A a w)(hC:CtxOK C σ0){T:TypeId}{x v:Operand}{r:St×List PI}(hr:ri C S T x v=some r){o:Oper}(hd:o.dst=none)(ho:o.op=.store T x v):bM C w0 σ0 Φ S ρ A a w o r:=by
 unfold ri at hr;split at hr
 case h_2=>cases hr
 rename_i inf hi;obtain⟨dP,_⟩:=vK h (gs:=[]) rfl x;split at hr
 case h_3=>cases hr
 ·rename_i j ver off es;rw[es] at dP;cases hb:Nat.beq ver (S.ver j)<;>simp only[hb,cond_true,cond_false] at hr
  ·cases hr
  obtain⟨k,dR,eZ⟩:=dP.2 (Nat.eq_of_beq_eq_true hb);have aZ:=h.objs j;split at hr
  case h_2=>cases hr
  rename_i ag shs eo;rw[eo] at aZ;obtain⟨k',cs,E,ds,h1,h2,h3,h4,h5,h6,h7⟩:=aZ;have cq:=h1;rw[dR] at h1;cases h1;split at hr
  ·rename_i t e hu;have hv':=bP h hC rfl hu;cases hc:(Nat.beq inf.size t.size&&(t.rowT||t.one)&&Nat.ble (off+t.size) shs.length)<;>simp only[hc,cond_true,cond_false] at hr
   ·cases hr
   cases hr;simp only[Bool.and_eq_true,Bool.or_eq_true] at hc;obtain⟨⟨aK,fS⟩,hle⟩:=hc;have aK:=Nat.eq_of_beq_eq_true aK;have hle:=Nat.le_of_ble_eq_true hle;obtain⟨f1,f2,f3⟩:=hv'.flat fS;have fT:=hv'.size;refine bM.skip hd fun ρ' aj=>?_;rw[qO aj]
   refine⟨_,Lb ho hi eZ (by rw[fT,aK]) (fun u hu=>by
        obtain⟨m,hm,rfl⟩:=List.getElem_of_mem hu;exact hv'.cellsOne fS (m:=m) (by simp at hm ⊢)) h3 (by omega),?_⟩
   have cu:=h.storeBox (off:=off) (news:=t.flat.map .dat) (vs:=(a.eval v).cells.toList) (dn:=(e.ev ρ).cells) eo cq h2 h3 h4 h5 h6 h7 (by simp[f1,fT]) (by simp[f2,fT]) (by simp[fT];omega) (fun i s hi=>by
        simp only[List.getElem?_map,Option.map_eq_some_iff] at hi;obtain⟨ti,OQ,rfl⟩:=hi;refine⟨fun _ _ e=>(by cases e),?_⟩;rw[wJ];exact(f3 i ti OQ).2)
   have e1:(a.eval v).cells.toList.length=t.size:=by simp[fT]
   rw[e1] at cu;rw[aK];refine⟨σ,own,hv,?_⟩;simpa [PE.ev,h5,D.cells] using cu
  ·split at hr
   case h_2=>cases hr
   rename_i j' m4 fm;obtain⟨OJ,_⟩:=vK h (gs:=[]) rfl v;rw[fm] at OJ;cases hc:(Nat.beq m4 (S.ver j')&&lM (S.o j')&&Nat.beq inf.size 1&&Nat.blt off shs.length)<;>simp only[hc,cond_true,cond_false] at hr
   ·cases hr
   cases hr;simp only[Bool.and_eq_true] at hc;obtain⟨⟨⟨asG,fq⟩,aK⟩,ah⟩:=hc;have aK:=Nat.eq_of_beq_eq_true aK;have ah:off<shs.length:=by simpa [Nat.blt_eq] using ah
   have cm:=OJ.2 (Nat.eq_of_beq_eq_true asG);obtain⟨c1,c2⟩:=awR h fq;have ji:(a.eval v).cells=#[a.eval v]:=by rw[cm];exact c1
   refine bM.skip hd fun ρ' aj=>?_;rw[qO aj];refine⟨_,Lb ho hi eZ (by rw[ji,aK];rfl) (fun u hu=>by rw[ji] at hu;simp at hu;subst hu;rw[cm];exact c2) h3 (by omega),?_⟩
   have cu:=h.storeBox (off:=off) (news:=[.obj j' m4]) (vs:=[a.eval v]) (dn:=[.none]) eo cq h2 h3 h4 h5 h6 h7 rfl rfl (by simp;omega) (fun i s hi=>by
        match i,hi with
        |0,hi=>simp at hi;subst hi;exact⟨fun _ _ e=>(by cases e),OJ.1,fun _=>by simpa using cm⟩
        |i+1,hi=>simp at hi)
   rw[ji,aK];have e2:shs.take off++[Sh.obj j' m4]++shs.drop (off+[a.eval v].length)=shs.set off (.obj j' m4):=by
        rw[List.set_eq_take_append_cons_drop,if_pos ah];simp
   rw[e2] at cu;refine⟨σ,own,hv,?_⟩;simpa [PE.ev,h5,D.cells] using cu
 ·rename_i j ver size off es;rw[es] at dP;cases hb:Nat.beq ver (S.ver j)<;>simp only[hb,cond_true,cond_false] at hr
  ·cases hr
  obtain⟨k,n,c,ik,i,dR,rA,bx,eZ⟩:=dP.2 (Nat.eq_of_beq_eq_true hb);have aZ:=h.objs j;split at hr
  ·rename_i T' ts t e eo hu;rw[eo] at aZ;have hv':=bP h hC rfl hu;cases hc:(Nat.beq inf.size t.size&&(t.rowT||t.one)&&Nat.beq size ts.length&&Nat.ble (off+t.size) ts.length&&Ty.subs t.flat ((ts.drop off).take t.size))<;>simp only[hc,cond_true,cond_false] at hr
   ·cases hr
   cases hr;simp only[Bool.and_eq_true,Bool.or_eq_true] at hc;obtain⟨⟨⟨⟨aK,fS⟩,uK⟩,hle⟩,bZ⟩:=hc;have aK:=Nat.eq_of_beq_eq_true aK;have uK:=Nat.eq_of_beq_eq_true uK;have hle:=Nat.le_of_ble_eq_true hle;obtain⟨f1,f2,f3⟩:=hv'.flat fS;have fT:=hv'.size;have f1:t.flat.length=t.size:=f1;have f2:(e.ev ρ).cells.length=t.size:=f2;have fT:(a.eval v).cells.size=t.size:=fT;obtain⟨cells,xs,k1,k2,k3,k4⟩:=aZ;obtain⟨b,c',e1,Bp,Bq⟩:=vl k2;rw[dR] at e1;cases e1;obtain⟨us,u1,u2⟩:=k3;obtain⟨y,hy⟩:∃y,xs[i]?=some y:=⟨_,List.getElem?_eq_getElem bx⟩
   obtain⟨os,ds,xh,hd0,l1,l2,aQ,dL⟩:=(u1 i y hy).agg_inv;have BQ:(a.eval v).cells.toList.length=t.size:=by simp[fT]
   have jQ:Rep C.cap σ (.agg ts) (.agg (os.take off++(a.eval v).cells.toList++os.drop (off+(a.eval v).cells.toList.length)).toArray) (.agg (cK ds off (e.ev ρ).cells)):=by
        refine .agg _ _ _ (by simp[fT];omega) (by simp[cK,f2];omega) (fun m tm hm=>?_) dL;rw[FZ os _ off undef (by rw[BQ];omega),cK,FZ ds _ off .none (by rw[f2];omega),BQ,f2];split
        ·rename_i hc;have asj:=Ty.subs_get _ _ bZ (m-off) tm (by
          rw[List.getElem?_take,if_pos (by omega),List.getElem?_drop,show off+(m-off)=m by omega];exact hm)
         obtain⟨tf,htf,cu⟩:=asj;rw[wJ];exact((f3 _ tf htf).2).sub cu
        ·exact aQ m tm hm
   have aY:=k2.1;have ara:i*(Ty.agg ts).size+(Ty.agg ts).size≤xs.length*(Ty.agg ts).size:=by
        have:(i+1)*(Ty.agg ts).size≤xs.length*(Ty.agg ts).size:=Nat.mul_le_mul_right _ bx;rw[Nat.add_mul] at this;omega
   have X3:(Ty.agg ts).size=ts.length:=rfl
   obtain⟨cur,q1,q2,q3⟩:=h.storeRow (i:=i) (p:=i*(Ty.agg ts).size+off) (vs:=(a.eval v).cells.toList) eo dR k1 k2 ⟨us,u1,u2⟩ k4 bx (by omega) (by rw[BQ];omega) jQ (fun q u hq=>by
        have dh:(os.take off++(a.eval v).cells.toList++os.drop (off+(a.eval v).cells.toList.length))[q]?=some u:=by simpa [Value.cells] using hq
        have aFF:q<ts.length:=by have:=(List.getElem?_eq_some_iff.1 dh).1;simp[fT] at this;omega
        rw[List.append_assoc,List.getElem?_append,List.length_take,Nat.min_eq_left (by omega)] at dh;rw[List.append_assoc,List.getElem?_append,List.length_take,Nat.min_eq_left (by omega)];by_cases oX:q<off
        ·rw[if_pos oX,List.getElem?_take,if_pos oX] at dh;rw[if_pos (by omega),List.getElem?_take,if_pos (by omega)];exact u2 i q u bx (by rw[xh];simpa [Value.cells] using dh)
        ·rw[if_neg oX,List.getElem?_append] at dh;rw[if_neg (by omega),List.getElem?_append];rw[show i*(Ty.agg ts).size+q-(i*(Ty.agg ts).size+off)=q-off by omega];by_cases GP:q-off<(a.eval v).cells.toList.length
         ·rw[if_pos GP] at dh ⊢;exact dh
         ·rw[if_neg GP,List.getElem?_drop] at dh;rw[if_neg GP,List.getElem?_drop];rw[show off+(a.eval v).cells.toList.length+(q-off-(a.eval v).cells.toList.length)=q by omega] at dh;rw[show i*(Ty.agg ts).size+off+(a.eval v).cells.toList.length+(q-off-(a.eval v).cells.toList.length)=i*(Ty.agg ts).size+q by omega];exact u2 i q u bx (by rw[xh];simpa [Value.cells] using dh))
   refine bM.skip hd fun ρ' aj=>?_;rw[qO aj]
   refine⟨_,Lb ho hi (cs:=cur) (by rw[eZ,uK]) (by rw[fT,aK]) (fun u hu=>by
        obtain⟨m,hm,rfl⟩:=List.getElem_of_mem hu;exact hv'.cellsOne fS (m:=m) (by simp at hm ⊢)) q1 (by rw[BQ] at q2;rw[aK,←X3];exact q2),σ,own,hv,?_⟩
   rw[BQ] at q3;simp only[PE.ev,k1,D.l_list,rA,D.i_int,Int.toNat_natCast,qg hy,hd0,sY];rw[aK,←X3];exact q3
  ·rename_i T' e0 t e aC eo hu;rw[eo] at aZ;have hv':=bP h hC rfl hu;cases hc:(Nat.beq inf.size 1&&Nat.beq size 1&&Nat.beq off 0&&e0.one&&Ty.sub t e0)<;>simp only[hc,cond_true,cond_false] at hr
   ·cases hr
   cases hr;simp only[Bool.and_eq_true] at hc;obtain⟨⟨⟨⟨aK,uK⟩,gE⟩,dL⟩,bZ⟩:=hc;have aK:=Nat.eq_of_beq_eq_true aK;have uK:=Nat.eq_of_beq_eq_true uK;have gE:=Nat.eq_of_beq_eq_true gE;subst gE;subst uK;have X8:=hv'.sub bZ;obtain⟨c1,c2⟩:=X8.oneCell dL;have Bc:e0.size=1:=by cases e0<;>simp_all [Ty.size,Ty.one]
   obtain⟨cells,xs,k1,k2,k3,k4⟩:=aZ;obtain⟨b,c',e1,Bp,Bq⟩:=vl k2;rw[dR] at e1;cases e1;obtain⟨y,hy⟩:∃y,xs[i]?=some y:=⟨_,List.getElem?_eq_getElem bx⟩
   have aY:=k2.1
   obtain⟨cur,q1,q2,q3⟩:=h.storeRow (i:=i) (p:=i*e0.size) (vs:=[a.eval v]) eo dR k1 k2 k3 k4 bx (Nat.le_refl _) (by rw[Bc];simp) X8 (fun q u hq=>by
        rw[c1] at hq;have nH:q=0:=by have:=(Array.getElem?_eq_some_iff.1 hq).1;simpa using this
        subst nH;simp at hq;subst hq;have:i*e0.size≤cells.length:=by rw[aY];exact Nat.mul_le_mul_right _ (by omega)
        rw[List.append_assoc,List.getElem?_append_right (by simp;omega)];simp[Nat.min_eq_left this])
   refine bM.skip hd fun ρ' aj=>?_;rw[qO aj];refine⟨_,Lb ho hi (cs:=cur) (by rw[eZ]) (by rw[c1,aK];rfl) (fun u hu=>by rw[c1] at hu;simp at hu;subst hu;exact c2) q1 (by rw[Bc] at q2;rw[aK];simpa using q2),σ,own,hv,?_⟩;rw[c1,aK];have BT:sY y 0 (e.ev ρ)=e.ev ρ:=by
        obtain⟨us,u1,u2⟩:=k3;have:=(u1 i y hy).dcells dL;cases y with
        |agg ds=>have h8:=u1 i _ hy;generalize us i=vv at h8;cases h8;simp[Ty.one] at dL
        |_=>rfl
   simp only[PE.ev,k1,D.l_list,rA,D.i_int,Int.toNat_natCast,qg hy,BT];rw[Bc] at q3;simpa using q3
  ·cases hr
end
end Cx
namespace Cx
open Go Go.RowKit
section
variable {C:Ctx} {S:St} {ρ:Env} {σ:Im} {own:Nat→Option Nat} {hv:Nat→Value} {w0:World} {σ0:Base} {A:Nat→Prop} {a:Act} {w:World} {gs:List (Nat×Bool)} {Φ:aR} {dst:Nat}
theorem amM {ρ:Env}{es:List PE}{i:Nat}{e:PE}(h:es[i]?=some e):(PE.evs ρ es)[i]?=some (e.ev ρ):=by
 rw[PE.evs_eq,List.getElem?_map,h];rfl
theorem V9 (h:Inv C S ρ σ own hv w0 σ0 A a w)(hC:CtxOK C σ0)(hg:holds gs ρ=true){T:TypeId}{len:Nat}{ps:Array (Nat×Operand)}{r:St×List PI}(hr:tR C S gs dst T len ps.toList=some r){o:Oper}
 (ho:o.op=.buildSlice T len ps):∃(E:TypeId) (e:Ty) (es:List PE) (v:Value) (w':World),C.P.underlying T=some (.slice E)∧m3 C.P E=some e∧r=(mkObj S dst (.row E e),[.setO dst (.lst es),.setR dst (.con .none)])∧
   (execOp a.eval o).run C.P w=.ok (.value v) w'∧Below w.heap.size w w'∧(∀k,Nat.beq k w.heap.size=true→w.heap.size≤k∧k<w'.heap.size)∧
   bR C (S.newO dst (.row E e)) (ρ.setO dst (.list (PE.evs ρ es))) σ (fc own dst (fun k=>Nat.beq k w.heap.size)) (bO hv dst v) w' w0.heap.size dst (.row E e):=by
 unfold tR at hr;split at hr
 case h_2=>cases hr
 rename_i E hT;simp only[Option.bind_eq_some_iff] at hr;obtain⟨e,he,z,hz,hr⟩:=hr;cases hc:(oH C.P E e&&Ty.sub z.1 e&&ij (ps.toList.map (·.1))&&ps.toList.all (fun p=>Nat.blt p.1 len)&&Nat.ble (len*e.size) 16777216)<;>simp only[hc,cond_true,cond_false] at hr
 ·cases hr
 simp only[Bool.and_eq_true] at hc;obtain⟨⟨⟨⟨hef,bZ⟩,bp⟩,eP⟩,hle⟩:=hc;have hle:=Nat.le_of_ble_eq_true hle;obtain⟨inf,zv,hi,hs,nA,h1,hzv,kq⟩:=Nf hef;have qu:=UY kq;have lF:=lS bp;have BU:=((vS (cap:=C.cap) (σ:=σ) hz kq).1).sub bZ;simp only[Option.map_eq_some_iff] at hr;obtain⟨es,gC,rfl⟩:=hr;obtain⟨Wi,el2⟩:=mapM_some _ _ _ gC;simp only[List.length_range] at Wi;have Xf:∀i,i<len→∃pe,es[i]?=some pe∧FL C S gs e z.2 ps.toList i=some pe:=by
  intro i hi;obtain⟨y,Yh,lJ⟩:=el2 i i (by rw[List.getElem?_range hi]);exact⟨y,Yh,lJ⟩
 have oV:∀x,x∈ps.toList→x.1<len∧∃t pe,use C S gs x.2=some (t,pe)∧Ty.sub t e=true∧es[x.1]?=some pe:=by
  intro x hx;have uO:x.1<len:=by
   have:=List.all_eq_true.1 eP x hx;simpa [Nat.blt_eq] using this
  refine⟨uO,?_⟩;obtain⟨pe,BC,eC⟩:=Xf x.1 uO;have Be:=Wu lF (i:=x.1) (x:=x.2) hx;simp only[FL,Be,Option.bind_eq_some_iff] at eC;obtain⟨y,hy,eC⟩:=eC;cases hs:Ty.sub y.1 e<;>simp only[hs,cond_true,cond_false] at eC
  ·cases eC
  cases eC;exact⟨y.1,y.2,hy,hs,BC⟩
 let c0:Array Value:=madeCells zv.cells (len*e.size)
 have A6:c0.size=len*e.size:=size_madeCells _ _
 have ko:∀p,p∈(ps.toList.map fun(x:Nat×Operand)=>(x.1,a.eval x.2))→∃o,(fun i=>some (i*e.size,e.size)) p.1=some (o,p.2.cells.size)∧o+p.2.cells.size≤c0.size:=by
  intro p hp;obtain⟨x,hx,rfl⟩:=List.mem_map.1 hp;obtain⟨uO,t,pe,hu,cu,_⟩:=oV x hx;have rO:=((bP h hC hg hu).sub cu).size;simp only;refine⟨x.1*e.size,by rw[rO],?_⟩;rw[rO,A6];have:(x.1+1)*e.size≤len*e.size:=Nat.mul_le_mul_right _ uO;rw[Nat.add_mul] at this;omega
 have wT:∀(i j oi si oj sj:Nat),i≠j→(fun i=>some (i*e.size,e.size)) i=some (oi,si)→(fun i=>some (i*e.size,e.size)) j=some (oj,sj)→oi+si≤oj∨oj+sj≤oi:=by
  intro i j oi si oj sj aC hi hj;simp only[Option.some.injEq,Prod.mk.injEq] at hi hj;obtain⟨rfl,rfl⟩:=hi;obtain⟨rfl,rfl⟩:=hj;rcases Nat.lt_or_ge i j with ah|fE
  ·left;have:(i+1)*e.size≤j*e.size:=Nat.mul_le_mul_right _ ah;rw[Nat.add_mul] at this;omega
  ·right;have:(j+1)*e.size≤i*e.size:=Nat.mul_le_mul_right _ (by omega);rw[Nat.add_mul] at this;omega
 obtain⟨ej,f1,f2,f3,f4⟩:=Nm (fun i=>some (i*e.size,e.size)) (ps.toList.map fun(x:Nat×Operand)=>(x.1,a.eval x.2)) c0 ko wT (by simpa [Function.comp_def] using lF);have aj:(execOp a.eval o).run C.P w=.ok (.value (.slice (some ⟨w.heap.size,0,none⟩) len len)) (w.alloc (.cells ej E)):=by
  have n1:¬(len*inf.size>2^24):=by rw[hs];omega
  have FP:Instr.fill (fun i=>some (i*inf.size,inf.size)) c0 (ps.toList.map fun(x:Nat×Operand)=>(x.1,a.eval x.2))=some ej:=by rw[hs];exact f1
  by_cases h0:len*inf.size=0
  ·have NQ:c0=#[]:=by
        apply Array.eq_empty_of_size_eq_zero;rw[A6,←hs];exact h0
   rw[NQ] at FP
   have amT:Instr.fill (fun i=>some (i*inf.size,inf.size)) (Array.map (fun _=>default) (Array.range 0)) (ps.toList.map fun(x:Nat×Operand)=>(x.1,a.eval x.2))=some ej:=by
        have:(Array.map (fun _=>(default:Value)) (Array.range 0))=#[]:=by simp
        rw[this];exact FP
   simp[execOp,ho,Instr.buildSlice,run_underlying hT,Go.sizeOf,run_typeInfo w hi,n1,h0,amT,newRow]
  ·have NQ:c0=(Array.range (len*inf.size)).map (fun x=>zv.cells[x%zv.cells.size]!):=by simp only[c0,madeCells,hs]
   rw[NQ] at FP;have h00:¬(len=0∨inf.size=0):=by rw[←Nat.mul_eq_zero];exact h0
   simp[execOp,ho,Instr.buildSlice,run_underlying hT,Go.sizeOf,run_typeInfo w hi,n1,h0,h00,zeroValue,hzv,FP,newRow]
 refine⟨E,e,es,_,_,hT,he,rfl,aj,(Below.refl _ _).alloc (Nat.le_refl _) _,fun k hk=>by simp at hk;simp;omega,?_⟩;have gB:(PE.evs ρ es).length=len:=by rw[PE.evs_eq,List.length_map,Wi]
 have aqS:∀(i:Nat) (x:D),(PE.evs ρ es)[i]?=some x→∃v,Rep C.cap σ e v x∧∀q u,v.cells[q]?=some u→ej.toList[i*e.size+q]?=some u:=by
  intro i x hx;have Gw:i<len:=by have:=(List.getElem?_eq_some_iff.1 hx).1;omega
  obtain⟨pe,BC,eC⟩:=Xf i Gw;rw[amM BC] at hx;cases hx;unfold FL at eC;split at eC
  ·rename_i p hp;have XU:=List.mem_of_find?_eq_some hp;have GM:p.1=i:=by have:=List.find?_some hp;simpa using this
   obtain⟨_,t,pe',hu,cu,rJ⟩:=oV p XU;rw[GM,BC] at rJ;cases rJ;have bI:=(bP h hC hg hu).sub cu;refine⟨_,bI,fun q u hq=>?_⟩;have GO:q<(a.eval p.2).cells.size:=(Array.getElem?_eq_some_iff.1 hq).1;have:=f3 p.1 (a.eval p.2) (p.1*e.size) (List.mem_map.2 ⟨p,XU,rfl⟩) (by simp[bI.size]) q GO;rw[GM] at this;simp[this,hq]
  ·rename_i hp;cases eC;refine⟨zv,BU,fun q u hq=>?_⟩;have GO:q<zv.cells.size:=(Array.getElem?_eq_some_iff.1 hq).1
   have oT:i∉(ps.toList.map fun(x:Nat×Operand)=>(x.1,a.eval x.2)).map (·.1):=by
        intro cI;simp only[List.map_map,List.mem_map,Function.comp_def] at cI;obtain⟨x,xn,e⟩:=cI;have:=List.find?_eq_none.1 hp x xn;simp[e] at this
   have:=f4 i (i*e.size) e.size oT rfl q (by omega);have h9:c0[i*e.size+q]?=zv.cells[q]?:=by
        simp only[c0];rw[←qu];exact Za (by omega) Gw GO
   simp[this,h9,hq]
 have fT:∃vs:Nat→Value,∀(i:Nat) (x:D),(PE.evs ρ es)[i]?=some x→Rep C.cap σ e (vs i) x∧∀q u,(vs i).cells[q]?=some u→ej.toList[i*e.size+q]?=some u:=by
  have oQ:∀i,∃v,∀x,(PE.evs ρ es)[i]?=some x→Rep C.cap σ e v x∧∀q u,v.cells[q]?=some u→ej.toList[i*e.size+q]?=some u:=by
   intro i;cases hx:(PE.evs ρ es)[i]? with
   |none=>exact⟨undef,fun x cP=>by cases cP⟩
   |some x=>
    obtain⟨v,hv⟩:=aqS i x hx;exact⟨v,fun y hy=>by cases hy;exact hv⟩
  exact⟨fun i=>Classical.choose (oQ i),fun i x hx=>Classical.choose_spec (oQ i) x hx⟩
 obtain⟨vs,fT⟩:=fT;have ez:ej.size=len*e.size:=by rw[f2,A6]
 refine⟨ej.toList,PE.evs ρ es,by simp[Env.setO,aP],?_,⟨vs,fun i x hx=>(fT i x hx).1,fun i j u hi hj=>(fT i _ (List.getElem?_eq_getElem hi)).2 j u hj⟩,fun k hk=>by rw[aP] at hk;simp[Value.ownBlock] at hk;simp[fc,hk]⟩;rw[aP,gB];have uA:len≤maxLen:=by
  have:len*1≤len*e.size:=Nat.mul_le_mul_left _ h1;unfold maxLen;omega
 exact⟨by simp[ez],.inr ⟨w.heap.size,len,ej,rfl,h.below.size,heap_alloc_new w _,Nat.le_refl _,uA,ez,by rw[List.take_of_length_le (by simp[ez])]⟩⟩
theorem alW (h:Inv C S ρ σ own hv w0 σ0 A a w)(hC:CtxOK C σ0)(ht:¬A dst)(ah:dst<a.tmps.size){T:TypeId}{len:Nat}{ps:Array (Nat×Operand)}{r:St×List PI}(hr:tR C S [] dst T len ps.toList=some r){o:Oper}(hd:o.dst=some dst)
 (ho:o.op=.buildSlice T len ps):bM C w0 σ0 Φ S ρ A a w o r:=by
 obtain⟨E,e,es,v,w',_,_,rfl,aj,hb,cY,ct⟩:=V9 h hC rfl hr ho;refine bM.value hd fun ρ' oZ=>⟨_,_,aj,?_⟩
 rw[Dp oZ];exact h.mkObj ht ah (.row E e) _ _ (fun k=>Nat.beq k w.heap.size) hb cY ct
theorem Inv.kill (h:Inv C S ρ σ own hv w0 σ0 A a w)(j:Nat):Inv C (S.newO j .dead) ρ σ own hv w0 σ0 A a w:=by
 have dD:∀i,S.ver i≤(S.newO j .dead).ver i:=by
  intro i;show S.ver i≤bO S.ver j (S.ver j+1) i;rw[fi];by_cases e:i=j
  ·subst e;simp
  ·simp[e]
 have hc:Compat S hv (S.newO j .dead) hv:=⟨dD,fun _ _=>rfl⟩
 refine h.step (·=j) rfl (.refl σ) h.ok (fun _ _ _ hx=>.inl hx) (fun _ _ hx=>.inl hx) (.refl _ _) hc (fun i hi=>⟨by simp[St.newO,bf _ _ hi],rfl,rfl,fun k hk=>⟨hk,rfl⟩⟩) (fun i hi=>?_) h.owns (fun _=>id) (fun t=>.inl ⟨rfl,rfl,rfl⟩) (fun _ _=>rfl) (fun _ _ _=>rfl) (fun k i hk=>.inl ⟨i,hk⟩) (fun i hi=>by subst hi;simp[St.newO,aP]);subst hi;simp only[St.newO,aP];trivial
theorem ama (h:Inv C S ρ σ own hv w0 σ0 A a w)(hC:CtxOK C σ0)(ht:¬A dst)(ah:dst<a.tmps.size)(dv:∀g,g∈gs→A g.1)(hg:holds gs ρ=true){T:TypeId}{len:Nat}{ps:Array (Nat×Operand)}{r:St×List PI}(hr:wv C S gs dst T len ps.toList=some r){o:Oper}(hd:o.dst=some dst)
 (ho:o.op=.buildSlice T len ps):bM C w0 σ0 Φ S ρ A a w o r:=by
 unfold wv at hr;split at hr
 case h_2=>cases hr
 rename_i E q hT hq;simp only[Option.bind_eq_some_iff] at hr;obtain⟨e,he,hr⟩:=hr;obtain⟨E',e',es,v,w',wN,jP,rfl,aj,hb,cY,ct⟩:=V9 h hC hg hq ho;rw[hT] at wN;cases wN;rw[he] at jP;cases jP;cases hr;refine bM.value hd fun ρ' oZ=>⟨_,_,aj,?_⟩
 have hρ:ρ'=ρ.setR dst (.list (PE.evs ρ es)):=by simp[PI.runs,PI.run,PE.ev] at oZ;exact oZ.symm
 subst hρ;have h1:=h.newO dst (.row E e) (.list (PE.evs ρ es)) v (fun k=>Nat.beq k w.heap.size) hb cY ct;obtain⟨σ2,gq,_,h2⟩:=h1.fz dst;have Bg:(S.newO dst (.row E e)).fz dst=(S.newO dst (.row E e)).setO dst (.fz (.slice e.rol)):=by
  have:(S.newO dst (.row E e)).o dst=.row E e:=aP _ _ _;unfold St.fz;rw[this]
 rw[Bg] at h2;have aZ:=h2.objs dst;have e1:((S.newO dst (.row E e)).setO dst (.fz (.slice e.rol))).o dst=.fz (.slice e.rol):=aP _ _ _;rw[e1] at aZ;have bI:Rep C.cap σ2 (.slice e.rol) v (.list (PE.evs ρ es)):=by
  have:=aZ.2
  rwa [aP,show(ρ.setO dst (.list (PE.evs ρ es))).o dst=.list (PE.evs ρ es) from aP _ _ _] at this
 have h3:Inv C (S.newO dst .dead) ρ σ2 gq (bO hv dst v) w0 σ0 A a w':=by
  refine h2.step (·=dst) rfl (.refl σ2) h2.ok (fun _ _ _ hx=>.inl hx) (fun _ _ hx=>.inl hx) (.refl _ _) ⟨fun i=>Nat.le_refl _,fun _ _=>rfl⟩ (fun i hi=>⟨?_,?_,rfl,fun k hk=>⟨hk,rfl⟩⟩) (fun i hi=>?_) h2.owns (fun _=>id) (fun t=>.inl ⟨rfl,rfl,rfl⟩) (fun _ _=>rfl) (fun _ _ _=>rfl) (fun k i hk=>.inl ⟨i,hk⟩) (fun i hi=>by subst hi;simp[St.newO,aP])
  ·simp[St.newO,St.setO,bf _ _ hi]
  ·simp[Env.setO,bf _ _ hi]
  ·subst hi;simp only[St.newO,aP];trivial
 have hh:holds gs (ρ.setR dst (.list (PE.evs ρ es)))=true:=by rw[Bz (t:=dst) fun g hm e=>ht (by rw[←e];exact dv g hm)];exact hg
 cases gs with
 |nil=>exact⟨_,_,_,h3.setReg ht (s:=.dat (.slice e.rol)) bI ah (fun _ _ e=>by cases e)⟩
 |cons g bu=>
  refine⟨_,_,_,h3.setReg ht (s:=.opt (g::bu) (.dat (.slice e.rol))) ⟨fun _=>bI,fun e=>absurd (hh.symm.trans e) (by decide)⟩ ah (fun gs s e=>?_)⟩;cases e;exact⟨dv,fun _ _ e=>by cases e⟩
end
end Cx
