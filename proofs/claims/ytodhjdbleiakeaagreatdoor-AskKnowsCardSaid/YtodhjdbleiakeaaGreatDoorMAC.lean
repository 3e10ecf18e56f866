/-
  Shared texts of this claim.
-/
import Derived.Test.YtodhjdbleiakeaaGreatDoorMAB
import Derived.Laws.OwnMore
import Derived.Lib.ConvBytes
set_option linter.unusedSimpArgs false
set_option linter.unusedVariables false
namespace Cx
open Go Go.RowKit
def mkObj (S:St)(dst:Nat)(ob:Ob):St:=(S.newO dst ob).setR dst (.obj dst (S.ver dst+1))
def mkPtr (S:St)(dst:Nat)(ob:Ob):St:=(S.newO dst ob).setR dst (.ptr dst (S.ver dst+1) 0)
abbrev lg:=Option (St×List PI)
def B1 (C:Ctx)(S:St)(dst:Nat)(T:TypeId)(x:Operand):lg:=
 match use C S [] x,C.P.underlying T with
 |some (.nils _,_),some (.slice E)=>(oh C.P E).map fun e=>(mkObj S dst (.row E e),[.setO dst (.con (.list [])),.setR dst (.con .none)])
 |_,_=>Option.none
def BT (C:Ctx)(S:St)(dst:Nat)(T:TypeId):lg:=
 match oh C.P T,C.P.info? T,pv C.P T with
 |some t,some inf,some ag=>
  bif sB inf t&&(t.rowT||t.one) then
   (oq t).map fun z=>(mkPtr S dst (.box ag (z.1.flat.map .dat)),[.setO dst (.con (.agg z.2.cells)),.setR dst (.con .none)])
  else Option.none
 |_,_,_=>Option.none
def BV (C:Ctx)(S:St)(dst:Nat)(T:TypeId)(x:Operand):lg:=
 match use C S [] x,pv C.P T with
 |some (t,e),some ag=>
  bif t.rowT||t.one then some (mkPtr S dst (.box ag (t.flat.map .dat)),[.setO dst (.mk [e]),.setR dst (.con .none)]) else Option.none
 |_,_=>Option.none
def BY (C:Ctx)(S:St)(dst:Nat)(T:TypeId)(r:Option Operand):lg:=
 match C.P.underlying T,r with
 |some (.map K E),Option.none=>
  (oh C.P K).bind fun kt=>(oh C.P E).map fun et=>(mkObj S dst (.mp kt et),[.setO dst (.con (.map [])),.setR dst (.con .none)])
 |_,_=>Option.none
def BZ (C:Ctx)(S:St)(dst:Nat)(T:TypeId)(l c:Operand):lg:=
 match C.P.underlying T,use C S [] l,use C S [] c with
 |some (.slice E),some (.int _,n),some (.int _,m)=>
  (oh C.P E).bind fun e=>
    bif qj C.P E e then
     (oq e).bind fun z=>
        bif Ty.sub z.1 e then some (mkObj S dst (.row E e),[.chk (Rk n),.chk (.ci .eql n m),.setO dst (.rep n (.con z.2)),.setR dst (.con .none)]) else Option.none
    else Option.none
 |_,_,_=>Option.none
def B2 (C:Ctx)(S:St)(dst:Nat)(T:TypeId)(x:Operand):lg:=
 match C.P.underlying T,gl S [] x with
 |some (.map _ _),.obj j ver=>
  bif Nat.beq ver (S.ver j)&& !Nat.beq j dst then
   match S.o j with
   |.mp kt et=>some (mkObj (S.mv j dst) dst (.it kt et),[.setO dst (.tup [.lst [],.o j]),.setR dst (.con .none)])
   |_=>Option.none
  else Option.none
 |_,_=>Option.none
def BW (C:Ctx)(S:St)(dst:Nat)(s d:TypeId)(x:Operand):lg:=
 match use C S [] x,C.P.underlying s,C.P.underlying d with
 |some (.str,e),some .string,some (.slice E)=>
  (match C.P.underlying E with
   |some (.int .u8)=>some (S.setR dst (.dat (.slice (.int .u8))),[.chk (.ci .leq (.slen e) (.con (.int mN))),.setR dst (.bytes e)])
   |_=>Option.none)
 |_,_,_=>Option.none
section
variable {C:Ctx} {S:St} {ρ:Env} {σ:Im} {own:Nat→Option Nat} {hv:Nat→Value} {w0:World} {σ0:Base} {A:Nat→Prop} {a:Act} {w:World} {gs:List (Nat×Bool)} {Φ:aV} {dst:Nat}
def bX (C:Ctx)(w0:World)(σ0:Base)(Φ:aV)(S:St)(ρ:Env)(A:Nat→Prop)(a:Act)(w:World)(o:Oper)(r:St×List PI):Prop:=
 ∀ρ',PI.runs Φ r.2 ρ=some ρ'→∀(K:Act→World→Prop) (Q:Exit→Act→World→Prop),(∀a' w',Good C w0 σ0 r.1 ρ' (fun u=>A u∨o.dst=some u) a' w'→a'.tmps.size=a.tmps.size→K a' w')→o.wp C.P a w K Q
theorem size_put (a:Act)(d:Option Tmp)(v:Value):(a.put d v).tmps.size=a.tmps.size:=by
 cases d<;>simp[Act.put]
theorem bX.value {o:Oper}{r:St×List PI}(hd:o.dst=some dst)(hx:∀ρ',PI.runs Φ r.2 ρ=some ρ'→∃v w',(execOp a.eval o).run C.P w=.ok (.value v) w'∧Good C w0 σ0 r.1 ρ' (fun u=>A u∨u=dst) (a.put (some dst) v) w'):bX C w0 σ0 Φ S ρ A a w o r:=by
 intro ρ' ak K Q hK;obtain⟨v,w',h1,h2⟩:=hx ρ' ak;simp only[Oper.wp,h1,Oper.upon,hd];refine hK _ _ ?_ (size_put _ _ _)
 have:(fun u=>A u∨o.dst=some u)=(fun u=>A u∨u=dst):=by
  funext u;rw[hd];simp[eq_comm]
 rw[this];exact h2
theorem bX.skip {o:Oper}{r:St×List PI}(hd:o.dst=none)(hx:∀ρ',PI.runs Φ r.2 ρ=some ρ'→∃w',(execOp a.eval o).run C.P w=.ok .skip w'∧Good C w0 σ0 r.1 ρ' A a w'):bX C w0 σ0 Φ S ρ A a w o r:=by
 intro ρ' ak K Q hK;obtain⟨w',h1,h2⟩:=hx ρ' ak;simp only[Oper.wp,h1,Oper.upon,hd]
 have:(fun u=>A u∨o.dst=some u)=A:=by
  funext u;rw[hd];simp
 rw[this] at hK;exact hK _ _ h2 (size_put _ _ _)
theorem dX.eff (h:Inv C S ρ σ own hv w0 σ0 A a w)(ht:¬A dst)(ah:dst<a.tmps.size){o:Oper}(hd:o.dst=some dst){s:Sh}{DI:List PI}(hq:dX C S ρ σ hv Φ dst a w o (s,DI)):bX C w0 σ0 Φ S ρ A a w o (S.setR dst s,DI):=by
 refine bX.value hd fun ρ' ak=>?_;obtain⟨v,d,rfl,h1,h2,h3⟩:=hq ρ' ak;exact⟨v,w,h1,σ,own,hv,h.setReg ht (aQ.mono' (.refl σ) (.refl S hv) h3 h2) ah (fun gs s' e=>absurd e (h3 gs s'))⟩
theorem dX.effG (h:Inv C S ρ σ own hv w0 σ0 A a w)(ht:¬A dst)(ah:dst<a.tmps.size)(dF:∀g,g∈gs→A g.1)(hg:holds gs ρ=true){o:Oper}(hd:o.dst=some dst){s:Sh}{DI:List PI}(hq:dX C S ρ σ hv Φ dst a w o (s,DI)):bX C w0 σ0 Φ S ρ A a w o (S.setR dst (.opt gs s),DI):=by
 refine bX.value hd fun ρ' ak=>?_;obtain⟨v,d,rfl,h1,h2,h3⟩:=hq ρ' ak;have hh:holds gs (ρ.setR dst d)=true:=by rw[CW (t:=dst) (d:=d) fun g hm e=>ht (by rw[←e];exact dF g hm)];exact hg
 refine⟨v,w,h1,σ,own,hv,h.setReg ht ⟨fun _=>aQ.mono' (.refl σ) (.refl S hv) h3 h2,fun e=>absurd (hh.symm.trans e) (by decide)⟩ ah (fun bM s' e=>?_)⟩;cases e;exact⟨dF,h3⟩
theorem Inv.passed (h:Inv C S ρ σ own hv w0 σ0 A a w)(ht:¬A dst)(ah:dst<a.tmps.size)(dF:∀g,g∈gs→A g.1)(hg:holds gs ρ=false){s:Sh}(hs:∀bM s',s≠.opt bM s')(d:D):Inv C (S.setR dst (.opt gs s)) (ρ.setR dst d) σ own hv w0 σ0 (fun u=>A u∨u=dst) (a.put (some dst) undef) w:=by
 have hh:holds gs (ρ.setR dst d)=false:=by rw[CW (t:=dst) (d:=d) fun g hm e=>ht (by rw[←e];exact dF g hm)];exact hg
 refine h.setReg ht (s:=.opt gs s) (v:=undef) (d:=d) ⟨fun e=>absurd (hh.symm.trans e) (by decide),fun _=>rfl⟩ ah (fun bM s' e=>?_);cases e;exact⟨dF,hs⟩
theorem Inv.mkObj (h:Inv C S ρ σ own hv w0 σ0 A a w)(ht:¬A dst)(ah:dst<a.tmps.size)(ob:Ob)(d:D)(v:Value)(nb:Nat→Bool){w':World}(hw:Below w.heap.size w w')(da:∀k,nb k=true→w.heap.size≤k∧k<w'.heap.size)
 (cF:cf C (S.newO dst ob) (ρ.setO dst d) σ (fN own dst nb) (bY hv dst v) w' w0.heap.size dst ob) (mE:ob≠.tr:=by intro h;cases h):
 Good C w0 σ0 (Cx.mkObj S dst ob) ((ρ.setO dst d).setR dst .none) (fun u=>A u∨u=dst) (a.put (some dst) v) w':=by
 have h1:=h.newO dst ob d v nb hw da cF mE;have h2:=h1.setObj ht (j:=dst) (v:=v) (aW _ _ _) ah;have e:(S.newO dst ob).ver dst=S.ver dst+1:=aW _ _ _;rw[e] at h2;exact⟨_,_,_,h2⟩
theorem Inv.mkPtr (h:Inv C S ρ σ own hv w0 σ0 A a w)(ht:¬A dst)(ah:dst<a.tmps.size)(ob:Ob)(d:D)(k:Nat)(nb:Nat→Bool){w':World}(hw:Below w.heap.size w w')(da:∀k,nb k=true→w.heap.size≤k∧k<w'.heap.size)
 (cF:cf C (S.newO dst ob) (ρ.setO dst d) σ (fN own dst nb) (bY hv dst (.pointer (some ⟨k,0,none⟩))) w' w0.heap.size dst ob) (mE:ob≠.tr:=by intro h;cases h):
 Good C w0 σ0 (Cx.mkPtr S dst ob) ((ρ.setO dst d).setR dst .none) (fun u=>A u∨u=dst) (a.put (some dst) (.pointer (some ⟨k,0,none⟩))) w':=by
 have h1:=h.newO dst ob d _ nb hw da cF mE;have e:(S.newO dst ob).ver dst=S.ver dst+1:=aW _ _ _;have h2:=h1.setReg ht (s:=.ptr dst (S.ver dst+1) 0) (v:=.pointer (some ⟨k,0,none⟩)) (d:=.none) ⟨Nat.le_of_eq e.symm,fun _=>⟨k,aW _ _ _,rfl⟩⟩ ah (fun _ _ e=>by cases e);exact⟨_,_,_,h2⟩
theorem E1 {e:PE}{ρ':Env}(h:PI.runs Φ [.setO dst e,.setR dst (.con .none)] ρ=some ρ'):ρ'=(ρ.setO dst (e.ev ρ)).setR dst .none:=by
 simp[PI.runs,PI.run,PE.ev] at h;exact h.symm
theorem YE (h:Inv C S ρ σ own hv w0 σ0 A a w){t:Ty}{v:Value}{d:D}(hr:Rep C.cap σ t v d)(ho:t.rowT=true∨t.one=true)(ag:Bool)(T:TypeId):
 cf C (S.newO dst (.box ag (t.flat.map .dat))) (ρ.setO dst (.agg d.cells)) σ (fN own dst (fun k=>Nat.beq k w.heap.size)) (bY hv dst (.pointer (some ⟨w.heap.size,0,none⟩))) (w.alloc (.cells v.cells T)) w0.heap.size dst (.box ag (t.flat.map .dat)):=by
 obtain⟨f1,f2,f3⟩:=hr.flat ho;refine⟨w.heap.size,v.cells,T,d.cells,aW _ _ _,by simp[fN],heap_alloc_new w _,by rw[hr.size];simp[f1],by simp[Env.setO,aW],by simp[f1,f2],fun i s hi=>?_⟩;simp only[cS,aG] at hi;obtain⟨ti,Qs,rfl⟩:=hi;exact⟨fun _ _ e=>(by cases e),(f3 i ti Qs).2⟩
theorem apI (h:Inv C S ρ σ own hv w0 σ0 A a w)(hC:CtxOK C σ0)(ht:¬A dst)(ah:dst<a.tmps.size){T:TypeId}{x:Operand}{r:St×List PI}(hr:B1 C S dst T x=some r){o:Oper}(hd:o.dst=some dst)(ho:o.op=.assign x):bX C w0 σ0 Φ S ρ A a w o r:=by
 unfold B1 at hr;split at hr
 case h_2=>cases hr
 rename_i e0 e1 E hu hT;simp only[aG] at hr;obtain⟨e,he,rfl⟩:=hr;have hx:=bZ h hC rfl hu;have cA:a.eval x=.slice none 0 0:=by
  generalize a.eval x=v at hx;generalize e1.ev ρ=d at hx;cases hx;rfl
 refine bX.value hd fun ρ' ak=>⟨.slice none 0 0,w,by simp[execOp,ho,cA],?_⟩
 rw[E1 ak];exact h.mkObj ht ah (.row E e) _ _ (fun _=>false) (.refl _ _) (by simp) ⟨[],[],by simp[Env.setO,aW,PE.ev],by rw[aW];exact World.ownsRow_nil _ _ _ _,⟨fun _=>undef,by simp,by simp⟩,by rw[aW];simp[Value.ownBlock]⟩
theorem aph (h:Inv C S ρ σ own hv w0 σ0 A a w)(ht:¬A dst)(ah:dst<a.tmps.size){T:TypeId}{r:St×List PI}(hr:BT C S dst T=some r){o:Oper}(hd:o.dst=some dst)(ho:o.op=.alloc T):bX C w0 σ0 Φ S ρ A a w o r:=by
 unfold BT at hr;split at hr
 case h_2=>cases hr
 rename_i t inf ag Qv hi ha;cases hc:(sB inf t&&(t.rowT||t.one))<;>simp only[hc,cond_true,cond_false] at hr
 ·cases hr
 simp only[ar,gA] at hc;simp only[aG] at hr;obtain⟨z,hz,rfl⟩:=hr;obtain⟨v0,vF,yt⟩:∃v0,inf.zero=some v0∧jc t v0=true:=by
  have:=hc.1;unfold sB at this;split at this
  ·exact⟨_,by assumption,this⟩
  ·cases this
 obtain⟨k1,k2,k3⟩:=wT (cap:=C.cap) (σ:=σ) hz yt;have C7:z.1.rowT=true∨z.1.one=true:=by
  rcases hc.2 with e|e
  ·left;cases t<;>simp[Ty.rowT] at e;simp[oq] at hz;obtain⟨_,_,rfl⟩:=hz;rfl
  ·right;rw[k3];exact e
 refine bX.value hd fun ρ' ak=>⟨.pointer (some ⟨w.heap.size,0,none⟩),w.alloc (.cells v0.cells T),?_,?_⟩
 ·simp[execOp,ho,Instr.alloc,zeroValue,run_typeInfo w hi,vF,newVar,newRow]
 ·rw[E1 ak];exact h.mkPtr ht ah _ _ _ (fun k=>Nat.beq k w.heap.size) ((Below.refl _ _).alloc (bk _) _) (fun k hk=>by simp at hk;simp;omega) (YE h k1 C7 ag T)
theorem apl (h:Inv C S ρ σ own hv w0 σ0 A a w)(hC:CtxOK C σ0)(ht:¬A dst)(ah:dst<a.tmps.size){T:TypeId}{x:Operand}{r:St×List PI}(hr:BV C S dst T x=some r){o:Oper}(hd:o.dst=some dst)(ho:o.op=.box T x):bX C w0 σ0 Φ S ρ A a w o r:=by
 unfold BV at hr;split at hr
 case h_2=>cases hr
 rename_i t e ag hu ha;cases hc:(t.rowT||t.one)<;>simp only[hc,cond_true,cond_false] at hr
 ·cases hr
 cases hr;simp only[gA] at hc;have hx:=bZ h hC rfl hu;refine bX.value hd fun ρ' ak=>⟨.pointer (some ⟨w.heap.size,0,none⟩),w.alloc (.cells (a.eval x).cells T),?_,?_⟩
 ·simp[execOp,ho,Instr.box,newVar,newRow]
 ·rw[E1 ak];have:(PE.mk [e]).ev ρ=.agg (e.ev ρ).cells:=by simp[PE.ev,PE.evc]
  rw[this];exact h.mkPtr ht ah _ _ _ (fun k=>Nat.beq k w.heap.size) ((Below.refl _ _).alloc (bk _) _) (fun k hk=>by simp at hk;simp;omega) (YE h hx hc ag T)
theorem apC (h:Inv C S ρ σ own hv w0 σ0 A a w)(ht:¬A dst)(ah:dst<a.tmps.size){T:TypeId}{m:Option Operand}{r:St×List PI}(hr:BY C S dst T m=some r){o:Oper}(hd:o.dst=some dst)(ho:o.op=.makeMap T m):bX C w0 σ0 Φ S ρ A a w o r:=by
 unfold BY at hr;split at hr
 case h_2=>cases hr
 rename_i K E hT;simp only[az,aG] at hr;obtain⟨kt,hk,et,he,rfl⟩:=hr;refine bX.value hd fun ρ' ak=>⟨.map (some w.heap.size),w.alloc (.map #[] 0),?_,?_⟩
 ·simp[execOp,ho,Instr.makeMap]
 ·rw[E1 ak]
  exact h.mkObj ht ah (.mp kt et) _ _ (fun k=>Nat.beq k w.heap.size) ((Below.refl _ _).alloc (bk _) _) (fun k hk=>by simp at hk;simp;omega)
   ⟨w.heap.size,#[],0,[],aW _ _ _,by simp[fN],heap_alloc_new w _,by simp[Env.setO,aW,PE.ev],rfl,⟨by simp,by simp[me]⟩,by simp⟩
theorem apK (h:Inv C S ρ σ own hv w0 σ0 A a w)(ht:¬A dst)(ah:dst<a.tmps.size){T:TypeId}{x:Operand}{r:St×List PI}(hr:B2 C S dst T x=some r){o:Oper}(hd:o.dst=some dst)(ho:o.op=.range T x):bX C w0 σ0 Φ S ρ A a w o r:=by
 unfold B2 at hr;split at hr
 case h_2=>cases hr
 rename_i K E j ver hT es;obtain⟨eC,_⟩:=wL h (gs:=[]) rfl x;rw[es] at eC;cases hb:(Nat.beq ver (S.ver j)&& !Nat.beq j dst)<;>simp only[hb,cond_true,cond_false] at hr
 ·cases hr
 simp only[ar,iu] at hb;have cA:=eC.2 (aL hb.1);have aJ:j≠dst:=fun e=>by subst e;simp at hb
 have bp:=h.objs j;split at hr
 case h_2=>cases hr
 rename_i kt et eo;cases hr;rw[eo] at bp;obtain⟨m,arr,clock,ds,h1,h2,h3,h4,h5,⟨h6,qs⟩,h7⟩:=bp;have mD:=h.mv aJ (by rw[eo];rfl);have rJ:m<w.heap.size:=(fT.1 h3).1;have PJ:w0.heap.size≤m:=(h.owns m j h2).1;refine bX.value hd fun ρ' ak=>⟨.pointer (some ⟨w.heap.size,0,none⟩),w.alloc (.mapIter (some m) clock #[] clock),?_,?_⟩
 ·simp[execOp,ho,Instr.range,cA,h1,run_underlying hT,getObj,Sem.run,h3]
 have hρ:ρ'=((ρ.setO dst (.tup [.list [],.map ds])).setR dst .none):=by
  simp[PI.runs,PI.run,PE.ev,PE.evs,h4] at ak;exact ak.symm
 subst hρ;have ga:Below w.heap.size w (w.alloc (.mapIter (some m) clock #[] clock)):=(Below.refl _ _).alloc (bk _) _;have Qn:=mD.step (S':=(S.mv j dst).newO dst (.it kt et)) (ρ':=(ρ.setO dst (.tup [.list [],.map ds]))) (σ':=σ) (hv':=bY (bY hv dst (hv j)) dst (.pointer (some ⟨w.heap.size,0,none⟩)))
  (own':=fun k=>if k=w.heap.size then some dst else(if own k=some j then some dst else if own k=some dst then none else own k)) (a':=a) (A':=A) (w':=w.alloc (.mapIter (some m) clock #[] clock)) (fun i=>i=dst)
  rfl (.refl σ) (h.ok.below ga) (fun _ _ _ hx=>.inl hx) (fun _ _ hx=>.inl hx) (ga.mono h.below.size) ⟨fun i=>?_,fun i e=>?_⟩ (fun i hi=>⟨?_,?_,?_,fun k hk=>⟨?_,?_⟩⟩) (fun i hi=>?_) (fun k i hk=>?_) (fun _=>id) (fun t=>.inl ⟨rfl,rfl,rfl⟩) (fun _ _=>rfl) (fun k hk _=>ga.block k hk) (fun k i hk=>?_) (fun i hi=>by subst hi;simp[St.newO,aW])
 ·have kI:=Qn.setObj ht (j:=dst) (v:=.pointer (some ⟨w.heap.size,0,none⟩)) (aW _ _ _) ah;have e:((S.mv j dst).newO dst (.it kt et)).ver dst=(S.mv j dst).ver dst+1:=aW _ _ _;rw[e] at kI;exact⟨_,_,_,kI⟩
 ·simp only[St.newO,fS];split<;>rename_i e
  ·subst e;omega
  ·omega
 ·simp only[St.newO,fS] at e;split at e
  ·rename_i e';subst e';omega
  ·rename_i PS;exact bA _ _ PS
 ·simp[St.newO,bA _ _ hi]
 ·simp[Env.setO,bA _ _ hi]
 ·exact bA _ _ hi
 ·have aJW:=(mD.owns k i hk).2.1;have bz:k≠w.heap.size:=by omega
  simp only[if_neg bz];exact hk
 ·exact ga.block k (mD.owns k i hk).2.1
 ·subst hi;simp only[St.newO,aW];have eZ:m≠w.heap.size:=by omega
  refine⟨w.heap.size,m,arr,clock,ds,[],aW _ _ _,by simp,by simp[eZ,h2],by omega,?_,heap_alloc_new w _,by simp[Env.setO,aW,gk],List.nodup_nil,by simp,h5,qs,h7⟩;rw[ga.block m rJ];exact h3
 ·split at hk
  ·rename_i e;subst e;refine⟨h.below.size,by simp,fun o=>?_,?_⟩
   ·cases hc:σ.c w.heap.size o with
    |none=>rfl
    |some u=>have:=h.lt hc;omega
   ·cases hc:σ.m w.heap.size with
    |none=>rfl
    |some u=>have:=h.ltm hc;omega
  ·obtain⟨g1,g2,g3,g4⟩:=mD.owns k i hk;exact⟨g1,by simp;omega,g3,g4⟩
 ·split at hk
  ·rename_i e;subst e;exact .inr (bk _)
  ·exact .inl ⟨i,hk⟩
theorem apq (h:Inv C S ρ σ own hv w0 σ0 A a w)(hC:CtxOK C σ0)(ht:¬A dst)(ah:dst<a.tmps.size){T U:TypeId}{x:Operand}{r:St×List PI}(hr:BW C S dst T U x=some r){o:Oper}(hd:o.dst=some dst)(ho:o.op=.convert T U x):bX C w0 σ0 Φ S ρ A a w o r:=by
 unfold BW at hr;split at hr
 case h_2=>cases hr
 rename_i e E hu hT hU;split at hr
 case h_2=>cases hr
 rename_i hE;cases hr;have hx:=bZ h hC rfl hu;obtain⟨s,aZ,bt,hs⟩:=hx.str_inv;have tA:=Lib.run_convert_string_bytes (P:=C.P) w T U E s hT hU hE;refine bX.value hd fun ρ' ak=>⟨.slice (some ⟨w.heap.size,0,none⟩) s.size (grownCap w s.size 0 E),Lib.bytesWorld w E s,by simp[execOp,ho,aZ,tA],?_⟩
 simp only[PI.runs,PI.run,az] at ak;obtain⟨ρ1,g1,ρ2,g2,g3⟩:=ak;cases c1:((PE.ci BinOp.leq (.slen e) (.con (.int mN))).ev ρ).b<;>simp only[c1,cond_true,cond_false] at g1
 ·cases g1
 cases g1;cases g2;cases g3;have auU:s.size≤4294967296:=by
  simp[PE.ev,bt,D.s,D.i,D.b,gW,D.int,mN] at c1;omega
 have ga:Below w.heap.size w (Lib.bytesWorld w E s):=⟨rfl,rfl,rfl,by rw[Lib.bytesWorld_size];omega,fun k hk=>Lib.bytesWorld_at_old w E s k hk⟩
 have aS:(Lib.bytesWorld w E s).heap.size=w.heap.size+1:=Lib.bytesWorld_size w E s
 let σ':Im:={c:=fun k i=>if k=w.heap.size then(if i<s.size then some (.int .u8 (s.data.toList.getD i 0).toNat) else none) else σ.c k i,m:=σ.m}
 have hle:σ.le σ':=by
  refine⟨fun k o v hc=>?_,fun k es hc=>hc⟩;have:k≠w.heap.size:=by have:=h.lt hc;omega
  simp[σ',this,hc]
 have aH:σ'.ok (Lib.bytesWorld w E s):=by
  refine⟨fun k i v hc=>?_,(h.ok.below ga).m⟩;simp only[σ'] at hc;split at hc
  ·rename_i ek;subst ek;split at hc
   ·rename_i hi;cases hc;exact Lib.bytesWorld_cell w E s i hi
   ·cases hc
  ·exact(h.ok.below ga).c k i v hc
 have h1:=h.step (S':=S) (ρ':=ρ) (σ':=σ') (own':=own) (hv':=hv) (A':=A) (a':=a) (w':=Lib.bytesWorld w E s) (fun _=>False) rfl hle aH (fun k i v hc=>?_) (fun k es hc=>.inl hc) (ga.mono h.below.size) ⟨fun _=>bk _,fun _ _=>rfl⟩
  (fun j _=>⟨rfl,rfl,rfl,fun k hk=>⟨hk,ga.block k (h.owns k j hk).2.1⟩⟩) (fun j hj=>hj.elim) (fun k j hk=>?_) (fun _=>id) (fun t=>.inl ⟨rfl,rfl,rfl⟩) (fun _ _=>rfl) (fun k hk _=>ga.block k hk) (fun k i hk=>.inl ⟨i,hk⟩) (fun _ hf=>hf.elim)
 ·refine⟨_,_,_,h1.setReg ht (s:=.dat (.slice (.int .u8))) ?_ ah (fun _ _ e=>by cases e)⟩;show Rep C.cap σ' _ _ _;simp only[PE.ev,bt,D.s];refine .slice (.int .u8) w.heap.size 0 s.size _ _ (fun i=>.int .u8 (s.data.toList.getD i 0).toNat) (by simp) (grownCap_ge w s.size 0 E) (grownCap_le_maxLen w s.size 0 E (by unfold maxLen;omega)) (fun i x hx=>?_) (fun i j u hi hu=>?_)
  ·simp only[cS,aG] at hx;obtain⟨b,hb,rfl⟩:=hx;have:s.data.toList.getD i 0=b:=by simp[aT,hb]
   rw[this];have:=b.toNat_lt;exact .int .u8 _ (by show(0:Int)≤_;omega) (by show _≤(255:Int);omega)
  ·have hj:j=0:=by
        have:=(fT.1 hu).1;simp[Value.cells] at this;exact this
   subst hj;simp[Value.cells] at hu;subst hu;simp[σ',Ty.size,hi]
 ·simp only[σ'] at hc;split at hc
  ·rename_i ek;exact .inr ⟨by have:=h.below.size;omega,.inr (by omega)⟩
  ·exact .inl hc
 ·obtain⟨g1,g2,g3,g4⟩:=h.owns k j hk;refine⟨g1,by omega,fun i=>?_,g4⟩;have:k≠w.heap.size:=by omega
  simp[σ',this,g3 i]
end
end Cx
namespace Cx
open Go Go.RowKit
def Hd (C:Ctx)(S:St)(gs:List (Nat×Bool))(e:Ty)(z:D)(parts:List (Nat×Operand))(i:Nat):Option PE:=
 match parts.find? (fun p=>Nat.beq p.1 i) with
 |some p=>(use C S gs p.2).bind fun a=>bif Ty.sub a.1 e then some a.2 else Option.none
 |Option.none=>some (PE.con z)
def uU (C:Ctx)(S:St)(gs:List (Nat×Bool))(dst:Nat)(T:TypeId)(len:Nat)(parts:List (Nat×Operand)):lg:=
 match C.P.underlying T with
 |some (.slice E)=>
  (oh C.P E).bind fun e=>(oq e).bind fun z=>
    bif qj C.P E e&&Ty.sub z.1 e&&jx (parts.map (·.1))&&parts.all (fun p=>Nat.blt p.1 len)&&Nat.ble (len*e.size) 16777216 then
     ((List.range len).mapM (Hd C S gs e z.2 parts)).map fun es=>(mkObj S dst (.row E e),[.setO dst (.lst es),.setR dst (.con .none)])
    else Option.none
 |_=>Option.none
def xD (C:Ctx)(S:St)(gs:List (Nat×Bool))(dst:Nat)(T:TypeId)(len:Nat)(parts:List (Nat×Operand)):lg:=
 match C.P.underlying T,uU C S gs dst T len parts with
 |some (.slice E),some r=>
  (oh C.P E).bind fun e=>
    match r.2 with
    |.setO _ x::_=>some ((S.newO dst .dead).setR dst (match gs with|[]=>.dat (.slice e.rol)|_=>.opt gs (.dat (.slice e.rol))),[.setR dst x])
    |_=>Option.none
 |_,_=>Option.none
def sR (C:Ctx)(S:St)(T:TypeId)(x v:Operand):lg:=
 match C.P.info? T with
 |some inf=>
  match gl S [] x with
  |.ptr j ver off=>
   bif Nat.beq ver (S.ver j) then
    match S.o j with
    |.box ag shs=>
     match use C S [] v with
     |some (t,e)=>
      bif Nat.beq inf.size t.size&&(t.rowT||t.one)&&Nat.ble (off+t.size) shs.length then
             some (S.setO j (.box ag (shs.take off++t.flat.map .dat++shs.drop (off+t.size))),[.setO j (.setc (.o j) off e)])
      else Option.none
     |Option.none=>
      match gl S [] v with
      |.obj j' om=>
       bif Nat.beq om (S.ver j')&&mK (S.o j')&&Nat.beq inf.size 1&&Nat.blt off shs.length then
              some (S.setO j (.box ag (shs.set off (.obj j' om))),[.setO j (.setc (.o j) off (.con .none))])
       else Option.none
      |_=>Option.none
    |_=>Option.none
   else Option.none
  |.eptr j ver size off=>
   bif Nat.beq ver (S.ver j) then
    match S.o j,use C S [] v with
    |.row _ (.agg ts),some (t,e)=>
     bif Nat.beq inf.size t.size&&(t.rowT||t.one)&&Nat.beq size ts.length&&Nat.ble (off+t.size) ts.length&&Ty.subs t.flat ((ts.drop off).take t.size) then
         some (S,[.setO j (.setn (.o j) (ub x) off e)])
     else Option.none
    |.row _ e0,some (t,e)=>
     bif Nat.beq inf.size 1&&Nat.beq size 1&&Nat.beq off 0&&e0.one&&Ty.sub t e0 then some (S,[.setO j (.setn (.o j) (ub x) 0 e)]) else Option.none
    |_,_=>Option.none
   else Option.none
  |_=>Option.none
 |Option.none=>Option.none
def rq (C:Ctx)(S:St)(T:TypeId)(m k v:Operand):lg:=
 match C.P.underlying T,gl S [] m with
 |some (.map K _),.obj j ver=>
  bif Nat.beq ver (S.ver j) then
   match S.o j,use C S [] k,use C S [] v with
   |.mp kt et,some (tk,ek),some (tv,ev)=>
    bif Ty.beq tk kt&&tH C.P K kt&&Ty.sub tv et then some (S,[.chk (.ci .lss (.mlen (.o j)) (.con (.int mN))),.setO j (.put (.o j) ek ev)]) else Option.none
   |_,_,_=>Option.none
  else Option.none
 |_,_=>Option.none
def Iu (x y:PE):PE:=.ci .leq (.llen (.app x y)) (.con (.int mN))
def My:Ty→Ty→Bool
 |.slice e',e=>Ty.beq e'.unf e
 |.nils _,_=>true
 |_,_=>false
def BU (C:Ctx)(S:St)(dst:Nat)(T:TypeId)(s x:Operand):lg:=
 match C.P.underlying T with
 |some (.slice E)=>
  (oh C.P E).bind fun e=>
    match view C S [] x with
    |some (tx,ex)=>
     bif qj C.P E e&&My tx e then
        match use C S [] s with
        |some (.nils _,_)=>some (mkObj S dst (.row E e),[.chk (Iu (.con (.list [])) ex),.setO dst (.app (.con (.list [])) ex),.setR dst (.con .none)])
        |some _=>Option.none
        |Option.none=>
         match gl S [] s with
         |.obj j ver=>
          bif Nat.beq ver (S.ver j) then
             match S.o j with
             |.row E' e'=>
              bif Nat.beq E' E&&Ty.beq e' e then
                some ((S.newO j (.row E e)).setR dst (.obj j (S.ver j+1)),[.chk (Iu (.o j) ex),.setO j (.app (.o j) ex),.setR dst (.con .none)])
              else Option.none
             |_=>Option.none
          else Option.none
         |_=>Option.none
     else Option.none
    |Option.none=>Option.none
 |_=>Option.none
theorem OE {P:Program}{T:TypeId}{e:Ty}(h:qj P T e=true):∃inf z,P.info? T=some inf∧inf.size=e.size∧inf.bytes≤vQ∧1≤e.size∧inf.zero=some z∧jc e z=true:=by
 unfold qj at h;split at h
 ·rename_i i hi;simp only[ar] at h;have h4:=h.2;unfold sB at h4;split at h4
  ·rename_i z hz;exact⟨i,z,hi,aL h.1.1.1,kE h.1.1.2,kE h.1.2,hz,h4⟩
  ·cases h4
 ·cases h
theorem Xq {e:Ty}{z:Value}(h:jc e z=true):z.cells.size=e.size:=by
 cases e with
 |agg ts=>
  cases z with
  |agg vs=>simp only[jc] at h;have:=(Xr ts vs.toList h).1;simpa [Value.cells,Ty.size] using this
  |_=>simp[jc] at h
 |_=>cases z<;>simp_all [jc,wS,Value.cells,Ty.size]
theorem aoJ {ρ:Env}{x y:PE}(h:((PE.ci .lss x y).ev ρ).b=true):(x.ev ρ).i<(y.ev ρ).i:=by
 simpa [PE.ev,D.b_bool,gW] using h
theorem Zw {ρ:Env}{x y:PE}(h:((PE.ci .leq x y).ev ρ).b=true):(x.ev ρ).i≤(y.ev ρ).i:=by
 simpa [PE.ev,D.b_bool,gW] using h
theorem awE {n:Nat}(h:(n:Int)<mN):n<4294967296:=by unfold mN at h;omega
theorem ach {n:Nat}(h:(n:Int)≤mN):n≤4294967296:=by unfold mN at h;omega
theorem St.setO_self {S:St}{j:Nat}{ob:Ob}(h:S.o j=ob):S.setO j ob=S:=by
 have:bY S.o j ob=S.o:=by
  funext i;rw[fS];split
  ·rename_i e;subst e;exact h.symm
  ·rfl
 cases S;simp only[St.setO] at this ⊢;rw[this]
section
variable {C:Ctx} {S:St} {ρ:Env} {σ:Im} {own:Nat→Option Nat} {hv:Nat→Value} {w0:World} {σ0:Base} {A:Nat→Prop} {a:Act} {w:World} {gs:List (Nat×Bool)} {Φ:aV} {dst:Nat}
theorem Inv.updO (h:Inv C S ρ σ own hv w0 σ0 A a w)(j:Nat)(ob:Ob)(d:D)(v:Value)(nb:Nat→Bool){w':World}(hw:Below w0.heap.size w w')
 (rF:∀k,k<w.heap.size→own k≠some j→w'.heap[k]?=w.heap[k]?) (da:∀k,nb k=true→(own k=some j∨w.heap.size≤k)∧k<w'.heap.size)
 (cF:cf C (S.newO j ob) (ρ.setO j d) σ (fN own j nb) (bY hv j v) w' w0.heap.size j ob) (mE:ob≠.tr:=by intro h;cases h):Inv C (S.newO j ob) (ρ.setO j d) σ (fN own j nb) (bY hv j v) w0 σ0 A a w':=by
 have aS:w0.heap.size≤w.heap.size:=h.below.size;have bV:∀k i,i≠j→own k=some i→fN own j nb k=some i:=by
  intro k i hi hk;have h1:=h.owns k i hk;have h2:nb k=false:=by
   cases hn:nb k with
   |false=>rfl
   |true=>
    rcases(da k hn).1 with e|e
    ·rw[hk] at e;simp at e;exact absurd e hi
    ·omega
  simp[fN,h2,hk,hi]
 have aH:σ.ok w':=by
  refine⟨fun k o u hc=>?_,fun k es hc=>?_⟩
  ·have aJ:own k≠some j:=fun e=>by rw[(h.owns k j e).2.2.1 o] at hc;cases hc
   rw[World.cell?_of_block (rF k (h.lt hc) aJ)];exact h.ok.c k o u hc
  ·have aJ:own k≠some j:=fun e=>by rw[(h.owns k j e).2.2.2] at hc;cases hc
   exact(h.ok.m k es hc).keep (rF k (h.ltm hc) aJ)
 refine h.step (fun i=>i=j) rfl (.refl σ) aH (fun _ _ _ hx=>.inl hx) (fun _ _ hx=>.inl hx) hw ⟨fun i=>?_,fun i e=>?_⟩ (fun i hi=>⟨?_,?_,?_,fun k hk=>⟨bV k i hi hk,?_⟩⟩) (fun i hi=>?_) (fun k i hk=>?_) (fun _=>id) (fun t=>.inl ⟨rfl,rfl,rfl⟩) (fun _ _=>rfl) (fun k hk e=>rF k hk (by rw[e];simp)) (fun k i hk=>by
  unfold fN at hk;split at hk
  ·rename_i hn;rcases(da k hn).1 with e|e
   ·exact .inl ⟨j,e⟩
   ·exact .inr e
  ·split at hk
   ·cases hk
   ·exact .inl ⟨i,hk⟩) (fun i hi=>by subst hi;simpa only[St.newO,aW] using mE)
 ·simp only[St.newO,fS];split<;>rename_i e
  ·subst e;omega
  ·omega
 ·simp only[St.newO,fS] at e;split at e
  ·rename_i e';subst e';omega
  ·rename_i aJ;exact bA _ _ aJ
 ·simp[St.newO,bA _ _ hi]
 ·simp[Env.setO,bA _ _ hi]
 ·exact bA _ _ hi
 ·exact rF k (h.owns k i hk).2.1 (by rw[hk];simpa using hi)
 ·subst hi;simp only[St.newO,aW];exact cF
 ·unfold fN at hk;split at hk
  ·rename_i hn;obtain⟨g1,g2⟩:=da k hn;rcases g1 with e|e
   ·obtain⟨f1,f2,f3,f4⟩:=h.owns k j e;exact⟨f1,g2,f3,f4⟩
   ·refine⟨by omega,g2,fun o=>?_,?_⟩
    ·cases hc:σ.c k o with
     |none=>rfl
     |some u=>have:=h.lt hc;omega
    ·cases hc:σ.m k with
     |none=>rfl
     |some u=>have:=h.ltm hc;omega
  ·split at hk
   ·cases hk
   ·obtain⟨g1,g2,g3,g4⟩:=h.owns k i hk;exact⟨g1,by have:=hw.size;omega,g3,g4⟩
theorem Inv.updB (h:Inv C S ρ σ own hv w0 σ0 A a w)(j:Nat)(ob:Ob)(d:D){w':World}(hw:Below w0.heap.size w w')
 (rF:∀k,k<w.heap.size→own k≠some j→w'.heap[k]?=w.heap[k]?)
 (cF:cf C (S.setO j ob) (ρ.setO j d) σ own hv w' w0.heap.size j ob) (mE:ob≠.tr:=by intro h;cases h):Inv C (S.setO j ob) (ρ.setO j d) σ own hv w0 σ0 A a w':=by
 have aH:σ.ok w':=by
  refine⟨fun k o u hc=>?_,fun k es hc=>?_⟩
  ·have aJ:own k≠some j:=fun e=>by rw[(h.owns k j e).2.2.1 o] at hc;cases hc
   rw[World.cell?_of_block (rF k (h.lt hc) aJ)];exact h.ok.c k o u hc
  ·have aJ:own k≠some j:=fun e=>by rw[(h.owns k j e).2.2.2] at hc;cases hc
   exact(h.ok.m k es hc).keep (rF k (h.ltm hc) aJ)
 refine h.step (fun i=>i=j) rfl (.refl σ) aH (fun _ _ _ hx=>.inl hx) (fun _ _ hx=>.inl hx) hw (Compat.setO _ _ _ _) (fun i hi=>⟨by simp[St.setO,bA _ _ hi],by simp[Env.setO,bA _ _ hi],rfl,fun k hk=>⟨hk,rF k (h.owns k i hk).2.1 (by rw[hk];simpa using hi)⟩⟩) (fun i hi=>?_) (fun k i hk=>?_) (fun _=>id) (fun t=>.inl ⟨rfl,rfl,rfl⟩) (fun _ _=>rfl) (fun k hk e=>rF k hk (by rw[e];simp)) (fun k i hk=>.inl ⟨i,hk⟩) (fun i hi=>by subst hi;rw[St.setO_o];exact mE)
 ·subst hi;rw[St.setO_o];exact cF
 ·obtain⟨g1,g2,g3,g4⟩:=h.owns k i hk;exact⟨g1,by have:=hw.size;omega,g3,g4⟩
theorem aam {B:Nat}{w w':World}{row:Option Nat}(hg:w.grownBy w' row)(hB:B≤w.heap.size)(hr:∀k,row=some k→B≤k):Below B w w':=(Below.refl B w).grown hg hB hr
theorem acy {z:Array Value}{n i q:Nat}(hz:0<z.size)(hi:i<n)(hq:q<z.size):(madeCells z (n*z.size))[i*z.size+q]?=z[q]?:=by
 have ah:i*z.size+q<n*z.size:=by
  have:(i+1)*z.size≤n*z.size:=oD _ hi;rw[oA] at this;omega
 have hm:(i*z.size+q)%z.size=q:=by rw[Ag,ajx,Nat.mod_eq_of_lt hq]
 simp[madeCells,Array.getElem?_range,ah,hm,hq]
theorem apE (h:Inv C S ρ σ own hv w0 σ0 A a w)(hC:CtxOK C σ0)(ht:¬A dst)(ah:dst<a.tmps.size){T:TypeId}{l c:Operand}{r:St×List PI}(hr:BZ C S dst T l c=some r){o:Oper}(hd:o.dst=some dst)(ho:o.op=.makeSlice T l c):bX C w0 σ0 Φ S ρ A a w o r:=by
 unfold BZ at hr;split at hr
 case h_2=>cases hr
 rename_i E k1 n k2 m hT hl hc;simp only[az] at hr;obtain⟨e,he,hr⟩:=hr;cases hf:qj C.P E e<;>simp only[hf,cond_true,cond_false] at hr
 ·cases hr
 obtain⟨inf,z0,hi,hs,hb,h1,hz,lN⟩:=OE hf;simp only[az] at hr;obtain⟨z,hzt,hr⟩:=hr;cases cl:Ty.sub z.1 e<;>simp only[cl,cond_true,cond_false] at hr
 ·cases hr
 cases hr;obtain⟨n1,aZ,bt,b1,b2⟩:=(bZ h hC rfl hl).int_inv;obtain⟨n2,gK,cT,b3,b4⟩:=(bZ h hC rfl hc).int_inv;simp only at bt cT;have Dg:=((wT (cap:=C.cap) (σ:=σ) hzt lN).1).sub cl;refine bX.value hd fun ρ' ak=>?_;simp only[PI.runs,PI.run,az] at ak;obtain⟨ρ1,g1,ρ2,g2,ak⟩:=ak;cases c1:((Rk n).ev ρ).b<;>simp only[c1,cond_true,cond_false] at g1
 ·cases g1
 cases g1;cases c2:((PE.ci BinOp.eql n m).ev ρ).b<;>simp only[c2,cond_true,cond_false] at g2
 ·cases g2
 cases g2;have au6:n1=n2:=by simpa [PE.ev,bt,cT,D.i_int,D.b_bool,gW] using c2
 subst au6;have hb:0≤n1∧n1≤mN:=by simpa [Rk,PE.ev,bt,D.i_int,D.b_bool,gW,D.int] using c1
 obtain⟨nn,rfl⟩:=uE hb.1;have CT:nn≤4294967296:=by have:=hb.2;unfold mN at this;omega
 have rQ:z0.cells.size=e.size:=Xq lN;obtain⟨w',r1,r2,r3⟩:=run_make_full (P:=C.P) w w0.heap.size T E inf z0 e.size hT hi hz hs k1 k2 nn (by
  have:inf.bytes*nn≤vQ*4294967296:=Nat.mul_le_mul (by assumption) CT;unfold vQ at this;omega) (by unfold maxLen;omega) h.below.size
 refine⟨.slice (some ⟨w.heap.size,0,none⟩) nn nn,w',by simp[execOp,ho,aZ,gK,r1],?_⟩;obtain⟨ρ3,g3,ρ4,g4,g5⟩:=ak;cases g3;cases g4;cases g5;simp only[PE.ev,bt,D.i_int,uF];have hlen:(List.replicate nn z.2).length=nn:=by simp
 refine h.mkObj ht ah (.row E e) _ _ (fun k=>Nat.beq k w.heap.size) (aam r3 (bk _) (by simp)) (fun k hk=>?_) ⟨_,List.replicate nn z.2,by simp[Env.setO,aW],by rw[aW,hlen];exact r2,⟨fun _=>z0,fun i x hx=>?_,fun i j u hi hj=>?_⟩,fun k hk=>?_⟩
 ·have bz:k=w.heap.size:=aL hk;have:=(r2.lt _ rfl).2;subst bz;exact⟨bk _,this⟩
 ·have:=(fo.1 hx)
  obtain⟨q1,q2⟩:=this;simp at q2;subst q2;exact Dg
 ·rw[hlen] at hi;have bQ:j<z0.cells.size:=(fT.1 hj).1;rw[zW,←rQ];rw[acy (by omega) hi bQ];exact hj
 ·rw[aW] at hk;simp[Value.ownBlock] at hk;simp[fN,hk]
theorem me.push {arr:Array MapEntry}{clock:Nat}(h:me arr clock)(k v:Value):me (arr.push {key:=k,val:=v,born:=clock}) (clock+1):=by
 have key:∀(i:Nat) (e:MapEntry),(arr.push {key:=k,val:=v,born:=clock})[i]?=some e→(arr[i]?=some e∧e.born<clock)∨(i=arr.size∧e.born=clock):=by
  intro i e he;rw[Array.getElem?_push] at he;split at he
  ·rename_i hi;cases he;exact .inr ⟨hi,rfl⟩
  ·exact .inl ⟨he,h.1 i e he⟩
 refine⟨fun i e he=>?_,fun i j e f he hf hb=>?_⟩
 ·rcases key i e he with⟨_,h1⟩|⟨_,h1⟩<;>omega
 ·rcases key i e he with⟨h1,h2⟩|⟨h1,h2⟩<;>rcases key j f hf with⟨h3,h4⟩|⟨h3,h4⟩
  ·exact h.2 i j e f h1 h3 hb
  ·omega
  ·omega
  ·omega
theorem me.modify {arr:Array MapEntry}{clock:Nat}(h:me arr clock)(i0:Nat)(k v:Value):me (arr.modify i0 fun e=>{e with key:=k,val:=v}) clock:=by
 have key:∀(i:Nat) (e:MapEntry),(arr.modify i0 fun e=>{e with key:=k,val:=v})[i]?=some e→∃e',arr[i]?=some e'∧e'.born=e.born:=by
  intro i e he;rw[Array.getElem?_modify] at he;split at he
  ·simp only[aG] at he;obtain⟨e',h1,rfl⟩:=he;exact⟨e',h1,rfl⟩
  ·exact⟨e,he,rfl⟩
 refine⟨fun i e he=>?_,fun i j e f he hf hb=>?_⟩
 ·obtain⟨e',h1,h2⟩:=key i e he;rw[←h2];exact h.1 i e' h1
 ·obtain⟨e',h1,h2⟩:=key i e he;obtain⟨f',h3,h4⟩:=key j f hf;exact h.2 i j e' f' h1 h3 (by rw[h2,h4,hb])
theorem ZN (h:Inv C S ρ σ own hv w0 σ0 A a w)(hC:CtxOK C σ0){T:TypeId}{m k v:Operand}{r:St×List PI}(hr:rq C S T m k v=some r){o:Oper}(hd:o.dst=none)(ho:o.op=.mapUpdate T m k v∨o.op=.insert T m k v):bX C w0 σ0 Φ S ρ A a w o r:=by
 unfold rq at hr;split at hr
 case h_2=>cases hr
 rename_i K E j ver hT es;obtain⟨eC,_⟩:=wL h (gs:=[]) rfl m;rw[es] at eC;cases hb:Nat.beq ver (S.ver j)<;>simp only[hb,cond_true,cond_false] at hr
 ·cases hr
 have cA:=eC.2 (aL hb);have bp:=h.objs j;split at hr
 case h_2=>cases hr
 rename_i kt et tk ek tv ev eo hk vG;rw[eo] at bp;cases hc:(Ty.beq tk kt&&tH C.P K kt&&Ty.sub tv et)<;>simp only[hc,cond_true,cond_false] at hr
 ·cases hr
 cases hr;simp only[ar] at hc;obtain⟨⟨HY,CL⟩,cl⟩:=hc;obtain⟨g,arr,clock,ds,h1,h2,h3,h4,h5,⟨h6,qs⟩,h7⟩:=bp;have bz:=bZ h hC rfl hk;rw[Ty.beq_eq _ _ HY] at bz;have hv':=(bZ h hC rfl vG).sub cl;refine bX.skip hd fun ρ' ak=>?_;simp only[PI.runs,PI.run,az] at ak;obtain⟨ρ1,g1,ρ2,g2,g3⟩:=ak;cases c1:((PE.ci BinOp.lss (.mlen (.o j)) (.con (.int mN))).ev ρ).b<;>simp only[c1,cond_true,cond_false] at g1
 ·cases g1
 cases g1;cases g2;cases g3;have auU:ds.length<4294967296:=by
  have h8:=aoJ c1;simp only[PE.ev,h4,D.m,D.i_int,D.int] at h8;exact awE h8
 have j6:(Instr.checkKey false 10000 K (a.eval k)).run C.P w=.ok () w:=Zv (cap:=C.cap) (σ:=σ) CL bz;have kM:∃sN xx ds',(Instr.mapUpdate T (a.eval m) (a.eval k) (a.eval v)).run C.P w=.ok () {w with heap:=w.heap.setIfInBounds g (.map sN xx)}∧kl (ek.ev ρ) (ev.ev ρ) ds=ds'∧ds'.length=sN.size∧(ds'.length≤maxLen∧me sN xx)∧
  ∀(i:Nat) (e:MapEntry) (p:D×D),sN[i]?=some e→ds'[i]?=some p→Rep C.cap σ kt e.key p.1∧Rep C.cap σ et e.val p.2:=by
  rcases run_findKey CL bz arr ds h5 h7 w with⟨f1,f2,f3⟩|⟨i,e,p,f1,f2,f3,f4,f5,f6⟩
  ·refine⟨arr.push {key:=a.eval k,val:=a.eval v,born:=clock},clock+1,ds++[(ek.ev ρ,ev.ev ρ)],?_,f3 _,by simp[h5],⟨by simp;unfold maxLen;omega,qs.push _ _⟩,fun q e p he hp=>?_⟩
   ·rw[cA,h1];simp[Instr.mapUpdate,run_underlying hT,getObj,Sem.run,h3,j6,f1,setObj]
   ·rw[Array.getElem?_push] at he;rw[ln] at hp;by_cases hq:q=arr.size
    ·subst hq;simp at he;rw[if_neg (by omega)] at hp;simp[h5] at hp;subst he;subst hp;exact⟨bz,hv'⟩
    ·rw[if_neg hq] at he;have If:q<arr.size:=(fT.1 he).1;rw[if_pos (by omega)] at hp;exact h7 q e p he hp
  ·refine⟨arr.modify i fun e=>{e with key:=a.eval k,val:=a.eval v},clock,ds.set i (ek.ev ρ,ev.ev ρ),?_,f5 _,by simp[h5],⟨by simp;exact h6,qs.modify _ _ _⟩,fun q e' p' he hp=>?_⟩
   ·rw[cA,h1];have cP:(Instr.keyThatStays e.key (a.eval k)).run C.P w=.ok (a.eval k) w:=by simp[Instr.keyThatStays,f6]
    simp[Instr.mapUpdate,run_underlying hT,getObj,Sem.run,h3,j6,f3,f1,cP,setObj]
   ·rw[Array.getElem?_modify] at he;rw[Ac] at hp;by_cases hq:i=q
    ·subst hq;simp only[if_true] at he hp;rw[f1] at he;simp at he;split at hp
     ·cases hp;subst he;exact⟨bz,hv'⟩
     ·cases hp
    ·rw[if_neg hq] at he hp;exact h7 q e' p' he hp
 obtain⟨sN,xx,ds',r1,r2,r3,r4,r5⟩:=kM;refine⟨{w with heap:=w.heap.setIfInBounds g (.map sN xx)},by rcases ho with ho|ho<;>simp[execOp,ho,r1],?_⟩;have hgl:g<w.heap.size:=(fT.1 h3).1;have hgB:w0.heap.size≤g:=(h.owns g j h2).1;have bN:(PE.put (.o j) ek ev).ev ρ=.map ds':=by simp only[PE.ev,h4,D.m,r2]
 rw[bN]
 have:=h.updB j (.mp kt et) (.map ds') (w':={w with heap:=w.heap.setIfInBounds g (.map sN xx)}) ⟨rfl,rfl,rfl,by simp,fun k hk=>by simp;rw[Xu (by omega)]⟩
  (fun k hk aJ=>by simp;rw[Xu (fun e=>aJ (by rw[←e];exact h2))])
  ⟨g,sN,xx,ds',h1,h2,by simp[hgl],by simp[Env.setO,aW],r3,r4,r5⟩
 have eS:S.setO j (.mp kt et)=S:=St.setO_self eo;rw[eS] at this;exact⟨_,_,_,this⟩
end
end Cx
namespace Cx
open Go Go.RowKit
theorem aFD {e:Ty}{z:Value}(h:jc e z=true):e.rowT=true∨e.one=true:=by
 cases e<;>first|exact .inl rfl|exact .inr rfl|(cases z<;>simp[jc,wS] at h)
theorem Rep.cellsOne {cap:Nat→Option CSig}{σ:Im}{t:Ty}{v:Value}{d:D}(h:Rep cap σ t v d)(ht:t.rowT=true∨t.one=true){m:Nat}{u:Value}(hu:v.cells[m]?=some u):u.oneCell'=true:=by
 obtain⟨f1,f2,f3⟩:=h.flat ht;have ah:m<v.cells.size:=(fT.1 hu).1;rw[h.size] at ah;obtain⟨g1,g2⟩:=f3 m _ (bH (by omega:m<t.flat.length));have:=(g2.oneCell g1).2;rw[dL,hu] at this;exact this
theorem apZ {cap:Nat→Option CSig}{σ:Im}{e:Ty}{cells:List Value}{xs:List D}(h:gB cap σ e cells xs)(hl:cells.length=xs.length*e.size)(gJ:e.rowT=true∨e.one=true):∀u∈cells,u.oneCell'=true:=by
 obtain⟨vs,h1,h2⟩:=h;intro u hu;obtain⟨p,hp,rfl⟩:=nf hu;rw[hl] at hp;have hs:0<e.size:=Nat.pos_of_ne_zero fun e0=>by rw[e0] at hp;simp at hp
 have hi:p/e.size<xs.length:=(Nat.div_lt_iff_lt_mul hs).2 hp;have hq:p%e.size<e.size:=Nat.mod_lt _ hs;have bS:=h1 _ _ (bH hi);have aS:=bS.size;have oZ:(vs (p/e.size)).cells[p%e.size]?=some (vs (p/e.size)).cells[p%e.size]:=fm (by omega);have:=h2 _ _ _ hi oZ;rw[Nat.mul_comm,Nat.div_add_mod] at this;have h3:cells[p]=(vs (p/e.size)).cells[p%e.size]:=by
  have h4:=bH (show p<cells.length by omega);rw[h4] at this;exact Ah this
 rw[h3];exact bS.cellsOne gJ oZ
theorem apY {cap:Nat→Option CSig}{σ:Im}{e:Ty}{c1 c2:List Value}{xs ys:List D}(h:gB cap σ e c1 xs)(k:gB cap σ e c2 ys)(hl:c1.length=xs.length*e.size):gB cap σ e (c1++c2) (xs++ys):=by
 obtain⟨vs,h1,h2⟩:=h;obtain⟨us,k1,k2⟩:=k;refine⟨fun i=>if i<xs.length then vs i else us (i-xs.length),fun i x hx=>?_,fun i j u hi hj=>?_⟩
 ·rw[ln] at hx;split at hx
  ·rename_i ah;simp only[ah,if_true];exact h1 i x hx
  ·rename_i ah;simp only[ah,if_false];exact k1 _ x hx
 ·by_cases ah:i<xs.length
  ·simp only[ah,if_true] at hj;have:=h2 i j u ah hj;rw[jZ (fo.1 this).1];exact this
  ·simp only[ah,if_false] at hj;have cZ:i-xs.length<ys.length:=by simp at hi;omega
   have:=k2 _ j u cZ hj;have e1:i*e.size=c1.length+(i-xs.length)*e.size:=by rw[hl,←oA];congr 1;omega
   rw[kC (by omega)];rw[show i*e.size+j-c1.length=(i-xs.length)*e.size+j by omega];exact this
section
variable {C:Ctx} {S:St} {ρ:Env} {σ:Im} {own:Nat→Option Nat} {hv:Nat→Value} {w0:World} {σ0:Base} {A:Nat→Prop} {a:Act} {w:World} {gs:List (Nat×Bool)} {Φ:aV} {dst:Nat}
theorem aFc (h:Inv C S ρ σ own hv w0 σ0 A a w){B:Nat}{e f:Ty}{v:Value}{d:D}(hs:0<e.size)(gJ:e.rowT=true∨e.one=true)(hf:f.unf=e)(Qz:Ni C σ w B (.slice f) v d):
 ∃ys,d=.list ys∧ys.length≤maxLen∧((v=.slice none 0 0∧ys=[])∨∃(ad:Addr) (c:Nat) (news:List Value),v=.slice (some ad) ys.length c∧news.length=ys.length*e.size∧
  (∀j u,news[j]?=some u→w.cell? (ad.add j)=some u)∧gB C.cap σ e news ys):=by
 rcases Qz with hr|⟨T,e',cells,xs,ht,hd,bV,iN⟩|⟨k,arr,clock,es,kt,et,ht,_⟩
 ·obtain⟨xs,hd,xV⟩:=hr.slice_inv;rw[←f.unf_size,hf] at xV;rcases xV with⟨⟨p0,aZ⟩,rfl⟩|⟨k,o,c,aZ,h1,h2,vs,h3,h4⟩
  ·cases p0 with
   |none=>exact⟨[],hd,by simp,.inl ⟨aZ,rfl⟩⟩
   |some a0=>exact⟨[],hd,by simp,.inr ⟨a0,0,[],aZ,by simp,fun j u hu=>by simp at hu,fun _=>undef,fun i x hx=>by simp at hx,fun i j u hi=>by simp at hi⟩⟩
  ·refine⟨xs,hd,by omega,.inr ⟨⟨k,o,none⟩,c,(List.range (xs.length*e.size)).map fun p=>(vs (p/e.size)).cells.getD (p%e.size) undef,aZ,by simp,fun j u hu=>?_,vs,h3,fun i j u hi hj=>?_⟩⟩
   ·simp only[cS,aG] at hu;obtain⟨p,hp,rfl⟩:=hu;have fL:j<xs.length*e.size:=by have:=(fo.1 hp).1;simpa using this
    rw[p6 fL] at hp;cases hp;have hi:j/e.size<xs.length:=(Nat.div_lt_iff_lt_mul hs).2 fL;have hq:j%e.size<e.size:=Nat.mod_lt _ hs;have bS:=h3 _ _ (bH hi);have aS:=bS.size;have oZ:(vs (j/e.size)).cells[j%e.size]?=some ((vs (j/e.size)).cells.getD (j%e.size) undef):=by
     rw[dL,fm (by omega)];rfl
    have:=h.cell (h4 _ _ _ hi oZ);rw[sM]
    rwa [show o+j/e.size*e.size+j%e.size=o+j by rw[uJ,Nat.mul_comm,Nat.div_add_mod]] at this
   ·have bS:=h3 _ _ (bH hi);have bQ:j<e.size:=by rw[←bS.size];exact(fT.1 hj).1
    have ah:i*e.size+j<xs.length*e.size:=by
     have:(i+1)*e.size≤xs.length*e.size:=oD _ hi;rw[oA] at this;omega
    have e1:(i*e.size+j)/e.size=i:=by rw[Nat.mul_comm,Nat.mul_add_div hs,Nat.div_eq_of_lt bQ];omega
    have e2:(i*e.size+j)%e.size=j:=by rw[Ag,ajx,Nat.mod_eq_of_lt bQ]
    simp only[cS,p6 ah,jF,e1,e2];rw[dL,hj];rfl
 ·cases ht;rw[Ty.unf_rol] at hf;obtain⟨b,c,aZ,hm,_⟩:=we bV;have iN:gB C.cap σ e cells xs:=by
   obtain⟨us,u1,u2⟩:=iN;refine⟨us,fun i x hx=>hf▸(u1 i x hx).unf,fun i j u hi hu=>?_⟩;rw[←hf,Ty.unf_size];exact u2 i j u hi hu
  have bV:w.ownsRow B T e.size v xs.length cells:=by rw[←hf,Ty.unf_size];exact bV
  rcases bV.2 with⟨e1,e2⟩|⟨g,cap,cur,e1,e2⟩
  ·have:xs=[]:=XI e2;subst this;exact⟨[],hd,by simp,.inl ⟨e1,rfl⟩⟩
  ·exact⟨xs,hd,hm,.inr ⟨⟨g,0,none⟩,cap,cells,e1,bV.1,bV.cells (by rw[e1];rfl),iN⟩⟩
 ·cases ht
theorem aBX {P:Program}{B:Nat}{T E ty:TypeId}{inf:TypeInfo}{z:Value}{size:Nat}{v x:Value}{n m:Nat}{xs news:List Value}(hT:P.underlying T=some (.slice E))(hi:P.info? E=some inf)(hz:inf.zero=some z)
 (hs:inf.size=size) (rQ:z.cells.size=size) (aS:0<size) (oY:inf.bytes≤vQ) (bV:w.ownsRow B E size v n xs) (hB:B≤w.heap.size) (cO:n+m≤4294967296)
 (hx:(x=.slice none 0 0∧m=0∧news=[])∨∃(ad:Addr) (c:Nat),x=.slice (some ad) m c∧news.length=m*size∧(∀j u,news[j]?=some u→w.cell? (ad.add j)=some u)∧∀u∈news,u.oneCell'=true):
 ∃v' w',(Builtin.append_ #[T,T] ty #[v,x]).run P w=.ok v' w'∧w'.ownsRow B E size v' (n+m) (xs++news)∧w.grownBy w' v.ownBlock∧∀k,v'.ownBlock=some k→v.ownBlock=some k∨(w.heap.size≤k∧k<w'.heap.size):=by
 rcases hx with⟨rfl,rfl,rfl⟩|⟨ad,c,rfl,hl,H7,h1⟩
 ·refine⟨v,w,run_append_owned_none w B T ty E inf size hT hi v n xs bV,by simpa using bV,⟨rfl,rfl,rfl,bk _,fun _ _ _=>rfl⟩,fun k hk=>.inl hk⟩
 ·have Pm:(n+m)*inf.bytes≤140737488355328:=by
   have:(n+m)*inf.bytes≤4294967296*vQ:=Nat.mul_le_mul cO oY;unfold vQ at this;omega
  obtain⟨v',w',r1,r2,r3,r4⟩:=run_append_own (P:=P) w B T ty E inf z size inf.bytes hT hi hz hs rfl rQ aS v n xs bV ad m c news hl H7 h1 (by unfold maxLen;omega) Pm hB;refine⟨v',w',r1,r2,r3,fun k hk=>?_⟩;have ah:=(r2.lt k hk).2;subst hs;rcases bV.2 with⟨rfl,rfl⟩|⟨g,cap,cur,rfl,hbg,hg,dq,my,eX,C9⟩
  ·by_cases hm:m=0
   ·subst hm;have:=r4.2 ⟨rfl,rfl⟩;subst this;simp[Value.ownBlock] at hk
   ·have hr:=run_append_nil (P:=P) w T ty E inf z hT hi hz ad m c news hl H7 (by omega) (by omega) (by have hb:=Pm;simp only[lq] at hb;omega);rw[hr] at r1;cases r1;simp[Value.ownBlock] at hk;subst hk;exact .inr ⟨bk _,ah⟩
  ·by_cases abD:n+m≤cap
   ·have HP:n*inf.size+news.length≤cur.size:=by rw[hl,eX,←oA];exact oD _ abD
    have hr:=run_append_room (P:=P) w T ty E inf hT hi g n cap cur hg ad m c news hl H7 h1 abD HP;rw[hr] at r1;cases r1;exact .inl hk
   ·have hr:=run_append_grow (P:=P) w T ty E inf z hT hi hz ⟨g,0,none⟩ n cap xs bV.1 (bV.cells (g:=g) rfl) ad m c news hl H7 (by omega) (by omega) (growslice_fits (by omega) Pm);rw[hr] at r1;cases r1;simp[Value.ownBlock] at hk;subst hk;exact .inr ⟨bk _,ah⟩
theorem apj (h:Inv C S ρ σ own hv w0 σ0 A a w)(hC:CtxOK C σ0)(ht:¬A dst)(ah:dst<a.tmps.size){T:TypeId}{s x:Operand}{r:St×List PI}(hr:BU C S dst T s x=some r){o:Oper}(hd:o.dst=some dst)
 (ho:o.op=.call {callee:=.builtin .append,args:=#[s,x],argTypes:=#[T,T]}):bX C w0 σ0 Φ S ρ A a w o r:=by
 unfold BU at hr;split at hr
 case h_2=>cases hr
 rename_i E hT;simp only[az] at hr;obtain⟨e,he,hr⟩:=hr;split at hr
 case h_2=>cases hr
 rename_i tx ex Qz;have hv':=Xk h hC (gs:=[]) rfl Qz;obtain⟨cs,ak⟩:=UG (C:=C) (w:=w) (a:=a) ho;cases hc:(qj C.P E e&&My tx e)<;>simp only[hc,cond_true,cond_false] at hr
 ·cases hr
 simp only[ar] at hc;obtain⟨inf,z,hi,hs,oY,h1,hz,lN⟩:=OE hc.1;have rQ:=Xq lN;have gJ:=aFD lN;have QA:∃f:Ty,f.unf=e∧Ni C σ w w0.heap.size (.slice f) (a.eval x) (ex.ev ρ):=by
  have cP:=hc.2;unfold My at cP;split at cP
  ·exact⟨_,Ty.beq_eq _ _ cP,hv'⟩
  ·refine⟨e,Ty.unf_ro gJ,?_⟩;rcases hv' with hr|⟨_,_,_,_,ht,_⟩|⟨_,_,_,_,_,_,ht,_⟩
   ·exact .inl (hr.sub (by simp[Ty.sub]))
   ·cases ht
   ·cases ht
  ·cases cP
 obtain⟨fv,eD,QA⟩:=QA;obtain⟨ys,HM,jR,avT⟩:=aFc h h1 gJ eD QA;have hx:∃news,gB C.cap σ e news ys∧news.length=ys.length*e.size∧((a.eval x=.slice none 0 0∧ys.length=0∧news=[])∨∃(ad:Addr) (c:Nat),a.eval x=.slice (some ad) ys.length c∧news.length=ys.length*e.size∧(∀j u,news[j]?=some u→w.cell? (ad.add j)=some u)∧∀u∈news,u.oneCell'=true):=by
  rcases avT with⟨e1,rfl⟩|⟨ad,c,news,e1,e2,e3,e4⟩
  ·exact⟨[],⟨fun _=>undef,by simp,by simp⟩,by simp,.inl ⟨e1,rfl,rfl⟩⟩
  ·exact⟨news,e4,e2,.inr ⟨ad,c,e1,e2,e3,apZ e4 e2 gJ⟩⟩
 obtain⟨news,aJ,hnl,hx⟩:=hx;have main:∀(j:Nat) (v:Value) (xs:List D) (cells:List Value),a.eval s=v→w.ownsRow w0.heap.size E e.size v xs.length cells→gB C.cap σ e cells xs→xs.length+ys.length≤4294967296→
  (∀k,v.ownBlock=some k→own k=some j)→
  ∃v' w',(execOp a.eval o).run C.P w=.ok (.value v') w'∧Good C w0 σ0 ((S.newO j (.row E e)).setR dst (.obj j (S.ver j+1))) ((ρ.setO j (.list (xs++ys))).setR dst .none) (fun u=>A u∨u=dst) (a.put (some dst) v') w':=by
  intro j v xs cells Qo bV iN hlen cF;obtain⟨v',w',r1,r2,r3,r4⟩:=aBX (P:=C.P) (ty:=o.type) hT hi hz hs rQ h1 oY bV h.below.size hlen hx;refine⟨v',w',by rw[ak];simp[builtin,Qo,r1],?_⟩
  have awa:=h.updO j (.row E e) (.list (xs++ys)) v' (fun k=>decide (v'.ownBlock=some k)) (w':=w') (aam r3 h.below.size (fun k hk=>(h.owns k j (cF k hk)).1)) (fun k hk aJ=>r3.block k hk (fun e=>aJ (cF k e.symm))) (fun k hk=>by
        have bz:v'.ownBlock=some k:=by simpa using hk
        rcases r4 k bz with e|e
        ·exact⟨.inl (cF k e),(r2.lt k bz).2⟩
        ·exact⟨.inr e.1,e.2⟩)
   ⟨cells++news,xs++ys,by simp[Env.setO,aW],by rw[aW,kD];exact r2,apY iN aJ bV.1,fun k hk=>by rw[aW] at hk;simp[fN,hk]⟩
  have h2:=awa.setObj ht (j:=j) (v:=v') (aW _ _ _) ah;have e:(S.newO j (.row E e)).ver j=S.ver j+1:=aW _ _ _;rw[e] at h2;exact⟨_,_,_,h2⟩
 split at hr
 ·rename_i e0 pe0 hu;cases hr;refine bX.value hd fun ρ' qB=>?_;have Qp:=bZ h hC rfl hu;have Qo:a.eval s=.slice none 0 0:=by
   generalize a.eval s=v at Qp;generalize pe0.ev ρ=d at Qp;cases Qp;rfl
  simp only[PI.runs,PI.run,az] at qB;obtain⟨ρ1,g1,ρ2,g2,ρ3,g3,g4⟩:=qB;cases c1:((Iu (.con (.list [])) ex).ev ρ).b<;>simp only[c1,cond_true,cond_false] at g1
  ·cases g1
  cases g1;cases g2;cases g3;cases g4;have hlen:=Zw c1;simp only[PE.ev,D.l_list,HM,sG,D.i_int,D.int] at hlen;have:=main dst (.slice none 0 0) [] [] Qo (World.ownsRow_nil _ _ _ _) ⟨fun _=>undef,by simp,by simp⟩ (by simpa using ach hlen) (by simp[Value.ownBlock]);simpa [PE.ev,D.l_list,HM,mkObj] using this
 ·cases hr
 ·obtain⟨eC,_⟩:=wL h (gs:=[]) rfl s;split at hr
  case h_2=>cases hr
  rename_i j ver es;rw[es] at eC;cases hb:Nat.beq ver (S.ver j)<;>simp only[hb,cond_true,cond_false] at hr
  ·cases hr
  have cA:=eC.2 (aL hb);have bp:=h.objs j;split at hr
  case h_2=>cases hr
  rename_i E' e' eo;rw[eo] at bp;cases jo:(Nat.beq E' E&&Ty.beq e' e)<;>simp only[jo,cond_true,cond_false] at hr
  ·cases hr
  cases hr;simp only[ar] at jo;have e1:=aL jo.1;have e2:=Ty.beq_eq _ _ jo.2;subst e1;subst e2;obtain⟨cells,xs,k1,k2,k3,k4⟩:=bp;refine bX.value hd fun ρ' qB=>?_;simp only[PI.runs,PI.run,az] at qB;obtain⟨ρ1,g1,ρ2,g2,ρ3,g3,g4⟩:=qB;cases c1:((Iu (.o j) ex).ev ρ).b<;>simp only[c1,cond_true,cond_false] at g1
  ·cases g1
  cases g1;cases g2;cases g3;cases g4;have hlen:=Zw c1;simp only[PE.ev,D.l_list,HM,k1,D.i_int,D.int] at hlen;have:=main j (hv j) xs cells cA k2 k3 (by have:=ach hlen;simpa using this) k4;simpa [PE.ev,D.l_list,HM,k1] using this
end
end Cx
namespace Cx
open Go Go.RowKit
theorem Mr {P:Program}{a:Act}{w:World}{o:Oper}{T:TypeId}{x v:Operand}{inf:TypeInfo}{k off:Nat}{cs:Array Value}{E:TypeId}(ho:o.op=.store T x v)(hi:P.info? T=some inf)(hx:a.eval x=.pointer (some ⟨k,off,none⟩))
 (hs:(a.eval v).cells.size=inf.size) (dZ:∀u∈(a.eval v).cells.toList,u.oneCell'=true) (hb:w.heap[k]?=some (.cells cs E (0,0))) (hle:off+inf.size≤cs.size):
 (execOp a.eval o).run P w=.ok .skip (w.setRow k (cs.toList.take off++(a.eval v).cells.toList++cs.toList.drop (off+inf.size)).toArray):=by
 have:=run_storeCells_at P k off E (a.eval v).cells.toList 0 cs w hb (by simp[hs];exact hle) dZ;simp only[oB,zX,hs] at this;simp[execOp,ho,Instr.storeAt,hx,Instr.sureAddr,storeVar,Go.sizeOf,run_typeInfo w hi,hs,this]
theorem ahN {w:World}{B k:Nat}{cs:Array Value}(hB:B≤k):Below B w (w.setRow k cs)∧∀i,i≠k→(w.setRow k cs).heap[i]?=w.heap[i]?:=
 ⟨⟨rfl,rfl,rfl,by simp[World.setRow],fun i hi=>setRow_other w k i cs (by omega)⟩,fun i hi=>setRow_other w k i cs hi⟩
theorem Hn {α:Type}(xs ys:List α)(off:Nat)(d:α)(hle:off+ys.length≤xs.length)(i:Nat):(xs.take off++ys++xs.drop (off+ys.length)).getD i d=if off≤i∧i<off+ys.length then ys.getD (i-off) d else xs.getD i d:=by
 simp only[aT,m9];rw[ln,dW,oC (by omega)];split
 ·rename_i h;rw[if_neg (by omega),gC,if_pos h]
 ·rename_i h;rw[ln];split
  ·rename_i h2;rw[if_pos (by omega)]
  ·rename_i h2;rw[if_neg (by omega),gU];congr 2;omega
section
variable {C:Ctx} {S:St} {ρ:Env} {σ:Im} {own:Nat→Option Nat} {hv:Nat→Value} {w0:World} {σ0:Base} {A:Nat→Prop} {a:Act} {w:World} {gs:List (Nat×Bool)} {Φ:aV} {dst:Nat}
theorem Inv.storeBox (h:Inv C S ρ σ own hv w0 σ0 A a w){j k off:Nat}{ag:Bool}{shs news:List Sh}{cs:Array Value}{E:TypeId}{ds dn:List D}{vs:List Value}(eo:S.o j=.box ag shs)
 (h1:hv j=.pointer (some ⟨k,0,none⟩)) (h2:own k=some j) (h3:w.heap[k]?=some (.cells cs E (0,0))) (h4:cs.size=shs.length) (h5:ρ.o j=.agg ds) (h6:ds.length=shs.length)
 (h7:∀i s,shs[i]?=some s→(∀gs s',s≠.opt gs s')∧aQ C S ρ σ hv s (cs.getD i undef) (ds.getD i .none))
 (l1:news.length=vs.length) (l2:dn.length=vs.length) (hle:off+vs.length≤shs.length)
 (kL:∀i s,news[i]?=some s→(∀gs s',s≠.opt gs s')∧aQ C S ρ σ hv s (vs.getD i undef) (dn.getD i .none)):
 Inv C (S.setO j (.box ag (shs.take off++news++shs.drop (off+vs.length)))) (ρ.setO j (.agg (dU ds off dn))) σ own hv w0 σ0 A a (w.setRow k (cs.toList.take off++vs++cs.toList.drop (off+vs.length)).toArray):=by
 have hkB:w0.heap.size≤k:=(h.owns k j h2).1;obtain⟨b1,b2⟩:=ahN (w:=w) (B:=w0.heap.size) (k:=k) (cs:=(cs.toList.take off++vs++cs.toList.drop (off+vs.length)).toArray) hkB;refine h.updB j _ _ b1 (fun i hi aJ=>b2 i fun e=>aJ (e▸h2)) ⟨k,_,E,dU ds off dn,h1,h2,setRow_heap w k cs _ E _ h3,?_,by simp[Env.setO,aW],?_,fun i s hi=>?_⟩
 ·simp[l1];omega
 ·simp[dU,l2,l1];omega
 ·have eX:(cs.toList.take off++vs++cs.toList.drop (off+vs.length)).toArray.getD i undef=if off≤i∧i<off+vs.length then vs.getD (i-off) undef else cs.getD i undef:=by
   have e0:∀l:List Value,l.toArray.getD i undef=l.getD i undef:=fun l=>by simp[dL,aT]
   rw[e0,Hn cs.toList vs off undef (by simp;omega),xL cs i]
  have vh:(dU ds off dn).getD i .none=if off≤i∧i<off+vs.length then dn.getD (i-off) .none else ds.getD i .none:=by
   rw[dU,Hn ds dn off .none (by omega),l2]
  rw[eX,vh];have abl:∀s v d,(∀gs s',s≠.opt gs s')→aQ C S ρ σ hv s v d→aQ C (S.setO j (.box ag (shs.take off++news++shs.drop (off+vs.length)))) (ρ.setO j (.agg (dU ds off dn))) σ hv s v d:=
   fun s v d hn hk=>aQ.mono' (.refl σ) (Compat.setO _ _ _ _) hn hk
  have kc:(shs.take off++news++shs.drop (off+vs.length))[i]?=if off≤i∧i<off+vs.length then news[i-off]? else shs[i]?:=by
   rw[m9,ln,dW,oC (by omega)];split
   ·rename_i h;rw[if_neg (by omega),gC,if_pos h]
   ·rename_i h;rw[ln,l1];split
    ·rename_i h2;rw[if_pos (by omega)]
    ·rename_i h2;rw[if_neg (by omega),gU];congr 1;omega
  rw[kc] at hi;split
  ·rename_i hc;rw[if_pos hc] at hi;obtain⟨g1,g2⟩:=kL _ s hi;exact⟨g1,abl _ _ _ g1 g2⟩
  ·rename_i hc;rw[if_neg hc] at hi;obtain⟨g1,g2⟩:=h7 _ s hi;exact⟨g1,abl _ _ _ g1 g2⟩
theorem aBU (h:Inv C S ρ σ own hv w0 σ0 A a w){j:Nat}(hr:mK (S.o j)=true):(hv j).cells=#[hv j]∧(hv j).oneCell'=true:=by
 have bp:=h.objs j;cases cF:S.o j with
 |row T e=>
  rw[cF] at bp;obtain⟨cells,xs,h1,h2,h3,h4⟩:=bp;obtain⟨b,c,e1,_⟩:=we h2;rw[e1];exact⟨rfl,rfl⟩
 |mp kt et=>
  rw[cF] at bp;obtain⟨k0,arr,clock,es,h1,_⟩:=bp;rw[h1];exact⟨rfl,rfl⟩
 |_=>rw[cF] at hr;simp[mK] at hr
theorem Inv.storeRow (h:Inv C S ρ σ own hv w0 σ0 A a w){j k n c i p:Nat}{T:TypeId}{e:Ty}{cells vs:List Value}{xs:List D}{v':Value}{d':D}(eo:S.o j=.row T e)(eE:hv j=.slice (some ⟨k,0,none⟩) n c)
 (h1:ρ.o j=.list xs) (h2:w.ownsRow w0.heap.size T e.size (hv j) xs.length cells) (h3:gB C.cap σ e cells xs) (h4:∀k,(hv j).ownBlock=some k→own k=some j) (hi:i<xs.length)
 (CZ:i*e.size≤p) (fa:p+vs.length≤i*e.size+e.size) (hr:Rep C.cap σ e v' d')
 (hv':∀q u,v'.cells[q]?=some u→(cells.take p++vs++cells.drop (p+vs.length))[i*e.size+q]?=some u):
 ∃cur,w.heap[k]?=some (.cells cur T (0,0))∧p+vs.length≤cur.size∧Inv C S (ρ.setO j (.list (xs.set i d'))) σ own hv w0 σ0 A a (w.setRow k (cur.toList.take p++vs++cur.toList.drop (p+vs.length)).toArray):=by
 have bl:=h2.1;rcases h2.2 with⟨e0,e1⟩|⟨g,cap,cur,e1,e2,e3,e4,e5,e6,e7⟩
 ·omega
 rw[eE] at e1;cases e1;have auO:i*e.size+e.size≤xs.length*e.size:=by
  have:(i+1)*e.size≤xs.length*e.size:=oD _ hi;rw[oA] at this;omega
 have aJN:xs.length*e.size≤c*e.size:=oD _ e4;have avs:p+vs.length≤cur.size:=by omega
 refine⟨cur,e3,avs,?_⟩;have bV:own k=some j:=h4 k (by rw[eE];rfl);obtain⟨b1,b2⟩:=ahN (w:=w) (B:=w0.heap.size) (k:=k) (cs:=(cur.toList.take p++vs++cur.toList.drop (p+vs.length)).toArray) e2;have C9:(cur.toList.take p++vs++cur.toList.drop (p+vs.length)).take (xs.length*e.size)=cells.take p++vs++cells.drop (p+vs.length):=by
  rw[←e7];apply XJ;intro q;simp only[m9,gC,ln,dW,gU,zX];by_cases hq:q<xs.length*e.size
  ·rw[if_pos hq];by_cases hq1:q<p
   ·simp[hq1,Nat.lt_min,show q<cur.size by omega,hq]
   ·by_cases iS:q-p<vs.length
    ·rw[if_neg (by omega),oC (by omega),if_pos iS,if_neg (by omega),oC (by omega),if_pos iS]
    ·rw[if_neg (by omega),oC (by omega),if_neg iS,if_neg (by omega),oC (by omega),if_neg iS,if_pos (by omega)]
  ·rw[if_neg hq];have:¬q<p:=by omega
   rw[if_neg (by omega),oC (by omega),if_neg (by omega),if_neg (by omega)]
 have:=h.updB j (.row T e) (.list (xs.set i d')) b1 (fun q hq aJ=>b2 q fun e=>aJ (e▸bV))
  ⟨cells.take p++vs++cells.drop (p+vs.length),xs.set i d',by simp[Env.setO,aW],⟨by simp;omega,.inr ⟨k,c,_,by rw[eE];simp,e2,setRow_heap w k cur _ T _ e3,by simpa using e4,e5,by simp;omega,by simpa using C9⟩⟩,?_,h4⟩
 ·rw[St.setO_self eo] at this;exact this
 ·obtain⟨us,u1,u2⟩:=h3;refine⟨fun q=>if q=i then v' else us q,fun q x hx=>?_,fun q m u hq hm=>?_⟩
  ·rw[Ac] at hx;by_cases yi:i=q
   ·subst yi;simp only[if_true] at hx ⊢;rw[if_pos hi] at hx;cases hx;exact hr
   ·rw[if_neg yi] at hx;simp only[show ¬q=i from fun e=>yi e.symm,if_false];exact u1 q x hx
  ·by_cases yi:q=i
   ·subst yi;simp only[if_true] at hm;exact hv' m u hm
   ·simp only[yi,if_false] at hm;simp only[List.length_set] at hq;have h9:=u2 q m u hq hm;have aJ1:m<e.size:=by rw[←(u1 q _ (bH hq)).size];exact(fT.1 hm).1
    have jN:q*e.size+m<p∨p+vs.length≤q*e.size+m:=by
     rcases Na q i with ah|eY
     ·left;have:(q+1)*e.size≤i*e.size:=oD _ ah;rw[oA] at this;omega
     ·right;have:(i+1)*e.size≤q*e.size:=oD _ (by omega);rw[oA] at this;omega
    rw[m9,ln,dW,oC (by omega)];rcases jN with ho|ho
    ·rw[if_pos ho,gC,if_pos ho];exact h9
    ·rw[if_neg (by omega),kC (by omega),gU];rw[show p+vs.length+(q*e.size+m-p-vs.length)=q*e.size+m by omega];exact h9
theorem apM (h:Inv C S ρ σ own hv w0 σ0 A a w)(hC:CtxOK C σ0){T:TypeId}{x v:Operand}{r:St×List PI}(hr:sR C S T x v=some r){o:Oper}(hd:o.dst=none)(ho:o.op=.store T x v):bX C w0 σ0 Φ S ρ A a w o r:=by
 unfold sR at hr;split at hr
 case h_2=>cases hr
 rename_i inf hi;obtain⟨eC,_⟩:=wL h (gs:=[]) rfl x;split at hr
 case h_3=>cases hr
 ·rename_i j ver off es;rw[es] at eC;cases hb:Nat.beq ver (S.ver j)<;>simp only[hb,cond_true,cond_false] at hr
  ·cases hr
  obtain⟨k,eE,fJ⟩:=eC.2 (aL hb);have bp:=h.objs j;split at hr
  case h_2=>cases hr
  rename_i ag shs eo;rw[eo] at bp;obtain⟨k',cs,E,ds,h1,h2,h3,h4,h5,h6,h7⟩:=bp;have cE:=h1;rw[eE] at h1;cases h1;split at hr
  ·rename_i t e hu;have hv':=bZ h hC rfl hu;cases hc:(Nat.beq inf.size t.size&&(t.rowT||t.one)&&Nat.ble (off+t.size) shs.length)<;>simp only[hc,cond_true,cond_false] at hr
   ·cases hr
   cases hr;simp only[ar,gA] at hc;obtain⟨⟨aS,gJ⟩,hle⟩:=hc;have aS:=aL aS;have hle:=kE hle;obtain⟨f1,f2,f3⟩:=hv'.flat gJ;have gL:=hv'.size;refine bX.skip hd fun ρ' ak=>?_;rw[su ak]
   refine⟨_,Mr ho hi fJ (by rw[gL,aS]) (fun u hu=>by
        obtain⟨m,hm,rfl⟩:=nf hu;exact hv'.cellsOne gJ (m:=m) (by simp at hm ⊢)) h3 (by omega),?_⟩
   have cP:=h.storeBox (off:=off) (news:=t.flat.map .dat) (vs:=(a.eval v).cells.toList) (dn:=(e.ev ρ).cells) eo cE h2 h3 h4 h5 h6 h7 (by simp[f1,gL]) (by simp[f2,gL]) (by simp[gL];omega) (fun i s hi=>by
        simp only[cS,aG] at hi;obtain⟨ti,Qs,rfl⟩:=hi;refine⟨fun _ _ e=>(by cases e),?_⟩;rw[xL];exact(f3 i ti Qs).2)
   have e1:(a.eval v).cells.toList.length=t.size:=by simp[gL]
   rw[e1] at cP;rw[aS];refine⟨σ,own,hv,?_⟩;simpa [PE.ev,h5,D.cells] using cP
  ·split at hr
   case h_2=>cases hr
   rename_i j' om fZ;obtain⟨Ql,_⟩:=wL h (gs:=[]) rfl v;rw[fZ] at Ql;cases hc:(Nat.beq om (S.ver j')&&mK (S.o j')&&Nat.beq inf.size 1&&Nat.blt off shs.length)<;>simp only[hc,cond_true,cond_false] at hr
   ·cases hr
   cases hr;simp only[ar] at hc;obtain⟨⟨⟨awf,gf⟩,aS⟩,ah⟩:=hc;have aS:=aL aS;have ah:off<shs.length:=by simpa [ix] using ah
   have cA:=Ql.2 (aL awf);obtain⟨c1,c2⟩:=aBU h gf;have j5:(a.eval v).cells=#[a.eval v]:=by rw[cA];exact c1
   refine bX.skip hd fun ρ' ak=>?_;rw[su ak];refine⟨_,Mr ho hi fJ (by rw[j5,aS];rfl) (fun u hu=>by rw[j5] at hu;simp at hu;subst hu;rw[cA];exact c2) h3 (by omega),?_⟩
   have cP:=h.storeBox (off:=off) (news:=[.obj j' om]) (vs:=[a.eval v]) (dn:=[.none]) eo cE h2 h3 h4 h5 h6 h7 rfl rfl (by simp;omega) (fun i s hi=>by
        match i,hi with
        |0,hi=>simp at hi;subst hi;exact⟨fun _ _ e=>(by cases e),Ql.1,fun _=>by simpa using cA⟩
        |i+1,hi=>simp at hi)
   rw[j5,aS];have e2:shs.take off++[Sh.obj j' om]++shs.drop (off+[a.eval v].length)=shs.set off (.obj j' om):=by
        rw[List.set_eq_take_append_cons_drop,if_pos ah];simp
   rw[e2] at cP;refine⟨σ,own,hv,?_⟩;simpa [PE.ev,h5,D.cells] using cP
 ·rename_i j ver size off es;rw[es] at eC;cases hb:Nat.beq ver (S.ver j)<;>simp only[hb,cond_true,cond_false] at hr
  ·cases hr
  obtain⟨k,n,c,ik,i,eE,td,bI,fJ⟩:=eC.2 (aL hb);have bp:=h.objs j;split at hr
  ·rename_i T' ts t e eo hu;rw[eo] at bp;have hv':=bZ h hC rfl hu;cases hc:(Nat.beq inf.size t.size&&(t.rowT||t.one)&&Nat.beq size ts.length&&Nat.ble (off+t.size) ts.length&&Ty.subs t.flat ((ts.drop off).take t.size))<;>simp only[hc,cond_true,cond_false] at hr
   ·cases hr
   cases hr;simp only[ar,gA] at hc;obtain⟨⟨⟨⟨aS,gJ⟩,vC⟩,hle⟩,cl⟩:=hc;have aS:=aL aS;have vC:=aL vC;have hle:=kE hle;obtain⟨f1,f2,f3⟩:=hv'.flat gJ;have gL:=hv'.size;have f1:t.flat.length=t.size:=f1;have f2:(e.ev ρ).cells.length=t.size:=f2;have gL:(a.eval v).cells.size=t.size:=gL;obtain⟨cells,xs,k1,k2,k3,k4⟩:=bp;obtain⟨b,c',e1,CO,CP⟩:=we k2;rw[eE] at e1;cases e1;obtain⟨us,u1,u2⟩:=k3;obtain⟨y,hy⟩:∃y,xs[i]?=some y:=⟨_,bH bI⟩
   obtain⟨os,ds,yn,hd0,l1,l2,aX,dZ⟩:=(u1 i y hy).agg_inv;have Db:(a.eval v).cells.toList.length=t.size:=by simp[gL]
   have kL:Rep C.cap σ (.agg ts) (.agg (os.take off++(a.eval v).cells.toList++os.drop (off+(a.eval v).cells.toList.length)).toArray) (.agg (dU ds off (e.ev ρ).cells)):=by
        refine .agg _ _ _ (by simp[gL];omega) (by simp[dU,f2];omega) (fun m tm hm=>?_) dZ;rw[Hn os _ off undef (by rw[Db];omega),dU,Hn ds _ off .none (by rw[f2];omega),Db,f2];split
        ·rename_i hc;have avX:=Ty.subs_get _ _ cl (m-off) tm (by
          rw[gC,if_pos (by omega),gU,show off+(m-off)=m by omega];exact hm)
         obtain⟨tf,htf,cP⟩:=avX;rw[xL];exact((f3 _ tf htf).2).sub cP
        ·exact aX m tm hm
   have bl:=k2.1;have auO:i*(Ty.agg ts).size+(Ty.agg ts).size≤xs.length*(Ty.agg ts).size:=by
        have:(i+1)*(Ty.agg ts).size≤xs.length*(Ty.agg ts).size:=oD _ bI;rw[oA] at this;omega
   have abI:(Ty.agg ts).size=ts.length:=rfl
   obtain⟨cur,q1,q2,q3⟩:=h.storeRow (i:=i) (p:=i*(Ty.agg ts).size+off) (vs:=(a.eval v).cells.toList) eo eE k1 k2 ⟨us,u1,u2⟩ k4 bI (by omega) (by rw[Db];omega) kL (fun q u hq=>by
        have dy:(os.take off++(a.eval v).cells.toList++os.drop (off+(a.eval v).cells.toList.length))[q]?=some u:=by simpa [Value.cells] using hq
        have aJ7:q<ts.length:=by have:=(fo.1 dy).1;simp[gL] at this;omega
        rw[m9,ln,dW,oC (by omega)] at dy;rw[m9,ln,dW,oC (by omega)];by_cases qz:q<off
        ·rw[if_pos qz,gC,if_pos qz] at dy;rw[if_pos (by omega),gC,if_pos (by omega)];exact u2 i q u bI (by rw[yn];simpa [Value.cells] using dy)
        ·rw[if_neg qz,ln] at dy;rw[if_neg (by omega),ln];rw[show i*(Ty.agg ts).size+q-(i*(Ty.agg ts).size+off)=q-off by omega];by_cases Qg:q-off<(a.eval v).cells.toList.length
         ·rw[if_pos Qg] at dy ⊢;exact dy
         ·rw[if_neg Qg,gU] at dy;rw[if_neg Qg,gU];rw[show off+(a.eval v).cells.toList.length+(q-off-(a.eval v).cells.toList.length)=q by omega] at dy;rw[show i*(Ty.agg ts).size+off+(a.eval v).cells.toList.length+(q-off-(a.eval v).cells.toList.length)=i*(Ty.agg ts).size+q by omega];exact u2 i q u bI (by rw[yn];simpa [Value.cells] using dy))
   refine bX.skip hd fun ρ' ak=>?_;rw[su ak]
   refine⟨_,Mr ho hi (cs:=cur) (by rw[fJ,vC]) (by rw[gL,aS]) (fun u hu=>by
        obtain⟨m,hm,rfl⟩:=nf hu;exact hv'.cellsOne gJ (m:=m) (by simp at hm ⊢)) q1 (by rw[Db] at q2;rw[aS,←abI];exact q2),σ,own,hv,?_⟩
   rw[Db] at q3;simp only[PE.ev,k1,D.l_list,td,D.i_int,uF,rC hy,hd0,uk];rw[aS,←abI];exact q3
  ·rename_i T' e0 t e aJ eo hu;rw[eo] at bp;have hv':=bZ h hC rfl hu;cases hc:(Nat.beq inf.size 1&&Nat.beq size 1&&Nat.beq off 0&&e0.one&&Ty.sub t e0)<;>simp only[hc,cond_true,cond_false] at hr
   ·cases hr
   cases hr;simp only[ar] at hc;obtain⟨⟨⟨⟨aS,vC⟩,iQ⟩,dZ⟩,cl⟩:=hc;have aS:=aL aS;have vC:=aL vC;have iQ:=aL iQ;subst iQ;subst vC;have hve:=hv'.sub cl;obtain⟨c1,c2⟩:=hve.oneCell dZ;have CB:e0.size=1:=by cases e0<;>simp_all [Ty.size,Ty.one]
   obtain⟨cells,xs,k1,k2,k3,k4⟩:=bp;obtain⟨b,c',e1,CO,CP⟩:=we k2;rw[eE] at e1;cases e1;obtain⟨y,hy⟩:∃y,xs[i]?=some y:=⟨_,bH bI⟩
   have bl:=k2.1
   obtain⟨cur,q1,q2,q3⟩:=h.storeRow (i:=i) (p:=i*e0.size) (vs:=[a.eval v]) eo eE k1 k2 k3 k4 bI (bk _) (by rw[CB];simp) hve (fun q u hq=>by
        rw[c1] at hq;have vx:q=0:=by have:=(fT.1 hq).1;simpa using this
        subst vx;simp at hq;subst hq;have:i*e0.size≤cells.length:=by rw[bl];exact oD _ (by omega)
        rw[m9,kC (by simp;omega)];simp[oC this])
   refine bX.skip hd fun ρ' ak=>?_;rw[su ak];refine⟨_,Mr ho hi (cs:=cur) (by rw[fJ]) (by rw[c1,aS];rfl) (fun u hu=>by rw[c1] at hu;simp at hu;subst hu;exact c2) q1 (by rw[CB] at q2;rw[aS];simpa using q2),σ,own,hv,?_⟩;rw[c1,aS];have Df:uk y 0 (e.ev ρ)=e.ev ρ:=by
        obtain⟨us,u1,u2⟩:=k3;have:=(u1 i y hy).dcells dZ;cases y with
        |agg ds=>have h8:=u1 i _ hy;generalize us i=vv at h8;cases h8;simp[Ty.one] at dZ
        |_=>rfl
   simp only[PE.ev,k1,D.l_list,td,D.i_int,uF,rC hy,Df];rw[CB] at q3;simpa using q3
  ·cases hr
end
end Cx
namespace Cx
open Go Go.RowKit
section
variable {C:Ctx} {S:St} {ρ:Env} {σ:Im} {own:Nat→Option Nat} {hv:Nat→Value} {w0:World} {σ0:Base} {A:Nat→Prop} {a:Act} {w:World} {gs:List (Nat×Bool)} {Φ:aV} {dst:Nat}
theorem aqa {ρ:Env}{es:List PE}{i:Nat}{e:PE}(h:es[i]?=some e):(PE.evs ρ es)[i]?=some (e.ev ρ):=by
 rw[PE.evs_eq,cS,h];rfl
theorem ZH (h:Inv C S ρ σ own hv w0 σ0 A a w)(hC:CtxOK C σ0)(hg:holds gs ρ=true){T:TypeId}{len:Nat}{ps:Array (Nat×Operand)}{r:St×List PI}(hr:uU C S gs dst T len ps.toList=some r){o:Oper}
 (ho:o.op=.buildSlice T len ps):∃(E:TypeId) (e:Ty) (es:List PE) (v:Value) (w':World),C.P.underlying T=some (.slice E)∧oh C.P E=some e∧r=(mkObj S dst (.row E e),[.setO dst (.lst es),.setR dst (.con .none)])∧
   (execOp a.eval o).run C.P w=.ok (.value v) w'∧Below w.heap.size w w'∧(∀k,Nat.beq k w.heap.size=true→w.heap.size≤k∧k<w'.heap.size)∧
   cf C (S.newO dst (.row E e)) (ρ.setO dst (.list (PE.evs ρ es))) σ (fN own dst (fun k=>Nat.beq k w.heap.size)) (bY hv dst v) w' w0.heap.size dst (.row E e):=by
 unfold uU at hr;split at hr
 case h_2=>cases hr
 rename_i E hT;simp only[az] at hr;obtain⟨e,he,z,hz,hr⟩:=hr;cases hc:(qj C.P E e&&Ty.sub z.1 e&&jx (ps.toList.map (·.1))&&ps.toList.all (fun p=>Nat.blt p.1 len)&&Nat.ble (len*e.size) 16777216)<;>simp only[hc,cond_true,cond_false] at hr
 ·cases hr
 simp only[ar] at hc;obtain⟨⟨⟨⟨hef,cl⟩,bo⟩,eL⟩,hle⟩:=hc;have hle:=kE hle;obtain⟨inf,zv,hi,hs,oY,h1,hzv,lN⟩:=OE hef;have rQ:=Xq lN;have jq:=mQ bo;have Dg:=((wT (cap:=C.cap) (σ:=σ) hz lN).1).sub cl;simp only[aG] at hr;obtain⟨es,iO,rfl⟩:=hr;obtain⟨ZR,el2⟩:=mapM_some _ _ _ iO;simp only[XQ] at ZR;have aaT:∀i,i<len→∃pe,es[i]?=some pe∧Hd C S gs e z.2 ps.toList i=some pe:=by
  intro i hi;obtain⟨y,hy1,rP⟩:=el2 i i (by rw[p6 hi]);exact⟨y,hy1,rP⟩
 have qy:∀x,x∈ps.toList→x.1<len∧∃t pe,use C S gs x.2=some (t,pe)∧Ty.sub t e=true∧es[x.1]?=some pe:=by
  intro x hx;have vI:x.1<len:=by
   have:=bK.1 eL x hx;simpa [ix] using this
  refine⟨vI,?_⟩;obtain⟨pe,CZ,fa⟩:=aaT x.1 vI;have CE:=Z7 jq (i:=x.1) (x:=x.2) hx;simp only[Hd,CE,az] at fa;obtain⟨y,hy,fa⟩:=fa;cases hs:Ty.sub y.1 e<;>simp only[hs,cond_true,cond_false] at fa
  ·cases fa
  cases fa;exact⟨y.1,y.2,hy,hs,CZ⟩
 let c0:Array Value:=madeCells zv.cells (len*e.size)
 have Cv:c0.size=len*e.size:=size_madeCells _ _
 have lL:∀p,p∈(ps.toList.map fun(x:Nat×Operand)=>(x.1,a.eval x.2))→∃o,(fun i=>some (i*e.size,e.size)) p.1=some (o,p.2.cells.size)∧o+p.2.cells.size≤c0.size:=by
  intro p hp;obtain⟨x,hx,rfl⟩:=ej.1 hp;obtain⟨vI,t,pe,hu,cP,_⟩:=qy x hx;have tB:=((bZ h hC hg hu).sub cP).size;simp only;refine⟨x.1*e.size,by rw[tB],?_⟩;rw[tB,Cv];have:(x.1+1)*e.size≤len*e.size:=oD _ vI;rw[oA] at this;omega
 have xY:∀(i j oi si oj sj:Nat),i≠j→(fun i=>some (i*e.size,e.size)) i=some (oi,si)→(fun i=>some (i*e.size,e.size)) j=some (oj,sj)→oi+si≤oj∨oj+sj≤oi:=by
  intro i j oi si oj sj aJ hi hj;simp only[bf,ni] at hi hj;obtain⟨rfl,rfl⟩:=hi;obtain⟨rfl,rfl⟩:=hj;rcases Na i j with ah|eY
  ·left;have:(i+1)*e.size≤j*e.size:=oD _ ah;rw[oA] at this;omega
  ·right;have:(j+1)*e.size≤i*e.size:=oD _ (by omega);rw[oA] at this;omega
 obtain⟨eR,f1,f2,f3,f4⟩:=OR (fun i=>some (i*e.size,e.size)) (ps.toList.map fun(x:Nat×Operand)=>(x.1,a.eval x.2)) c0 lL xY (by simpa [Ft] using jq);have ak:(execOp a.eval o).run C.P w=.ok (.value (.slice (some ⟨w.heap.size,0,none⟩) len len)) (w.alloc (.cells eR E)):=by
  have n1:¬(len*inf.size>2^24):=by rw[hs];omega
  have Hh:Instr.fill (fun i=>some (i*inf.size,inf.size)) c0 (ps.toList.map fun(x:Nat×Operand)=>(x.1,a.eval x.2))=some eR:=by rw[hs];exact f1
  by_cases h0:len*inf.size=0
  ·have Pn:c0=#[]:=by
        apply M0;rw[Cv,←hs];exact h0
   rw[Pn] at Hh
   have aqd:Instr.fill (fun i=>some (i*inf.size,inf.size)) (Array.map (fun _=>default) (Array.range 0)) (ps.toList.map fun(x:Nat×Operand)=>(x.1,a.eval x.2))=some eR:=by
        have:(Array.map (fun _=>(default:Value)) (Array.range 0))=#[]:=by simp
        rw[this];exact Hh
   simp[execOp,ho,Instr.buildSlice,run_underlying hT,Go.sizeOf,run_typeInfo w hi,n1,h0,aqd,newRow]
  ·have Pn:c0=(Array.range (len*inf.size)).map (fun x=>zv.cells[x%zv.cells.size]!):=by simp only[c0,madeCells,hs]
   rw[Pn] at Hh;have h00:¬(len=0∨inf.size=0):=by rw[←Nat.mul_eq_zero];exact h0
   simp[execOp,ho,Instr.buildSlice,run_underlying hT,Go.sizeOf,run_typeInfo w hi,n1,h0,h00,zeroValue,hzv,Hh,newRow]
 refine⟨E,e,es,_,_,hT,he,rfl,ak,(Below.refl _ _).alloc (bk _) _,fun k hk=>by simp at hk;simp;omega,?_⟩;have iN:(PE.evs ρ es).length=len:=by rw[PE.evs_eq,iw,ZR]
 have auz:∀(i:Nat) (x:D),(PE.evs ρ es)[i]?=some x→∃v,Rep C.cap σ e v x∧∀q u,v.cells[q]?=some u→eR.toList[i*e.size+q]?=some u:=by
  intro i x hx;have HT:i<len:=by have:=(fo.1 hx).1;omega
  obtain⟨pe,CZ,fa⟩:=aaT i HT;rw[aqa CZ] at hx;cases hx;unfold Hd at fa;split at fa
  ·rename_i p hp;have hpm:=xd hp;have Ie:p.1=i:=by have:=M4 hp;simpa using this
   obtain⟨_,t,pe',hu,cP,tq⟩:=qy p hpm;rw[Ie,CZ] at tq;cases tq;have bS:=(bZ h hC hg hu).sub cP;refine⟨_,bS,fun q u hq=>?_⟩;have If:q<(a.eval p.2).cells.size:=(fT.1 hq).1;have:=f3 p.1 (a.eval p.2) (p.1*e.size) (ej.2 ⟨p,hpm,rfl⟩) (by simp[bS.size]) q If;rw[Ie] at this;simp[this,hq]
  ·rename_i hp;cases fa;refine⟨zv,Dg,fun q u hq=>?_⟩;have If:q<zv.cells.size:=(fT.1 hq).1
   have qv:i∉(ps.toList.map fun(x:Nat×Operand)=>(x.1,a.eval x.2)).map (·.1):=by
        intro cU;simp only[Fy,ej,Ft] at cU;obtain⟨x,yr,e⟩:=cU;have:=uH.1 hp x yr;simp[e] at this
   have:=f4 i (i*e.size) e.size qv rfl q (by omega);have h9:c0[i*e.size+q]?=zv.cells[q]?:=by
        simp only[c0];rw[←rQ];exact acy (by omega) HT If
   simp[this,h9,hq]
 have gL:∃vs:Nat→Value,∀(i:Nat) (x:D),(PE.evs ρ es)[i]?=some x→Rep C.cap σ e (vs i) x∧∀q u,(vs i).cells[q]?=some u→eR.toList[i*e.size+q]?=some u:=by
  have lH:∀i,∃v,∀x,(PE.evs ρ es)[i]?=some x→Rep C.cap σ e v x∧∀q u,v.cells[q]?=some u→eR.toList[i*e.size+q]?=some u:=by
   intro i;cases hx:(PE.evs ρ es)[i]? with
   |none=>exact⟨undef,fun x db=>by cases db⟩
   |some x=>
    obtain⟨v,hv⟩:=auz i x hx;exact⟨v,fun y hy=>by cases hy;exact hv⟩
  exact⟨fun i=>Classical.choose (lH i),fun i x hx=>Classical.choose_spec (lH i) x hx⟩
 obtain⟨vs,gL⟩:=gL;have eX:eR.size=len*e.size:=by rw[f2,Cv]
 refine⟨eR.toList,PE.evs ρ es,by simp[Env.setO,aW],?_,⟨vs,fun i x hx=>(gL i x hx).1,fun i j u hi hj=>(gL i _ (bH hi)).2 j u hj⟩,fun k hk=>by rw[aW] at hk;simp[Value.ownBlock] at hk;simp[fN,hk]⟩;rw[aW,iN];have PF:len≤maxLen:=by
  have:len*1≤len*e.size:=Nat.mul_le_mul_left _ h1;unfold maxLen;omega
 exact⟨by simp[eX],.inr ⟨w.heap.size,len,eR,rfl,h.below.size,heap_alloc_new w _,bk _,PF,eX,by rw[Af (by simp[eX])]⟩⟩
theorem apn (h:Inv C S ρ σ own hv w0 σ0 A a w)(hC:CtxOK C σ0)(ht:¬A dst)(ah:dst<a.tmps.size){T:TypeId}{len:Nat}{ps:Array (Nat×Operand)}{r:St×List PI}(hr:uU C S [] dst T len ps.toList=some r){o:Oper}(hd:o.dst=some dst)
 (ho:o.op=.buildSlice T len ps):bX C w0 σ0 Φ S ρ A a w o r:=by
 obtain⟨E,e,es,v,w',_,_,rfl,ak,hb,da,cF⟩:=ZH h hC rfl hr ho;refine bX.value hd fun ρ' qB=>⟨_,_,ak,?_⟩
 rw[E1 qB];exact h.mkObj ht ah (.row E e) _ _ (fun k=>Nat.beq k w.heap.size) hb da cF
theorem Inv.kill (h:Inv C S ρ σ own hv w0 σ0 A a w)(j:Nat):Inv C (S.newO j .dead) ρ σ own hv w0 σ0 A a w:=by
 have dR:∀i,S.ver i≤(S.newO j .dead).ver i:=by
  intro i;show S.ver i≤bY S.ver j (S.ver j+1) i;rw[fS];by_cases e:i=j
  ·subst e;simp
  ·simp[e]
 have hc:Compat S hv (S.newO j .dead) hv:=⟨dR,fun _ _=>rfl⟩
 refine h.step (·=j) rfl (.refl σ) h.ok (fun _ _ _ hx=>.inl hx) (fun _ _ hx=>.inl hx) (.refl _ _) hc (fun i hi=>⟨by simp[St.newO,bA _ _ hi],rfl,rfl,fun k hk=>⟨hk,rfl⟩⟩) (fun i hi=>?_) h.owns (fun _=>id) (fun t=>.inl ⟨rfl,rfl,rfl⟩) (fun _ _=>rfl) (fun _ _ _=>rfl) (fun k i hk=>.inl ⟨i,hk⟩) (fun i hi=>by subst hi;simp[St.newO,aW]);subst hi;simp only[St.newO,aW];trivial
theorem apA (h:Inv C S ρ σ own hv w0 σ0 A a w)(hC:CtxOK C σ0)(ht:¬A dst)(ah:dst<a.tmps.size)(dF:∀g,g∈gs→A g.1)(hg:holds gs ρ=true){T:TypeId}{len:Nat}{ps:Array (Nat×Operand)}{r:St×List PI}(hr:xD C S gs dst T len ps.toList=some r){o:Oper}(hd:o.dst=some dst)
 (ho:o.op=.buildSlice T len ps):bX C w0 σ0 Φ S ρ A a w o r:=by
 unfold xD at hr;split at hr
 case h_2=>cases hr
 rename_i E q hT hq;simp only[az] at hr;obtain⟨e,he,hr⟩:=hr;obtain⟨E',e',es,v,w',xQ,kJ,rfl,ak,hb,da,cF⟩:=ZH h hC hg hq ho;rw[hT] at xQ;cases xQ;rw[he] at kJ;cases kJ;cases hr;refine bX.value hd fun ρ' qB=>⟨_,_,ak,?_⟩
 have hρ:ρ'=ρ.setR dst (.list (PE.evs ρ es)):=by simp[PI.runs,PI.run,PE.ev] at qB;exact qB.symm
 subst hρ;have h1:=h.newO dst (.row E e) (.list (PE.evs ρ es)) v (fun k=>Nat.beq k w.heap.size) hb da cF;obtain⟨σ2,ij,_,h2⟩:=h1.fz dst;have CG:(S.newO dst (.row E e)).fz dst=(S.newO dst (.row E e)).setO dst (.fz (.slice e.rol)):=by
  have:(S.newO dst (.row E e)).o dst=.row E e:=aW _ _ _;unfold St.fz;rw[this]
 rw[CG] at h2;have bp:=h2.objs dst;have e1:((S.newO dst (.row E e)).setO dst (.fz (.slice e.rol))).o dst=.fz (.slice e.rol):=aW _ _ _;rw[e1] at bp;have bS:Rep C.cap σ2 (.slice e.rol) v (.list (PE.evs ρ es)):=by
  have:=bp.2
  rwa [aW,show(ρ.setO dst (.list (PE.evs ρ es))).o dst=.list (PE.evs ρ es) from aW _ _ _] at this
 have h3:Inv C (S.newO dst .dead) ρ σ2 ij (bY hv dst v) w0 σ0 A a w':=by
  refine h2.step (·=dst) rfl (.refl σ2) h2.ok (fun _ _ _ hx=>.inl hx) (fun _ _ hx=>.inl hx) (.refl _ _) ⟨fun i=>bk _,fun _ _=>rfl⟩ (fun i hi=>⟨?_,?_,rfl,fun k hk=>⟨hk,rfl⟩⟩) (fun i hi=>?_) h2.owns (fun _=>id) (fun t=>.inl ⟨rfl,rfl,rfl⟩) (fun _ _=>rfl) (fun _ _ _=>rfl) (fun k i hk=>.inl ⟨i,hk⟩) (fun i hi=>by subst hi;simp[St.newO,aW])
  ·simp[St.newO,St.setO,bA _ _ hi]
  ·simp[Env.setO,bA _ _ hi]
  ·subst hi;simp only[St.newO,aW];trivial
 have hh:holds gs (ρ.setR dst (.list (PE.evs ρ es)))=true:=by rw[CW (t:=dst) fun g hm e=>ht (by rw[←e];exact dF g hm)];exact hg
 cases gs with
 |nil=>exact⟨_,_,_,h3.setReg ht (s:=.dat (.slice e.rol)) bS ah (fun _ _ e=>by cases e)⟩
 |cons g bM=>
  refine⟨_,_,_,h3.setReg ht (s:=.opt (g::bM) (.dat (.slice e.rol))) ⟨fun _=>bS,fun e=>absurd (hh.symm.trans e) (by decide)⟩ ah (fun gs s e=>?_)⟩;cases e;exact⟨dF,fun _ _ e=>by cases e⟩
end
end Cx
