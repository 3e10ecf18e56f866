/-
  Shared texts of this claim.
-/
import Derived.Test.YtbeeplempgffoaaGreatDoorDAB
import Derived.Laws.OwnMore
import Derived.Lib.ConvBytes
set_option linter.unusedSimpArgs false
set_option linter.unusedVariables false
noncomputable section
namespace Cx
open Go Go.RowKit
def mkObj (S:St)(dst:Nat)(ob:Ob):St:=(S.newO dst ob).setR dst (.obj dst (S.ver dst+1))
def mkPtr (S:St)(dst:Nat)(ob:Ob):St:=(S.newO dst ob).setR dst (.ptr dst (S.ver dst+1) 0)
abbrev lZ:=Option (St×List PI)
def Dx (C:Ctx)(S:St)(dst:Nat)(T:TypeId)(x:Operand):lZ:=
 match use C S [] x,C.P.underlying T with
 |some (.nils _,_),some (.slice E)=>(oS C.P E).map fun e=>(mkObj S dst (.row E e),[.setO dst (.con (.list [])),.setR dst (.con .none)])
 |_,_=>Option.none
def Dq (C:Ctx)(S:St)(dst:Nat)(T:TypeId):lZ:=
 match oS C.P T,C.P.info? T,p6 C.P T with
 |some t,some inf,some ag=>
  bif ua inf t&&(t.rowT||t.one) then
   (oU t).map fun z=>(mkPtr S dst (.box ag (z.1.flat.map .dat)),[.setO dst (.con (.agg z.2.cells)),.setR dst (.con .none)])
  else Option.none
 |_,_,_=>Option.none
def Ds (C:Ctx)(S:St)(dst:Nat)(T:TypeId)(x:Operand):lZ:=
 match use C S [] x,p6 C.P T with
 |some (t,e),some ag=>
  bif t.rowT||t.one then some (mkPtr S dst (.box ag (t.flat.map .dat)),[.setO dst (.mk [e]),.setR dst (.con .none)]) else Option.none
 |_,_=>Option.none
def Dv (C:Ctx)(S:St)(dst:Nat)(T:TypeId)(r:Option Operand):lZ:=
 match C.P.underlying T,r with
 |some (.map K E),Option.none=>
  (oS C.P K).bind fun kt=>(oS C.P E).map fun et=>(mkObj S dst (.mp kt et),[.setO dst (.con (.map [])),.setR dst (.con .none)])
 |_,_=>Option.none
def Dw (C:Ctx)(S:St)(dst:Nat)(T:TypeId)(l c:Operand):lZ:=
 match C.P.underlying T,use C S [] l,use C S [] c with
 |some (.slice E),some (.int _,n),some (.int _,m)=>
  (oS C.P E).bind fun e=>
    bif qK C.P E e then
     (oU e).bind fun z=>
        bif Ty.sub z.1 e then some (mkObj S dst (.row E e),[.chk (Rq n),.chk (.ci .eql n m),.setO dst (.rep n (.con z.2)),.setR dst (.con .none)]) else Option.none
    else Option.none
 |_,_,_=>Option.none
def Dy (C:Ctx)(S:St)(dst:Nat)(T:TypeId)(x:Operand):lZ:=
 match C.P.underlying T,kH S [] x with
 |some (.map _ _),.obj j ver=>
  bif Nat.beq ver (S.ver j)&& !Nat.beq j dst then
   match S.o j with
   |.mp kt et=>some (mkObj (S.mv j dst) dst (.it kt et),[.setO dst (.tup [.lst [],.o j]),.setR dst (.con .none)])
   |_=>Option.none
  else Option.none
 |_,_=>Option.none
def Dt (C:Ctx)(S:St)(dst:Nat)(s d:TypeId)(x:Operand):lZ:=
 match use C S [] x,C.P.underlying s,C.P.underlying d with
 |some (.str,e),some .string,some (.slice E)=>
  (match C.P.underlying E with
   |some (.int .u8)=>some (S.setR dst (.dat (.slice (.int .u8))),[.chk (.ci .leq (.slen e) (.con (.int nw))),.setR dst (.bytes e)])
   |_=>Option.none)
 |_,_,_=>Option.none
section
variable {C:Ctx} {S:St} {ρ:Env} {σ:Im} {own:Nat→Option Nat} {hv:Nat→Value} {w0:World} {σ0:Base} {A:Nat→Prop} {a:Act} {w:World} {gs:List (Nat×Bool)} {Φ:aY} {dst:Nat}
def cC (C:Ctx)(w0:World)(σ0:Base)(Φ:aY)(S:St)(ρ:Env)(A:Nat→Prop)(a:Act)(w:World)(o:Oper)(r:St×List PI):Prop:=
 ∀ρ',PI.runs Φ r.2 ρ=some ρ'→∀(K:Act→World→Prop) (Q:Exit→Act→World→Prop),(∀a' w',Good C w0 σ0 r.1 ρ' (fun u=>A u∨o.dst=some u) a' w'→a'.tmps.size=a.tmps.size→K a' w')→o.wp C.P a w K Q
theorem size_put (a:Act)(d:Option Tmp)(v:Value):(a.put d v).tmps.size=a.tmps.size:=by
 cases d<;>simp[Act.put]
theorem cC.value {o:Oper}{r:St×List PI}(hd:o.dst=some dst)(hx:∀ρ',PI.runs Φ r.2 ρ=some ρ'→∃v w',(execOp a.eval o).run C.P w=.ok (.value v) w'∧Good C w0 σ0 r.1 ρ' (fun u=>A u∨u=dst) (a.put (some dst) v) w'):cC C w0 σ0 Φ S ρ A a w o r:=by
 intro ρ' ay K Q hK;obtain⟨v,w',h1,h2⟩:=hx ρ' ay;simp only[Oper.wp,h1,Oper.upon,hd];refine hK _ _ ?_ (size_put _ _ _)
 have:(fun u=>A u∨o.dst=some u)=(fun u=>A u∨u=dst):=by
  funext u;rw[hd];simp[eq_comm]
 rw[this];exact h2
theorem cC.skip {o:Oper}{r:St×List PI}(hd:o.dst=none)(hx:∀ρ',PI.runs Φ r.2 ρ=some ρ'→∃w',(execOp a.eval o).run C.P w=.ok .skip w'∧Good C w0 σ0 r.1 ρ' A a w'):cC C w0 σ0 Φ S ρ A a w o r:=by
 intro ρ' ay K Q hK;obtain⟨w',h1,h2⟩:=hx ρ' ay;simp only[Oper.wp,h1,Oper.upon,hd]
 have:(fun u=>A u∨o.dst=some u)=A:=by
  funext u;rw[hd];simp
 rw[this] at hK;exact hK _ _ h2 (size_put _ _ _)
theorem eI.eff (h:Inv C S ρ σ own hv w0 σ0 A a w)(ht:¬A dst)(ar:dst<a.tmps.size){o:Oper}(hd:o.dst=some dst){s:Sh}{E7:List PI}(hq:eI C S ρ σ hv Φ dst a w o (s,E7)):cC C w0 σ0 Φ S ρ A a w o (S.setR dst s,E7):=by
 refine cC.value hd fun ρ' ay=>?_;obtain⟨v,d,rfl,h1,h2,h3⟩:=hq ρ' ay;exact⟨v,w,h1,σ,own,hv,h.setReg ht (bf.mono' (.refl σ) (.refl S hv) h3 h2) ar (fun gs s' e=>absurd e (h3 gs s'))⟩
theorem eI.effG (h:Inv C S ρ σ own hv w0 σ0 A a w)(ht:¬A dst)(ar:dst<a.tmps.size)(ez:∀g,g∈gs→A g.1)(hg:holds gs ρ=true){o:Oper}(hd:o.dst=some dst){s:Sh}{E7:List PI}(hq:eI C S ρ σ hv Φ dst a w o (s,E7)):cC C w0 σ0 Φ S ρ A a w o (S.setR dst (.opt gs s),E7):=by
 refine cC.value hd fun ρ' ay=>?_;obtain⟨v,d,rfl,h1,h2,h3⟩:=hq ρ' ay;have hh:holds gs (ρ.setR dst d)=true:=by rw[Eh (t:=dst) (d:=d) fun g hm e=>ht (by rw[←e];exact ez g hm)];exact hg
 refine⟨v,w,h1,σ,own,hv,h.setReg ht ⟨fun _=>bf.mono' (.refl σ) (.refl S hv) h3 h2,fun e=>absurd (hh.symm.trans e) (by decide)⟩ ar (fun bZ s' e=>?_)⟩;cases e;exact⟨ez,h3⟩
theorem Inv.passed (h:Inv C S ρ σ own hv w0 σ0 A a w)(ht:¬A dst)(ar:dst<a.tmps.size)(ez:∀g,g∈gs→A g.1)(hg:holds gs ρ=false){s:Sh}(hs:∀bZ s',s≠.opt bZ s')(d:D):Inv C (S.setR dst (.opt gs s)) (ρ.setR dst d) σ own hv w0 σ0 (fun u=>A u∨u=dst) (a.put (some dst) undef) w:=by
 have hh:holds gs (ρ.setR dst d)=false:=by rw[Eh (t:=dst) (d:=d) fun g hm e=>ht (by rw[←e];exact ez g hm)];exact hg
 refine h.setReg ht (s:=.opt gs s) (v:=undef) (d:=d) ⟨fun e=>absurd (hh.symm.trans e) (by decide),fun _=>rfl⟩ ar (fun bZ s' e=>?_);cases e;exact⟨ez,hs⟩
theorem Inv.mkObj (h:Inv C S ρ σ own hv w0 σ0 A a w)(ht:¬A dst)(ar:dst<a.tmps.size)(ob:Ob)(d:D)(v:Value)(nb:Nat→Bool){w':World}(hw:Below w.heap.size w w')(dZ:∀k,nb k=true→w.heap.size≤k∧k<w'.heap.size)
 (de:dX C (S.newO dst ob) (ρ.setO dst d) σ (gq own dst nb) (cE hv dst v) w' w0.heap.size dst ob) (pX:ob≠.tr:=by intro h;cases h):
 Good C w0 σ0 (Cx.mkObj S dst ob) ((ρ.setO dst d).setR dst .none) (fun u=>A u∨u=dst) (a.put (some dst) v) w':=by
 have h1:=h.newO dst ob d v nb hw dZ de pX;have h2:=h1.setObj ht (j:=dst) (v:=v) (be _ _ _) ar;have e:(S.newO dst ob).ver dst=S.ver dst+1:=be _ _ _;rw[e] at h2;exact⟨_,_,_,h2⟩
theorem Inv.mkPtr (h:Inv C S ρ σ own hv w0 σ0 A a w)(ht:¬A dst)(ar:dst<a.tmps.size)(ob:Ob)(d:D)(k:Nat)(nb:Nat→Bool){w':World}(hw:Below w.heap.size w w')(dZ:∀k,nb k=true→w.heap.size≤k∧k<w'.heap.size)
 (de:dX C (S.newO dst ob) (ρ.setO dst d) σ (gq own dst nb) (cE hv dst (.pointer (some ⟨k,0,none⟩))) w' w0.heap.size dst ob) (pX:ob≠.tr:=by intro h;cases h):
 Good C w0 σ0 (Cx.mkPtr S dst ob) ((ρ.setO dst d).setR dst .none) (fun u=>A u∨u=dst) (a.put (some dst) (.pointer (some ⟨k,0,none⟩))) w':=by
 have h1:=h.newO dst ob d _ nb hw dZ de pX;have e:(S.newO dst ob).ver dst=S.ver dst+1:=be _ _ _;have h2:=h1.setReg ht (s:=.ptr dst (S.ver dst+1) 0) (v:=.pointer (some ⟨k,0,none⟩)) (d:=.none) ⟨Nat.le_of_eq e.symm,fun _=>⟨k,be _ _ _,rfl⟩⟩ ar (fun _ _ e=>by cases e);exact⟨_,_,_,h2⟩
theorem GK {e:PE}{ρ':Env}(h:PI.runs Φ [.setO dst e,.setR dst (.con .none)] ρ=some ρ'):ρ'=(ρ.setO dst (e.ev ρ)).setR dst .none:=by
 simp[PI.runs,PI.run,PE.ev] at h;exact h.symm
theorem Zw (h:Inv C S ρ σ own hv w0 σ0 A a w){t:Ty}{v:Value}{d:D}(hr:Rep C.cap σ t v d)(ho:t.rowT=true∨t.one=true)(ag:Bool)(T:TypeId):
 dX C (S.newO dst (.box ag (t.flat.map .dat))) (ρ.setO dst (.agg d.cells)) σ (gq own dst (fun k=>Nat.beq k w.heap.size)) (cE hv dst (.pointer (some ⟨w.heap.size,0,none⟩))) (w.alloc (.cells v.cells T)) w0.heap.size dst (.box ag (t.flat.map .dat)):=by
 obtain⟨f1,f2,f3⟩:=hr.flat ho;refine⟨w.heap.size,v.cells,T,d.cells,be _ _ _,by simp[gq],heap_alloc_new w _,by rw[hr.size];simp[f1],by simp[Env.setO,be],by simp[f1,f2],fun i s hi=>?_⟩;simp only[dG,aR] at hi;obtain⟨ti,Ew,rfl⟩:=hi;exact⟨fun _ _ e=>(by cases e),(f3 i ti Ew).2⟩
theorem alO (h:Inv C S ρ σ own hv w0 σ0 A a w)(hC:CtxOK C σ0)(ht:¬A dst)(ar:dst<a.tmps.size){T:TypeId}{x:Operand}{r:St×List PI}(hr:Dx C S dst T x=some r){o:Oper}(hd:o.dst=some dst)(ho:o.op=.assign x):cC C w0 σ0 Φ S ρ A a w o r:=by
 unfold Dx at hr;split at hr
 case h_2=>cases hr
 rename_i e0 e1 E hu hT;simp only[aR] at hr;obtain⟨e,he,rfl⟩:=hr;have hx:=cG h hC rfl hu;have cS:a.eval x=.slice none 0 0:=by
  generalize a.eval x=v at hx;generalize e1.ev ρ=d at hx;cases hx;rfl
 refine cC.value hd fun ρ' ay=>⟨.slice none 0 0,w,by simp[execOp,ho,cS],?_⟩
 rw[GK ay];exact h.mkObj ht ar (.row E e) _ _ (fun _=>false) (.refl _ _) (by simp) ⟨[],[],by simp[Env.setO,be,PE.ev],by rw[be];exact World.ownsRow_nil _ _ _ _,⟨fun _=>undef,by simp,by simp⟩,by rw[be];simp[Value.ownBlock]⟩
theorem alp (h:Inv C S ρ σ own hv w0 σ0 A a w)(ht:¬A dst)(ar:dst<a.tmps.size){T:TypeId}{r:St×List PI}(hr:Dq C S dst T=some r){o:Oper}(hd:o.dst=some dst)(ho:o.op=.alloc T):cC C w0 σ0 Φ S ρ A a w o r:=by
 unfold Dq at hr;split at hr
 case h_2=>cases hr
 rename_i t inf ag Q7 hi ha;cases hc:(ua inf t&&(t.rowT||t.one))<;>simp only[hc,cond_true,cond_false] at hr
 ·cases hr
 simp only[az,lY] at hc;simp only[aR] at hr;obtain⟨z,hz,rfl⟩:=hr;obtain⟨v0,xp,Rj⟩:∃v0,inf.zero=some v0∧jL t v0=true:=by
  have:=hc.1;unfold ua at this;split at this
  ·exact⟨_,by assumption,this⟩
  ·cases this
 obtain⟨k1,k2,k3⟩:=yH (cap:=C.cap) (σ:=σ) hz Rj;have Er:z.1.rowT=true∨z.1.one=true:=by
  rcases hc.2 with e|e
  ·left;cases t<;>simp[Ty.rowT] at e;simp[oU] at hz;obtain⟨_,_,rfl⟩:=hz;rfl
  ·right;rw[k3];exact e
 refine cC.value hd fun ρ' ay=>⟨.pointer (some ⟨w.heap.size,0,none⟩),w.alloc (.cells v0.cells T),?_,?_⟩
 ·simp[execOp,ho,Instr.alloc,zeroValue,run_typeInfo w hi,xp,newVar,newRow]
 ·rw[GK ay];exact h.mkPtr ht ar _ _ _ (fun k=>Nat.beq k w.heap.size) ((Below.refl _ _).alloc (bK _) _) (fun k hk=>by simp at hk;simp;omega) (Zw h k1 Er ag T)
theorem alu (h:Inv C S ρ σ own hv w0 σ0 A a w)(hC:CtxOK C σ0)(ht:¬A dst)(ar:dst<a.tmps.size){T:TypeId}{x:Operand}{r:St×List PI}(hr:Ds C S dst T x=some r){o:Oper}(hd:o.dst=some dst)(ho:o.op=.box T x):cC C w0 σ0 Φ S ρ A a w o r:=by
 unfold Ds at hr;split at hr
 case h_2=>cases hr
 rename_i t e ag hu ha;cases hc:(t.rowT||t.one)<;>simp only[hc,cond_true,cond_false] at hr
 ·cases hr
 cases hr;simp only[lY] at hc;have hx:=cG h hC rfl hu;refine cC.value hd fun ρ' ay=>⟨.pointer (some ⟨w.heap.size,0,none⟩),w.alloc (.cells (a.eval x).cells T),?_,?_⟩
 ·simp[execOp,ho,Instr.box,newVar,newRow]
 ·rw[GK ay];have:(PE.mk [e]).ev ρ=.agg (e.ev ρ).cells:=by simp[PE.ev,PE.evc]
  rw[this];exact h.mkPtr ht ar _ _ _ (fun k=>Nat.beq k w.heap.size) ((Below.refl _ _).alloc (bK _) _) (fun k hk=>by simp at hk;simp;omega) (Zw h hx hc ag T)
theorem alI (h:Inv C S ρ σ own hv w0 σ0 A a w)(ht:¬A dst)(ar:dst<a.tmps.size){T:TypeId}{m:Option Operand}{r:St×List PI}(hr:Dv C S dst T m=some r){o:Oper}(hd:o.dst=some dst)(ho:o.op=.makeMap T m):cC C w0 σ0 Φ S ρ A a w o r:=by
 unfold Dv at hr;split at hr
 case h_2=>cases hr
 rename_i K E hT;simp only[aG,aR] at hr;obtain⟨kt,hk,et,he,rfl⟩:=hr;refine cC.value hd fun ρ' ay=>⟨.map (some w.heap.size),w.alloc (.map #[] 0),?_,?_⟩
 ·simp[execOp,ho,Instr.makeMap]
 ·rw[GK ay]
  exact h.mkObj ht ar (.mp kt et) _ _ (fun k=>Nat.beq k w.heap.size) ((Below.refl _ _).alloc (bK _) _) (fun k hk=>by simp at hk;simp;omega)
   ⟨w.heap.size,#[],0,[],be _ _ _,by simp[gq],heap_alloc_new w _,by simp[Env.setO,be,PE.ev],rfl,⟨by simp,by simp[mP]⟩,by simp⟩
theorem alQ (h:Inv C S ρ σ own hv w0 σ0 A a w)(ht:¬A dst)(ar:dst<a.tmps.size){T:TypeId}{x:Operand}{r:St×List PI}(hr:Dy C S dst T x=some r){o:Oper}(hd:o.dst=some dst)(ho:o.op=.range T x):cC C w0 σ0 Φ S ρ A a w o r:=by
 unfold Dy at hr;split at hr
 case h_2=>cases hr
 rename_i K E j ver hT es;obtain⟨eZ,_⟩:=yz h (gs:=[]) rfl x;rw[es] at eZ;cases hb:(Nat.beq ver (S.ver j)&& !Nat.beq j dst)<;>simp only[hb,cond_true,cond_false] at hr
 ·cases hr
 simp only[az,lu] at hb;have cS:=eZ.2 (aN hb.1);have aA:j≠dst:=fun e=>by subst e;simp at hb
 have bG:=h.objs j;split at hr
 case h_2=>cases hr
 rename_i kt et eo;cases hr;rw[eo] at bG;obtain⟨m,arr,clock,ds,h1,h2,h3,h4,h5,⟨h6,qQ⟩,h7⟩:=bG;have ni:=h.mv aA (by rw[eo];rfl);have pS:m<w.heap.size:=(gO.1 h3).1;have Qx:w0.heap.size≤m:=(h.owns m j h2).1;refine cC.value hd fun ρ' ay=>⟨.pointer (some ⟨w.heap.size,0,none⟩),w.alloc (.mapIter (some m) clock #[] clock),?_,?_⟩
 ·simp[execOp,ho,Instr.range,cS,h1,run_underlying hT,getObj,Sem.run,h3]
 have hρ:ρ'=((ρ.setO dst (.tup [.list [],.map ds])).setR dst .none):=by
  simp[PI.runs,PI.run,PE.ev,PE.evs,h4] at ay;exact ay.symm
 subst hρ;have eu:Below w.heap.size w (w.alloc (.mapIter (some m) clock #[] clock)):=(Below.refl _ _).alloc (bK _) _;have Q0:=ni.step (S':=(S.mv j dst).newO dst (.it kt et)) (ρ':=(ρ.setO dst (.tup [.list [],.map ds]))) (σ':=σ) (hv':=cE (cE hv dst (hv j)) dst (.pointer (some ⟨w.heap.size,0,none⟩)))
  (own':=fun k=>if k=w.heap.size then some dst else(if own k=some j then some dst else if own k=some dst then none else own k)) (a':=a) (A':=A) (w':=w.alloc (.mapIter (some m) clock #[] clock)) (fun i=>i=dst)
  rfl (.refl σ) (h.ok.below eu) (fun _ _ _ hx=>.inl hx) (fun _ _ hx=>.inl hx) (eu.mono h.below.size) ⟨fun i=>?_,fun i e=>?_⟩ (fun i hi=>⟨?_,?_,?_,fun k hk=>⟨?_,?_⟩⟩) (fun i hi=>?_) (fun k i hk=>?_) (fun _=>id) (fun t=>.inl ⟨rfl,rfl,rfl⟩) (fun _ _=>rfl) (fun k hk _=>eu.block k hk) (fun k i hk=>?_) (fun i hi=>by subst hi;simp[St.newO,be])
 ·have jn:=Q0.setObj ht (j:=dst) (v:=.pointer (some ⟨w.heap.size,0,none⟩)) (be _ _ _) ar;have e:((S.mv j dst).newO dst (.it kt et)).ver dst=(S.mv j dst).ver dst+1:=be _ _ _;rw[e] at jn;exact⟨_,_,_,jn⟩
 ·simp only[St.newO,gN];split<;>rename_i e
  ·subst e;omega
  ·omega
 ·simp only[St.newO,gN] at e;split at e
  ·rename_i e';subst e';omega
  ·rename_i QE;exact bR _ _ QE
 ·simp[St.newO,bR _ _ hi]
 ·simp[Env.setO,bR _ _ hi]
 ·exact bR _ _ hi
 ·have aFy:=(ni.owns k i hk).2.1;have bo:k≠w.heap.size:=by omega
  simp only[if_neg bo];exact hk
 ·exact eu.block k (ni.owns k i hk).2.1
 ·subst hi;simp only[St.newO,be];have cI:m≠w.heap.size:=by omega
  refine⟨w.heap.size,m,arr,clock,ds,[],be _ _ _,by simp,by simp[cI,h2],by omega,?_,heap_alloc_new w _,by simp[Env.setO,be,gL],List.nodup_nil,by simp,h5,qQ,h7⟩;rw[eu.block m pS];exact h3
 ·split at hk
  ·rename_i e;subst e;refine⟨h.below.size,by simp,fun o=>?_,?_⟩
   ·cases hc:σ.c w.heap.size o with
    |none=>rfl
    |some u=>have:=h.lt hc;omega
   ·cases hc:σ.m w.heap.size with
    |none=>rfl
    |some u=>have:=h.ltm hc;omega
  ·obtain⟨g1,g2,g3,g4⟩:=ni.owns k i hk;exact⟨g1,by simp;omega,g3,g4⟩
 ·split at hk
  ·rename_i e;subst e;exact .inr (bK _)
  ·exact .inl ⟨i,hk⟩
theorem aly (h:Inv C S ρ σ own hv w0 σ0 A a w)(hC:CtxOK C σ0)(ht:¬A dst)(ar:dst<a.tmps.size){T U:TypeId}{x:Operand}{r:St×List PI}(hr:Dt C S dst T U x=some r){o:Oper}(hd:o.dst=some dst)(ho:o.op=.convert T U x):cC C w0 σ0 Φ S ρ A a w o r:=by
 unfold Dt at hr;split at hr
 case h_2=>cases hr
 rename_i e E hu hT hU;split at hr
 case h_2=>cases hr
 rename_i hE;cases hr;have hx:=cG h hC rfl hu;obtain⟨s,bJ,bB,hs⟩:=hx.str_inv;have uP:=Lib.run_convert_string_bytes (P:=C.P) w T U E s hT hU hE;refine cC.value hd fun ρ' ay=>⟨.slice (some ⟨w.heap.size,0,none⟩) s.size (grownCap w s.size 0 E),Lib.bytesWorld w E s,by simp[execOp,ho,bJ,uP],?_⟩
 simp only[PI.runs,PI.run,aG] at ay;obtain⟨ρ1,g1,ρ2,g2,g3⟩:=ay;cases c1:((PE.ci BinOp.leq (.slen e) (.con (.int nw))).ev ρ).b<;>simp only[c1,cond_true,cond_false] at g1
 ·cases g1
 cases g1;cases g2;cases g3;have apm:s.size≤4294967296:=by
  simp[PE.ev,bB,D.s,D.i,D.b,iU,D.int,nw] at c1;omega
 have eu:Below w.heap.size w (Lib.bytesWorld w E s):=⟨rfl,rfl,rfl,by rw[Lib.bytesWorld_size];omega,fun k hk=>Lib.bytesWorld_at_old w E s k hk⟩
 have bp:(Lib.bytesWorld w E s).heap.size=w.heap.size+1:=Lib.bytesWorld_size w E s
 let σ':Im:={c:=fun k i=>if k=w.heap.size then(if i<s.size then some (.int .u8 (s.data.toList.getD i 0).toNat) else none) else σ.c k i,m:=σ.m}
 have hle:σ.le σ':=by
  refine⟨fun k o v hc=>?_,fun k es hc=>hc⟩;have:k≠w.heap.size:=by have:=h.lt hc;omega
  simp[σ',this,hc]
 have aB:σ'.ok (Lib.bytesWorld w E s):=by
  refine⟨fun k i v hc=>?_,(h.ok.below eu).m⟩;simp only[σ'] at hc;split at hc
  ·rename_i ek;subst ek;split at hc
   ·rename_i hi;cases hc;exact Lib.bytesWorld_cell w E s i hi
   ·cases hc
  ·exact(h.ok.below eu).c k i v hc
 have h1:=h.step (S':=S) (ρ':=ρ) (σ':=σ') (own':=own) (hv':=hv) (A':=A) (a':=a) (w':=Lib.bytesWorld w E s) (fun _=>False) rfl hle aB (fun k i v hc=>?_) (fun k es hc=>.inl hc) (eu.mono h.below.size) ⟨fun _=>bK _,fun _ _=>rfl⟩
  (fun j _=>⟨rfl,rfl,rfl,fun k hk=>⟨hk,eu.block k (h.owns k j hk).2.1⟩⟩) (fun j hj=>hj.elim) (fun k j hk=>?_) (fun _=>id) (fun t=>.inl ⟨rfl,rfl,rfl⟩) (fun _ _=>rfl) (fun k hk _=>eu.block k hk) (fun k i hk=>.inl ⟨i,hk⟩) (fun _ hf=>hf.elim)
 ·refine⟨_,_,_,h1.setReg ht (s:=.dat (.slice (.int .u8))) ?_ ar (fun _ _ e=>by cases e)⟩;show Rep C.cap σ' _ _ _;simp only[PE.ev,bB,D.s];refine .slice (.int .u8) w.heap.size 0 s.size _ _ (fun i=>.int .u8 (s.data.toList.getD i 0).toNat) (by simp) (grownCap_ge w s.size 0 E) (grownCap_le_maxLen w s.size 0 E (by unfold maxLen;omega)) (fun i x hx=>?_) (fun i j u hi hu=>?_)
  ·simp only[dG,aR] at hx;obtain⟨b,hb,rfl⟩:=hx;have:s.data.toList.getD i 0=b:=by simp[bh,hb]
   rw[this];have:=b.toNat_lt;exact .int .u8 _ (by show(0:Int)≤_;omega) (by show _≤(255:Int);omega)
  ·have hj:j=0:=by
        have:=(gO.1 hu).1;simp[Value.cells] at this;exact this
   subst hj;simp[Value.cells] at hu;subst hu;simp[σ',Ty.size,hi]
 ·simp only[σ'] at hc;split at hc
  ·rename_i ek;exact .inr ⟨by have:=h.below.size;omega,.inr (by omega)⟩
  ·exact .inl hc
 ·obtain⟨g1,g2,g3,g4⟩:=h.owns k j hk;refine⟨g1,by omega,fun i=>?_,g4⟩;have:k≠w.heap.size:=by omega
  simp[σ',this,g3 i]
end
end Cx
namespace Cx
open Go Go.RowKit
def JJ (C:Ctx)(S:St)(gs:List (Nat×Bool))(e:Ty)(z:D)(parts:List (Nat×Operand))(i:Nat):Option PE:=
 match parts.find? (fun p=>Nat.beq p.1 i) with
 |some p=>(use C S gs p.2).bind fun a=>bif Ty.sub a.1 e then some a.2 else Option.none
 |Option.none=>some (PE.con z)
def wH (C:Ctx)(S:St)(gs:List (Nat×Bool))(dst:Nat)(T:TypeId)(len:Nat)(parts:List (Nat×Operand)):lZ:=
 match C.P.underlying T with
 |some (.slice E)=>
  (oS C.P E).bind fun e=>(oU e).bind fun z=>
    bif qK C.P E e&&Ty.sub z.1 e&&mE (parts.map (·.1))&&parts.all (fun p=>Nat.blt p.1 len)&&Nat.ble (len*e.size) 16777216 then
     ((List.range len).mapM (JJ C S gs e z.2 parts)).map fun es=>(mkObj S dst (.row E e),[.setO dst (.lst es),.setR dst (.con .none)])
    else Option.none
 |_=>Option.none
def An (C:Ctx)(S:St)(gs:List (Nat×Bool))(dst:Nat)(T:TypeId)(len:Nat)(parts:List (Nat×Operand)):lZ:=
 match C.P.underlying T,wH C S gs dst T len parts with
 |some (.slice E),some r=>
  (oS C.P E).bind fun e=>
    match r.2 with
    |.setO _ x::_=>some ((S.newO dst .dead).setR dst (match gs with|[]=>.dat (.slice e.rol)|_=>.opt gs (.dat (.slice e.rol))),[.setR dst x])
    |_=>Option.none
 |_,_=>Option.none
def Dz (C:Ctx)(S:St)(T:TypeId)(x v:Operand):lZ:=
 match C.P.info? T with
 |some inf=>
  match kH S [] x with
  |.ptr j ver off=>
   bif Nat.beq ver (S.ver j) then
    match S.o j with
    |.box ag aO=>
     match use C S [] v with
     |some (t,e)=>
      bif Nat.beq inf.size t.size&&(t.rowT||t.one)&&Nat.ble (off+t.size) aO.length then
             some (S.setO j (.box ag (aO.take off++t.flat.map .dat++aO.drop (off+t.size))),[.setO j (.setc (.o j) off e)])
      else Option.none
     |Option.none=>
      match kH S [] v with
      |.obj j' rO=>
       bif Nat.beq rO (S.ver j')&&ns (S.o j')&&Nat.beq inf.size 1&&Nat.blt off aO.length then
              some (S.setO j (.box ag (aO.set off (.obj j' rO))),[.setO j (.setc (.o j) off (.con .none))])
       else Option.none
      |_=>Option.none
    |_=>Option.none
   else Option.none
  |.eptr j ver size off=>
   bif Nat.beq ver (S.ver j) then
    match S.o j,use C S [] v with
    |.row _ (.agg ts),some (t,e)=>
     bif Nat.beq inf.size t.size&&(t.rowT||t.one)&&Nat.beq size ts.length&&Nat.ble (off+t.size) ts.length&&Ty.subs t.flat ((ts.drop off).take t.size) then
         some (S,[.setO j (.setn (.o j) (vA x) off e)])
     else Option.none
    |.row _ e0,some (t,e)=>
     bif Nat.beq inf.size 1&&Nat.beq size 1&&Nat.beq off 0&&e0.one&&Ty.sub t e0 then some (S,[.setO j (.setn (.o j) (vA x) 0 e)]) else Option.none
    |_,_=>Option.none
   else Option.none
  |_=>Option.none
 |Option.none=>Option.none
def Ao (C:Ctx)(S:St)(T:TypeId)(m k v:Operand):lZ:=
 match C.P.underlying T,kH S [] m with
 |some (.map K _),.obj j ver=>
  bif Nat.beq ver (S.ver j) then
   match S.o j,use C S [] k,use C S [] v with
   |.mp kt et,some (tk,ek),some (tv,ev)=>
    bif Ty.beq tk kt&&uZ C.P K kt&&Ty.sub tv et then some (S,[.chk (.ci .lss (.mlen (.o j)) (.con (.int nw))),.setO j (.put (.o j) ek ev)]) else Option.none
   |_,_,_=>Option.none
  else Option.none
 |_,_=>Option.none
def KU (x y:PE):PE:=.ci .leq (.llen (.app x y)) (.con (.int nw))
def M9:Ty→Ty→Bool
 |.slice e',e=>Ty.beq e'.unf e
 |.nils _,_=>true
 |_,_=>false
def Dr (C:Ctx)(S:St)(dst:Nat)(T:TypeId)(s x:Operand):lZ:=
 match C.P.underlying T with
 |some (.slice E)=>
  (oS C.P E).bind fun e=>
    match view C S [] x with
    |some (tx,ex)=>
     bif qK C.P E e&&M9 tx e then
        match use C S [] s with
        |some (.nils _,_)=>some (mkObj S dst (.row E e),[.chk (KU (.con (.list [])) ex),.setO dst (.app (.con (.list [])) ex),.setR dst (.con .none)])
        |some _=>Option.none
        |Option.none=>
         match kH S [] s with
         |.obj j ver=>
          bif Nat.beq ver (S.ver j) then
             match S.o j with
             |.row E' e'=>
              bif Nat.beq E' E&&Ty.beq e' e then
                some ((S.newO j (.row E e)).setR dst (.obj j (S.ver j+1)),[.chk (KU (.o j) ex),.setO j (.app (.o j) ex),.setR dst (.con .none)])
              else Option.none
             |_=>Option.none
          else Option.none
         |_=>Option.none
     else Option.none
    |Option.none=>Option.none
 |_=>Option.none
theorem Px {P:Program}{T:TypeId}{e:Ty}(h:qK P T e=true):∃inf z,P.info? T=some inf∧inf.size=e.size∧inf.bytes≤xD∧1≤e.size∧inf.zero=some z∧jL e z=true:=by
 unfold qK at h;split at h
 ·rename_i i hi;simp only[az] at h;have h4:=h.2;unfold ua at h4;split at h4
  ·rename_i z hz;exact⟨i,z,hi,aN h.1.1.1,l7 h.1.1.2,l7 h.1.2,hz,h4⟩
  ·cases h4
 ·cases h
theorem Yt {e:Ty}{z:Value}(h:jL e z=true):z.cells.size=e.size:=by
 cases e with
 |agg ts=>
  cases z with
  |agg vs=>simp only[jL] at h;have:=(Yu ts vs.toList h).1;simpa [Value.cells,Ty.size] using this
  |_=>simp[jL] at h
 |_=>cases z<;>simp_all [jL,yG,Value.cells,Ty.size]
theorem akG {ρ:Env}{x y:PE}(h:((PE.ci .lss x y).ev ρ).b=true):(x.ev ρ).i<(y.ev ρ).i:=by
 simpa [PE.ev,D.b_bool,iU] using h
theorem ZH {ρ:Env}{x y:PE}(h:((PE.ci .leq x y).ev ρ).b=true):(x.ev ρ).i≤(y.ev ρ).i:=by
 simpa [PE.ev,D.b_bool,iU] using h
theorem ard {n:Nat}(h:(n:Int)<nw):n<4294967296:=by unfold nw at h;omega
theorem acO {n:Nat}(h:(n:Int)≤nw):n≤4294967296:=by unfold nw at h;omega
theorem St.setO_self {S:St}{j:Nat}{ob:Ob}(h:S.o j=ob):S.setO j ob=S:=by
 have:cE S.o j ob=S.o:=by
  funext i;rw[gN];split
  ·rename_i e;subst e;exact h.symm
  ·rfl
 cases S;simp only[St.setO] at this ⊢;rw[this]
section
variable {C:Ctx} {S:St} {ρ:Env} {σ:Im} {own:Nat→Option Nat} {hv:Nat→Value} {w0:World} {σ0:Base} {A:Nat→Prop} {a:Act} {w:World} {gs:List (Nat×Bool)} {Φ:aY} {dst:Nat}
theorem Inv.updO (h:Inv C S ρ σ own hv w0 σ0 A a w)(j:Nat)(ob:Ob)(d:D)(v:Value)(nb:Nat→Bool){w':World}(hw:Below w0.heap.size w w')
 (sJ:∀k,k<w.heap.size→own k≠some j→w'.heap[k]?=w.heap[k]?) (dZ:∀k,nb k=true→(own k=some j∨w.heap.size≤k)∧k<w'.heap.size)
 (de:dX C (S.newO j ob) (ρ.setO j d) σ (gq own j nb) (cE hv j v) w' w0.heap.size j ob) (pX:ob≠.tr:=by intro h;cases h):Inv C (S.newO j ob) (ρ.setO j d) σ (gq own j nb) (cE hv j v) w0 σ0 A a w':=by
 have bp:w0.heap.size≤w.heap.size:=h.below.size;have dz:∀k i,i≠j→own k=some i→gq own j nb k=some i:=by
  intro k i hi hk;have h1:=h.owns k i hk;have h2:nb k=false:=by
   cases hn:nb k with
   |false=>rfl
   |true=>
    rcases(dZ k hn).1 with e|e
    ·rw[hk] at e;simp at e;exact absurd e hi
    ·omega
  simp[gq,h2,hk,hi]
 have aB:σ.ok w':=by
  refine⟨fun k o u hc=>?_,fun k es hc=>?_⟩
  ·have aA:own k≠some j:=fun e=>by rw[(h.owns k j e).2.2.1 o] at hc;cases hc
   rw[World.cell?_of_block (sJ k (h.lt hc) aA)];exact h.ok.c k o u hc
  ·have aA:own k≠some j:=fun e=>by rw[(h.owns k j e).2.2.2] at hc;cases hc
   exact(h.ok.m k es hc).keep (sJ k (h.ltm hc) aA)
 refine h.step (fun i=>i=j) rfl (.refl σ) aB (fun _ _ _ hx=>.inl hx) (fun _ _ hx=>.inl hx) hw ⟨fun i=>?_,fun i e=>?_⟩ (fun i hi=>⟨?_,?_,?_,fun k hk=>⟨dz k i hi hk,?_⟩⟩) (fun i hi=>?_) (fun k i hk=>?_) (fun _=>id) (fun t=>.inl ⟨rfl,rfl,rfl⟩) (fun _ _=>rfl) (fun k hk e=>sJ k hk (by rw[e];simp)) (fun k i hk=>by
  unfold gq at hk;split at hk
  ·rename_i hn;rcases(dZ k hn).1 with e|e
   ·exact .inl ⟨j,e⟩
   ·exact .inr e
  ·split at hk
   ·cases hk
   ·exact .inl ⟨i,hk⟩) (fun i hi=>by subst hi;simpa only[St.newO,be] using pX)
 ·simp only[St.newO,gN];split<;>rename_i e
  ·subst e;omega
  ·omega
 ·simp only[St.newO,gN] at e;split at e
  ·rename_i e';subst e';omega
  ·rename_i aA;exact bR _ _ aA
 ·simp[St.newO,bR _ _ hi]
 ·simp[Env.setO,bR _ _ hi]
 ·exact bR _ _ hi
 ·exact sJ k (h.owns k i hk).2.1 (by rw[hk];simpa using hi)
 ·subst hi;simp only[St.newO,be];exact de
 ·unfold gq at hk;split at hk
  ·rename_i hn;obtain⟨g1,g2⟩:=dZ k hn;rcases g1 with e|e
   ·obtain⟨f1,f2,f3,f4⟩:=h.owns k j e;exact⟨f1,g2,f3,f4⟩
   ·refine⟨by omega,g2,fun o=>?_,?_⟩
    ·cases hc:σ.c k o with
     |none=>rfl
     |some u=>have:=h.lt hc;omega
    ·cases hc:σ.m k with
     |none=>rfl
     |some u=>have:=h.ltm hc;omega
  ·split at hk
   ·cases hk
   ·obtain⟨g1,g2,g3,g4⟩:=h.owns k i hk;exact⟨g1,by have:=hw.size;omega,g3,g4⟩
theorem Inv.updB (h:Inv C S ρ σ own hv w0 σ0 A a w)(j:Nat)(ob:Ob)(d:D){w':World}(hw:Below w0.heap.size w w')
 (sJ:∀k,k<w.heap.size→own k≠some j→w'.heap[k]?=w.heap[k]?)
 (de:dX C (S.setO j ob) (ρ.setO j d) σ own hv w' w0.heap.size j ob) (pX:ob≠.tr:=by intro h;cases h):Inv C (S.setO j ob) (ρ.setO j d) σ own hv w0 σ0 A a w':=by
 have aB:σ.ok w':=by
  refine⟨fun k o u hc=>?_,fun k es hc=>?_⟩
  ·have aA:own k≠some j:=fun e=>by rw[(h.owns k j e).2.2.1 o] at hc;cases hc
   rw[World.cell?_of_block (sJ k (h.lt hc) aA)];exact h.ok.c k o u hc
  ·have aA:own k≠some j:=fun e=>by rw[(h.owns k j e).2.2.2] at hc;cases hc
   exact(h.ok.m k es hc).keep (sJ k (h.ltm hc) aA)
 refine h.step (fun i=>i=j) rfl (.refl σ) aB (fun _ _ _ hx=>.inl hx) (fun _ _ hx=>.inl hx) hw (Compat.setO _ _ _ _) (fun i hi=>⟨by simp[St.setO,bR _ _ hi],by simp[Env.setO,bR _ _ hi],rfl,fun k hk=>⟨hk,sJ k (h.owns k i hk).2.1 (by rw[hk];simpa using hi)⟩⟩) (fun i hi=>?_) (fun k i hk=>?_) (fun _=>id) (fun t=>.inl ⟨rfl,rfl,rfl⟩) (fun _ _=>rfl) (fun k hk e=>sJ k hk (by rw[e];simp)) (fun k i hk=>.inl ⟨i,hk⟩) (fun i hi=>by subst hi;rw[St.setO_o];exact pX)
 ·subst hi;rw[St.setO_o];exact de
 ·obtain⟨g1,g2,g3,g4⟩:=h.owns k i hk;exact⟨g1,by have:=hw.size;omega,g3,g4⟩
theorem aar {B:Nat}{w w':World}{row:Option Nat}(hg:w.grownBy w' row)(hB:B≤w.heap.size)(hr:∀k,row=some k→B≤k):Below B w w':=(Below.refl B w).grown hg hB hr
theorem ac1 {z:Array Value}{n i q:Nat}(hz:0<z.size)(hi:i<n)(hq:q<z.size):(madeCells z (n*z.size))[i*z.size+q]?=z[q]?:=by
 have ar:i*z.size+q<n*z.size:=by
  have:(i+1)*z.size≤n*z.size:=pk _ hi;rw[ph] at this;omega
 have hm:(i*z.size+q)%z.size=q:=by rw[Nat.add_comm,ajp,Nat.mod_eq_of_lt hq]
 simp[madeCells,Array.getElem?_range,ar,hm,hq]
theorem alK (h:Inv C S ρ σ own hv w0 σ0 A a w)(hC:CtxOK C σ0)(ht:¬A dst)(ar:dst<a.tmps.size){T:TypeId}{l c:Operand}{r:St×List PI}(hr:Dw C S dst T l c=some r){o:Oper}(hd:o.dst=some dst)(ho:o.op=.makeSlice T l c):cC C w0 σ0 Φ S ρ A a w o r:=by
 unfold Dw at hr;split at hr
 case h_2=>cases hr
 rename_i E k1 n k2 m hT hl hc;simp only[aG] at hr;obtain⟨e,he,hr⟩:=hr;cases hf:qK C.P E e<;>simp only[hf,cond_true,cond_false] at hr
 ·cases hr
 obtain⟨inf,z0,hi,hs,hb,h1,hz,mA⟩:=Px hf;simp only[aG] at hr;obtain⟨z,hzt,hr⟩:=hr;cases cR:Ty.sub z.1 e<;>simp only[cR,cond_true,cond_false] at hr
 ·cases hr
 cases hr;obtain⟨n1,bJ,bB,b1,b2⟩:=(cG h hC rfl hl).int_inv;obtain⟨n2,iI,dy,b3,b4⟩:=(cG h hC rfl hc).int_inv;simp only at bB dy;have EH:=((yH (cap:=C.cap) (σ:=σ) hzt mA).1).sub cR;refine cC.value hd fun ρ' ay=>?_;simp only[PI.runs,PI.run,aG] at ay;obtain⟨ρ1,g1,ρ2,g2,ay⟩:=ay;cases c1:((Rq n).ev ρ).b<;>simp only[c1,cond_true,cond_false] at g1
 ·cases g1
 cases g1;cases c2:((PE.ci BinOp.eql n m).ev ρ).b<;>simp only[c2,cond_true,cond_false] at g2
 ·cases g2
 cases g2;have apA:n1=n2:=by simpa [PE.ev,bB,dy,D.i_int,D.b_bool,iU] using c2
 subst apA;have hb:0≤n1∧n1≤nw:=by simpa [Rq,PE.ev,bB,D.i_int,D.b_bool,iU,D.int] using c1
 obtain⟨nn,rfl⟩:=qy hb.1;have pV:nn≤4294967296:=by have:=hb.2;unfold nw at this;omega
 have sZ:z0.cells.size=e.size:=Yt mA;obtain⟨w',r1,r2,r3⟩:=run_make_full (P:=C.P) w w0.heap.size T E inf z0 e.size hT hi hz hs k1 k2 nn (by
  have:inf.bytes*nn≤xD*4294967296:=Nat.mul_le_mul (by assumption) pV;unfold xD at this;omega) (by unfold maxLen;omega) h.below.size
 refine⟨.slice (some ⟨w.heap.size,0,none⟩) nn nn,w',by simp[execOp,ho,bJ,iI,r1],?_⟩;obtain⟨ρ3,g3,ρ4,g4,g5⟩:=ay;cases g3;cases g4;cases g5;simp only[PE.ev,bB,D.i_int,vV];have hlen:(List.replicate nn z.2).length=nn:=by simp
 refine h.mkObj ht ar (.row E e) _ _ (fun k=>Nat.beq k w.heap.size) (aar r3 (bK _) (by simp)) (fun k hk=>?_) ⟨_,List.replicate nn z.2,by simp[Env.setO,be],by rw[be,hlen];exact r2,⟨fun _=>z0,fun i x hx=>?_,fun i j u hi hj=>?_⟩,fun k hk=>?_⟩
 ·have bo:k=w.heap.size:=aN hk;have:=(r2.lt _ rfl).2;subst bo;exact⟨bK _,this⟩
 ·have:=(jh.1 hx)
  obtain⟨q1,q2⟩:=this;simp at q2;subst q2;exact EH
 ·rw[hlen] at hi;have br:j<z0.cells.size:=(gO.1 hj).1;rw[Cg,←sZ];rw[ac1 (by omega) hi br];exact hj
 ·rw[be] at hk;simp[Value.ownBlock] at hk;simp[gq,hk]
theorem mP.push {arr:Array MapEntry}{clock:Nat}(h:mP arr clock)(k v:Value):mP (arr.push {key:=k,val:=v,born:=clock}) (clock+1):=by
 have key:∀(i:Nat) (e:MapEntry),(arr.push {key:=k,val:=v,born:=clock})[i]?=some e→(arr[i]?=some e∧e.born<clock)∨(i=arr.size∧e.born=clock):=by
  intro i e he;rw[Array.getElem?_push] at he;split at he
  ·rename_i hi;cases he;exact .inr ⟨hi,rfl⟩
  ·exact .inl ⟨he,h.1 i e he⟩
 refine⟨fun i e he=>?_,fun i j e f he hf hb=>?_⟩
 ·rcases key i e he with⟨_,h1⟩|⟨_,h1⟩<;>omega
 ·rcases key i e he with⟨h1,h2⟩|⟨h1,h2⟩<;>rcases key j f hf with⟨h3,h4⟩|⟨h3,h4⟩
  ·exact h.2 i j e f h1 h3 hb
  ·omega
  ·omega
  ·omega
theorem mP.modify {arr:Array MapEntry}{clock:Nat}(h:mP arr clock)(i0:Nat)(k v:Value):mP (arr.modify i0 fun e=>{e with key:=k,val:=v}) clock:=by
 have key:∀(i:Nat) (e:MapEntry),(arr.modify i0 fun e=>{e with key:=k,val:=v})[i]?=some e→∃e',arr[i]?=some e'∧e'.born=e.born:=by
  intro i e he;rw[Array.getElem?_modify] at he;split at he
  ·simp only[aR] at he;obtain⟨e',h1,rfl⟩:=he;exact⟨e',h1,rfl⟩
  ·exact⟨e,he,rfl⟩
 refine⟨fun i e he=>?_,fun i j e f he hf hb=>?_⟩
 ·obtain⟨e',h1,h2⟩:=key i e he;rw[←h2];exact h.1 i e' h1
 ·obtain⟨e',h1,h2⟩:=key i e he;obtain⟨f',h3,h4⟩:=key j f hf;exact h.2 i j e' f' h1 h3 (by rw[h2,h4,hb])
theorem Z3 (h:Inv C S ρ σ own hv w0 σ0 A a w)(hC:CtxOK C σ0){T:TypeId}{m k v:Operand}{r:St×List PI}(hr:Ao C S T m k v=some r){o:Oper}(hd:o.dst=none)(ho:o.op=.mapUpdate T m k v∨o.op=.insert T m k v):cC C w0 σ0 Φ S ρ A a w o r:=by
 unfold Ao at hr;split at hr
 case h_2=>cases hr
 rename_i K E j ver hT es;obtain⟨eZ,_⟩:=yz h (gs:=[]) rfl m;rw[es] at eZ;cases hb:Nat.beq ver (S.ver j)<;>simp only[hb,cond_true,cond_false] at hr
 ·cases hr
 have cS:=eZ.2 (aN hb);have bG:=h.objs j;split at hr
 case h_2=>cases hr
 rename_i kt et tk ek tv ev eo hk xq;rw[eo] at bG;cases hc:(Ty.beq tk kt&&uZ C.P K kt&&Ty.sub tv et)<;>simp only[hc,cond_true,cond_false] at hr
 ·cases hr
 cases hr;simp only[az] at hc;obtain⟨⟨Ko,Eb⟩,cR⟩:=hc;obtain⟨g,arr,clock,ds,h1,h2,h3,h4,h5,⟨h6,qQ⟩,h7⟩:=bG;have bo:=cG h hC rfl hk;rw[Ty.beq_eq _ _ Ko] at bo;have hv':=(cG h hC rfl xq).sub cR;refine cC.skip hd fun ρ' ay=>?_;simp only[PI.runs,PI.run,aG] at ay;obtain⟨ρ1,g1,ρ2,g2,g3⟩:=ay;cases c1:((PE.ci BinOp.lss (.mlen (.o j)) (.con (.int nw))).ev ρ).b<;>simp only[c1,cond_true,cond_false] at g1
 ·cases g1
 cases g1;cases g2;cases g3;have apm:ds.length<4294967296:=by
  have h8:=akG c1;simp only[PE.ev,h4,D.m,D.i_int,D.int] at h8;exact ard h8
 have gU:(Instr.checkKey false 10000 K (a.eval k)).run C.P w=.ok () w:=ZF (cap:=C.cap) (σ:=σ) Eb bo;have nk:∃uj Ah cH,(Instr.mapUpdate T (a.eval m) (a.eval k) (a.eval v)).run C.P w=.ok () {w with heap:=w.heap.setIfInBounds g (.map uj Ah)}∧ld (ek.ev ρ) (ev.ev ρ) ds=cH∧cH.length=uj.size∧(cH.length≤maxLen∧mP uj Ah)∧
  ∀(i:Nat) (e:MapEntry) (p:D×D),uj[i]?=some e→cH[i]?=some p→Rep C.cap σ kt e.key p.1∧Rep C.cap σ et e.val p.2:=by
  rcases run_findKey Eb bo arr ds h5 h7 w with⟨f1,f2,f3⟩|⟨i,e,p,f1,f2,f3,f4,f5,f6⟩
  ·refine⟨arr.push {key:=a.eval k,val:=a.eval v,born:=clock},clock+1,ds++[(ek.ev ρ,ev.ev ρ)],?_,f3 _,by simp[h5],⟨by simp;unfold maxLen;omega,qQ.push _ _⟩,fun q e p he hp=>?_⟩
   ·rw[cS,h1];simp[Instr.mapUpdate,run_underlying hT,getObj,Sem.run,h3,gU,f1,setObj]
   ·rw[Array.getElem?_push] at he;rw[mR] at hp;by_cases hq:q=arr.size
    ·subst hq;simp at he;rw[if_neg (by omega)] at hp;simp[h5] at hp;subst he;subst hp;exact⟨bo,hv'⟩
    ·rw[if_neg hq] at he;have KC:q<arr.size:=(gO.1 he).1;rw[if_pos (by omega)] at hp;exact h7 q e p he hp
  ·refine⟨arr.modify i fun e=>{e with key:=a.eval k,val:=a.eval v},clock,ds.set i (ek.ev ρ,ev.ev ρ),?_,f5 _,by simp[h5],⟨by simp;exact h6,qQ.modify _ _ _⟩,fun q e' p' he hp=>?_⟩
   ·rw[cS,h1];have dt:(Instr.keyThatStays e.key (a.eval k)).run C.P w=.ok (a.eval k) w:=by simp[Instr.keyThatStays,f6]
    simp[Instr.mapUpdate,run_underlying hT,getObj,Sem.run,h3,gU,f3,f1,dt,setObj]
   ·rw[Array.getElem?_modify] at he;rw[Cq] at hp;by_cases hq:i=q
    ·subst hq;simp only[if_true] at he hp;rw[f1] at he;simp at he;split at hp
     ·cases hp;subst he;exact⟨bo,hv'⟩
     ·cases hp
    ·rw[if_neg hq] at he hp;exact h7 q e' p' he hp
 obtain⟨uj,Ah,cH,r1,r2,r3,r4,r5⟩:=nk;refine⟨{w with heap:=w.heap.setIfInBounds g (.map uj Ah)},by rcases ho with ho|ho<;>simp[execOp,ho,r1],?_⟩;have hgl:g<w.heap.size:=(gO.1 h3).1;have hgB:w0.heap.size≤g:=(h.owns g j h2).1;have cf:(PE.put (.o j) ek ev).ev ρ=.map cH:=by simp only[PE.ev,h4,D.m,r2]
 rw[cf]
 have:=h.updB j (.mp kt et) (.map cH) (w':={w with heap:=w.heap.setIfInBounds g (.map uj Ah)}) ⟨rfl,rfl,rfl,by simp,fun k hk=>by simp;rw[Yx (by omega)]⟩
  (fun k hk aA=>by simp;rw[Yx (fun e=>aA (by rw[←e];exact h2))])
  ⟨g,uj,Ah,cH,h1,h2,by simp[hgl],by simp[Env.setO,be],r3,r4,r5⟩
 have eS:S.setO j (.mp kt et)=S:=St.setO_self eo;rw[eS] at this;exact⟨_,_,_,this⟩
end
end Cx
namespace Cx
open Go Go.RowKit
theorem aAA {e:Ty}{z:Value}(h:jL e z=true):e.rowT=true∨e.one=true:=by
 cases e<;>first|exact .inl rfl|exact .inr rfl|(cases z<;>simp[jL,yG] at h)
theorem Rep.cellsOne {cap:Nat→Option CSig}{σ:Im}{t:Ty}{v:Value}{d:D}(h:Rep cap σ t v d)(ht:t.rowT=true∨t.one=true){m:Nat}{u:Value}(hu:v.cells[m]?=some u):u.oneCell'=true:=by
 obtain⟨f1,f2,f3⟩:=h.flat ht;have ar:m<v.cells.size:=(gO.1 hu).1;rw[h.size] at ar;obtain⟨g1,g2⟩:=f3 m _ (cl (by omega:m<t.flat.length));have:=(g2.oneCell g1).2;rw[hZ,hu] at this;exact this
theorem al5 {cap:Nat→Option CSig}{σ:Im}{e:Ty}{cells:List Value}{xs:List D}(h:jM cap σ e cells xs)(hl:cells.length=xs.length*e.size)(iz:e.rowT=true∨e.one=true):∀u∈cells,u.oneCell'=true:=by
 obtain⟨vs,h1,h2⟩:=h;intro u hu;obtain⟨p,hp,rfl⟩:=gP hu;rw[hl] at hp;have hs:0<e.size:=Nat.pos_of_ne_zero fun e0=>by rw[e0] at hp;simp at hp
 have hi:p/e.size<xs.length:=(Nat.div_lt_iff_lt_mul hs).2 hp;have hq:p%e.size<e.size:=Nat.mod_lt _ hs;have cK:=h1 _ _ (cl hi);have bp:=cK.size;have pK:(vs (p/e.size)).cells[p%e.size]?=some (vs (p/e.size)).cells[p%e.size]:=j9 (by omega);have:=h2 _ _ _ hi pK;rw[Nat.mul_comm,Nat.div_add_mod] at this;have h3:cells[p]=(vs (p/e.size)).cells[p%e.size]:=by
  have h4:=cl (show p<cells.length by omega);rw[h4] at this;exact Cu this
 rw[h3];exact cK.cellsOne iz pK
theorem al4 {cap:Nat→Option CSig}{σ:Im}{e:Ty}{c1 c2:List Value}{xs ys:List D}(h:jM cap σ e c1 xs)(k:jM cap σ e c2 ys)(hl:c1.length=xs.length*e.size):jM cap σ e (c1++c2) (xs++ys):=by
 obtain⟨vs,h1,h2⟩:=h;obtain⟨us,k1,k2⟩:=k;refine⟨fun i=>if i<xs.length then vs i else us (i-xs.length),fun i x hx=>?_,fun i j u hi hj=>?_⟩
 ·rw[mR] at hx;split at hx
  ·rename_i ar;simp only[ar,if_true];exact h1 i x hx
  ·rename_i ar;simp only[ar,if_false];exact k1 _ x hx
 ·by_cases ar:i<xs.length
  ·simp only[ar,if_true] at hj;have:=h2 i j u ar hj;rw[nT (jh.1 this).1];exact this
  ·simp only[ar,if_false] at hj;have eN:i-xs.length<ys.length:=by simp at hi;omega
   have:=k2 _ j u eN hj;have e1:i*e.size=c1.length+(i-xs.length)*e.size:=by rw[hl,←ph];congr 1;omega
   rw[oZ (by omega)];rw[show i*e.size+j-c1.length=(i-xs.length)*e.size+j by omega];exact this
section
variable {C:Ctx} {S:St} {ρ:Env} {σ:Im} {own:Nat→Option Nat} {hv:Nat→Value} {w0:World} {σ0:Base} {A:Nat→Prop} {a:Act} {w:World} {gs:List (Nat×Bool)} {Φ:aY} {dst:Nat}
theorem aAf (h:Inv C S ρ σ own hv w0 σ0 A a w){B:Nat}{e f:Ty}{v:Value}{d:D}(hs:0<e.size)(iz:e.rowT=true∨e.one=true)(hf:f.unf=e)(Ra:Oa C σ w B (.slice f) v d):
 ∃ys,d=.list ys∧ys.length≤maxLen∧((v=.slice none 0 0∧ys=[])∨∃(ad:Addr) (c:Nat) (news:List Value),v=.slice (some ad) ys.length c∧news.length=ys.length*e.size∧
  (∀j u,news[j]?=some u→w.cell? (ad.add j)=some u)∧jM C.cap σ e news ys):=by
 rcases Ra with hr|⟨T,e',cells,xs,ht,hd,dz,jo⟩|⟨k,arr,clock,es,kt,et,ht,_⟩
 ·obtain⟨xs,hd,AF⟩:=hr.slice_inv;rw[←f.unf_size,hf] at AF;rcases AF with⟨⟨p0,bJ⟩,rfl⟩|⟨k,o,c,bJ,h1,h2,vs,h3,h4⟩
  ·cases p0 with
   |none=>exact⟨[],hd,by simp,.inl ⟨bJ,rfl⟩⟩
   |some a0=>exact⟨[],hd,by simp,.inr ⟨a0,0,[],bJ,by simp,fun j u hu=>by simp at hu,fun _=>undef,fun i x hx=>by simp at hx,fun i j u hi=>by simp at hi⟩⟩
  ·refine⟨xs,hd,by omega,.inr ⟨⟨k,o,none⟩,c,(List.range (xs.length*e.size)).map fun p=>(vs (p/e.size)).cells.getD (p%e.size) undef,bJ,by simp,fun j u hu=>?_,vs,h3,fun i j u hi hj=>?_⟩⟩
   ·simp only[dG,aR] at hu;obtain⟨p,hp,rfl⟩:=hu;have jW:j<xs.length*e.size:=by have:=(jh.1 hp).1;simpa using this
    rw[qz jW] at hp;cases hp;have hi:j/e.size<xs.length:=(Nat.div_lt_iff_lt_mul hs).2 jW;have hq:j%e.size<e.size:=Nat.mod_lt _ hs;have cK:=h3 _ _ (cl hi);have bp:=cK.size;have pK:(vs (j/e.size)).cells[j%e.size]?=some ((vs (j/e.size)).cells.getD (j%e.size) undef):=by
     rw[hZ,j9 (by omega)];rfl
    have:=h.cell (h4 _ _ _ hi pK);rw[ui]
    rwa [show o+j/e.size*e.size+j%e.size=o+j by rw[He,Nat.mul_comm,Nat.div_add_mod]] at this
   ·have cK:=h3 _ _ (cl hi);have br:j<e.size:=by rw[←cK.size];exact(gO.1 hj).1
    have ar:i*e.size+j<xs.length*e.size:=by
     have:(i+1)*e.size≤xs.length*e.size:=pk _ hi;rw[ph] at this;omega
    have e1:(i*e.size+j)/e.size=i:=by rw[Nat.mul_comm,Nat.mul_add_div hs,Nat.div_eq_of_lt br];omega
    have e2:(i*e.size+j)%e.size=j:=by rw[Nat.add_comm,ajp,Nat.mod_eq_of_lt br]
    simp only[dG,qz ar,ly,e1,e2];rw[hZ,hj];rfl
 ·cases ht;rw[Ty.unf_rol] at hf;obtain⟨b,c,bJ,hm,_⟩:=xR dz;have jo:jM C.cap σ e cells xs:=by
   obtain⟨us,u1,u2⟩:=jo;refine⟨us,fun i x hx=>hf▸(u1 i x hx).unf,fun i j u hi hu=>?_⟩;rw[←hf,Ty.unf_size];exact u2 i j u hi hu
  have dz:w.ownsRow B T e.size v xs.length cells:=by rw[←hf,Ty.unf_size];exact dz
  rcases dz.2 with⟨e1,e2⟩|⟨g,cap,cur,e1,e2⟩
  ·have:xs=[]:=YJ e2;subst this;exact⟨[],hd,by simp,.inl ⟨e1,rfl⟩⟩
  ·exact⟨xs,hd,hm,.inr ⟨⟨g,0,none⟩,cap,cells,e1,dz.1,dz.cells (by rw[e1];rfl),jo⟩⟩
 ·cases ht
theorem av2 {P:Program}{B:Nat}{T E ty:TypeId}{inf:TypeInfo}{z:Value}{size:Nat}{v x:Value}{n m:Nat}{xs news:List Value}(hT:P.underlying T=some (.slice E))(hi:P.info? E=some inf)(hz:inf.zero=some z)
 (hs:inf.size=size) (sZ:z.cells.size=size) (bp:0<size) (kP:inf.bytes≤xD) (dz:w.ownsRow B E size v n xs) (hB:B≤w.heap.size) (ed:n+m≤4294967296)
 (hx:(x=.slice none 0 0∧m=0∧news=[])∨∃(ad:Addr) (c:Nat),x=.slice (some ad) m c∧news.length=m*size∧(∀j u,news[j]?=some u→w.cell? (ad.add j)=some u)∧∀u∈news,u.oneCell'=true):
 ∃v' w',(Builtin.append_ #[T,T] ty #[v,x]).run P w=.ok v' w'∧w'.ownsRow B E size v' (n+m) (xs++news)∧w.grownBy w' v.ownBlock∧∀k,v'.ownBlock=some k→v.ownBlock=some k∨(w.heap.size≤k∧k<w'.heap.size):=by
 rcases hx with⟨rfl,rfl,rfl⟩|⟨ad,c,rfl,hl,Kw,h1⟩
 ·refine⟨v,w,run_append_owned_none w B T ty E inf size hT hi v n xs dz,by simpa using dz,⟨rfl,rfl,rfl,bK _,fun _ _ _=>rfl⟩,fun k hk=>.inl hk⟩
 ·have Qb:(n+m)*inf.bytes≤140737488355328:=by
   have:(n+m)*inf.bytes≤4294967296*xD:=Nat.mul_le_mul ed kP;unfold xD at this;omega
  obtain⟨v',w',r1,r2,r3,r4⟩:=run_append_own (P:=P) w B T ty E inf z size inf.bytes hT hi hz hs rfl sZ bp v n xs dz ad m c news hl Kw h1 (by unfold maxLen;omega) Qb hB;refine⟨v',w',r1,r2,r3,fun k hk=>?_⟩;have ar:=(r2.lt k hk).2;subst hs;rcases dz.2 with⟨rfl,rfl⟩|⟨g,cap,cur,rfl,hbg,hg,gm,lF,jV,Ev⟩
  ·by_cases hm:m=0
   ·subst hm;have:=r4.2 ⟨rfl,rfl⟩;subst this;simp[Value.ownBlock] at hk
   ·have hr:=run_append_nil (P:=P) w T ty E inf z hT hi hz ad m c news hl Kw (by omega) (by omega) (by have hb:=Qb;simp only[mU] at hb;omega);rw[hr] at r1;cases r1;simp[Value.ownBlock] at hk;subst hk;exact .inr ⟨bK _,ar⟩
  ·by_cases ab5:n+m≤cap
   ·have aoS:n*inf.size+news.length≤cur.size:=by rw[hl,jV,←ph];exact pk _ ab5
    have hr:=run_append_room (P:=P) w T ty E inf hT hi g n cap cur hg ad m c news hl Kw h1 ab5 aoS;rw[hr] at r1;cases r1;exact .inl hk
   ·have hr:=run_append_grow (P:=P) w T ty E inf z hT hi hz ⟨g,0,none⟩ n cap xs dz.1 (dz.cells (g:=g) rfl) ad m c news hl Kw (by omega) (by omega) (growslice_fits (by omega) Qb);rw[hr] at r1;cases r1;simp[Value.ownBlock] at hk;subst hk;exact .inr ⟨bK _,ar⟩
theorem alr (h:Inv C S ρ σ own hv w0 σ0 A a w)(hC:CtxOK C σ0)(ht:¬A dst)(ar:dst<a.tmps.size){T:TypeId}{s x:Operand}{r:St×List PI}(hr:Dr C S dst T s x=some r){o:Oper}(hd:o.dst=some dst)
 (ho:o.op=.call {callee:=.builtin .append,args:=#[s,x],argTypes:=#[T,T]}):cC C w0 σ0 Φ S ρ A a w o r:=by
 unfold Dr at hr;split at hr
 case h_2=>cases hr
 rename_i E hT;simp only[aG] at hr;obtain⟨e,he,hr⟩:=hr;split at hr
 case h_2=>cases hr
 rename_i tx ex Ra;have hv':=Yo h hC (gs:=[]) rfl Ra;obtain⟨cs,ay⟩:=UY (C:=C) (w:=w) (a:=a) ho;cases hc:(qK C.P E e&&M9 tx e)<;>simp only[hc,cond_true,cond_false] at hr
 ·cases hr
 simp only[az] at hc;obtain⟨inf,z,hi,hs,kP,h1,hz,mA⟩:=Px hc.1;have sZ:=Yt mA;have iz:=aAA mA;have Rb:∃f:Ty,f.unf=e∧Oa C σ w w0.heap.size (.slice f) (a.eval x) (ex.ev ρ):=by
  have dt:=hc.2;unfold M9 at dt;split at dt
  ·exact⟨_,Ty.beq_eq _ _ dt,hv'⟩
  ·refine⟨e,Ty.unf_ro iz,?_⟩;rcases hv' with hr|⟨_,_,_,_,ht,_⟩|⟨_,_,_,_,_,_,ht,_⟩
   ·exact .inl (hr.sub (by simp[Ty.sub]))
   ·cases ht
   ·cases ht
  ·cases dt
 obtain⟨fv,hvf,Rb⟩:=Rb;obtain⟨ys,Kf,np,aqn⟩:=aAf h h1 iz hvf Rb;have hx:∃news,jM C.cap σ e news ys∧news.length=ys.length*e.size∧((a.eval x=.slice none 0 0∧ys.length=0∧news=[])∨∃(ad:Addr) (c:Nat),a.eval x=.slice (some ad) ys.length c∧news.length=ys.length*e.size∧(∀j u,news[j]?=some u→w.cell? (ad.add j)=some u)∧∀u∈news,u.oneCell'=true):=by
  rcases aqn with⟨e1,rfl⟩|⟨ad,c,news,e1,e2,e3,e4⟩
  ·exact⟨[],⟨fun _=>undef,by simp,by simp⟩,by simp,.inl ⟨e1,rfl,rfl⟩⟩
  ·exact⟨news,e4,e2,.inr ⟨ad,c,e1,e2,e3,al5 e4 e2 iz⟩⟩
 obtain⟨news,aA,QF,hx⟩:=hx;have main:∀(j:Nat) (v:Value) (xs:List D) (cells:List Value),a.eval s=v→w.ownsRow w0.heap.size E e.size v xs.length cells→jM C.cap σ e cells xs→xs.length+ys.length≤4294967296→
  (∀k,v.ownBlock=some k→own k=some j)→
  ∃v' w',(execOp a.eval o).run C.P w=.ok (.value v') w'∧Good C w0 σ0 ((S.newO j (.row E e)).setR dst (.obj j (S.ver j+1))) ((ρ.setO j (.list (xs++ys))).setR dst .none) (fun u=>A u∨u=dst) (a.put (some dst) v') w':=by
  intro j v xs cells Q3 dz jo hlen de;obtain⟨v',w',r1,r2,r3,r4⟩:=av2 (P:=C.P) (ty:=o.type) hT hi hz hs sZ h1 kP dz h.below.size hlen hx;refine⟨v',w',by rw[ay];simp[builtin,Q3,r1],?_⟩
  have aqC:=h.updO j (.row E e) (.list (xs++ys)) v' (fun k=>decide (v'.ownBlock=some k)) (w':=w') (aar r3 h.below.size (fun k hk=>(h.owns k j (de k hk)).1)) (fun k hk aA=>r3.block k hk (fun e=>aA (de k e.symm))) (fun k hk=>by
        have bo:v'.ownBlock=some k:=by simpa using hk
        rcases r4 k bo with e|e
        ·exact⟨.inl (de k e),(r2.lt k bo).2⟩
        ·exact⟨.inr e.1,e.2⟩)
   ⟨cells++news,xs++ys,by simp[Env.setO,be],by rw[be,l6];exact r2,al4 jo aA dz.1,fun k hk=>by rw[be] at hk;simp[gq,hk]⟩
  have h2:=aqC.setObj ht (j:=j) (v:=v') (be _ _ _) ar;have e:(S.newO j (.row E e)).ver j=S.ver j+1:=be _ _ _;rw[e] at h2;exact⟨_,_,_,h2⟩
 split at hr
 ·rename_i e0 pe0 hu;cases hr;refine cC.value hd fun ρ' q7=>?_;have Q4:=cG h hC rfl hu;have Q3:a.eval s=.slice none 0 0:=by
   generalize a.eval s=v at Q4;generalize pe0.ev ρ=d at Q4;cases Q4;rfl
  simp only[PI.runs,PI.run,aG] at q7;obtain⟨ρ1,g1,ρ2,g2,ρ3,g3,g4⟩:=q7;cases c1:((KU (.con (.list [])) ex).ev ρ).b<;>simp only[c1,cond_true,cond_false] at g1
  ·cases g1
  cases g1;cases g2;cases g3;cases g4;have hlen:=ZH c1;simp only[PE.ev,D.l_list,Kf,rZ,D.i_int,D.int] at hlen;have:=main dst (.slice none 0 0) [] [] Q3 (World.ownsRow_nil _ _ _ _) ⟨fun _=>undef,by simp,by simp⟩ (by simpa using acO hlen) (by simp[Value.ownBlock]);simpa [PE.ev,D.l_list,Kf,mkObj] using this
 ·cases hr
 ·obtain⟨eZ,_⟩:=yz h (gs:=[]) rfl s;split at hr
  case h_2=>cases hr
  rename_i j ver es;rw[es] at eZ;cases hb:Nat.beq ver (S.ver j)<;>simp only[hb,cond_true,cond_false] at hr
  ·cases hr
  have cS:=eZ.2 (aN hb);have bG:=h.objs j;split at hr
  case h_2=>cases hr
  rename_i E' e' eo;rw[eo] at bG;cases mu:(Nat.beq E' E&&Ty.beq e' e)<;>simp only[mu,cond_true,cond_false] at hr
  ·cases hr
  cases hr;simp only[az] at mu;have e1:=aN mu.1;have e2:=Ty.beq_eq _ _ mu.2;subst e1;subst e2;obtain⟨cells,xs,k1,k2,k3,k4⟩:=bG;refine cC.value hd fun ρ' q7=>?_;simp only[PI.runs,PI.run,aG] at q7;obtain⟨ρ1,g1,ρ2,g2,ρ3,g3,g4⟩:=q7;cases c1:((KU (.o j) ex).ev ρ).b<;>simp only[c1,cond_true,cond_false] at g1
  ·cases g1
  cases g1;cases g2;cases g3;cases g4;have hlen:=ZH c1;simp only[PE.ev,D.l_list,Kf,k1,D.i_int,D.int] at hlen;have:=main j (hv j) xs cells cS k2 k3 (by have:=acO hlen;simpa using this) k4;simpa [PE.ev,D.l_list,Kf,k1] using this
end
end Cx
namespace Cx
open Go Go.RowKit
theorem M0 {P:Program}{a:Act}{w:World}{o:Oper}{T:TypeId}{x v:Operand}{inf:TypeInfo}{k off:Nat}{cs:Array Value}{E:TypeId}(ho:o.op=.store T x v)(hi:P.info? T=some inf)(hx:a.eval x=.pointer (some ⟨k,off,none⟩))
 (hs:(a.eval v).cells.size=inf.size) (dJ:∀u∈(a.eval v).cells.toList,u.oneCell'=true) (hb:w.heap[k]?=some (.cells cs E (0,0))) (hle:off+inf.size≤cs.size):
 (execOp a.eval o).run P w=.ok .skip (w.setRow k (cs.toList.take off++(a.eval v).cells.toList++cs.toList.drop (off+inf.size)).toArray):=by
 have:=run_storeCells_at P k off E (a.eval v).cells.toList 0 cs w hb (by simp[hs];exact hle) dJ;simp only[sd,Ch,hs] at this;simp[execOp,ho,Instr.storeAt,hx,Instr.sureAddr,storeVar,Go.sizeOf,run_typeInfo w hi,hs,this]
theorem ahG {w:World}{B k:Nat}{cs:Array Value}(hB:B≤k):Below B w (w.setRow k cs)∧∀i,i≠k→(w.setRow k cs).heap[i]?=w.heap[i]?:=
 ⟨⟨rfl,rfl,rfl,by simp[World.setRow],fun i hi=>setRow_other w k i cs (by omega)⟩,fun i hi=>setRow_other w k i cs hi⟩
theorem JP {α:Type}(xs ys:List α)(off:Nat)(d:α)(hle:off+ys.length≤xs.length)(i:Nat):(xs.take off++ys++xs.drop (off+ys.length)).getD i d=if off≤i∧i<off+ys.length then ys.getD (i-off) d else xs.getD i d:=by
 simp only[bh,oY];rw[mR,eH,pj (by omega)];split
 ·rename_i h;rw[if_neg (by omega),ia,if_pos h]
 ·rename_i h;rw[mR];split
  ·rename_i h2;rw[if_pos (by omega)]
  ·rename_i h2;rw[if_neg (by omega),iS];congr 2;omega
section
variable {C:Ctx} {S:St} {ρ:Env} {σ:Im} {own:Nat→Option Nat} {hv:Nat→Value} {w0:World} {σ0:Base} {A:Nat→Prop} {a:Act} {w:World} {gs:List (Nat×Bool)} {Φ:aY} {dst:Nat}
theorem Inv.storeBox (h:Inv C S ρ σ own hv w0 σ0 A a w){j k off:Nat}{ag:Bool}{aO news:List Sh}{cs:Array Value}{E:TypeId}{ds dn:List D}{vs:List Value}(eo:S.o j=.box ag aO)
 (h1:hv j=.pointer (some ⟨k,0,none⟩)) (h2:own k=some j) (h3:w.heap[k]?=some (.cells cs E (0,0))) (h4:cs.size=aO.length) (h5:ρ.o j=.agg ds) (h6:ds.length=aO.length)
 (h7:∀i s,aO[i]?=some s→(∀gs s',s≠.opt gs s')∧bf C S ρ σ hv s (cs.getD i undef) (ds.getD i .none))
 (l1:news.length=vs.length) (l2:dn.length=vs.length) (hle:off+vs.length≤aO.length)
 (lJ:∀i s,news[i]?=some s→(∀gs s',s≠.opt gs s')∧bf C S ρ σ hv s (vs.getD i undef) (dn.getD i .none)):
 Inv C (S.setO j (.box ag (aO.take off++news++aO.drop (off+vs.length)))) (ρ.setO j (.agg (dm ds off dn))) σ own hv w0 σ0 A a (w.setRow k (cs.toList.take off++vs++cs.toList.drop (off+vs.length)).toArray):=by
 have hkB:w0.heap.size≤k:=(h.owns k j h2).1;obtain⟨b1,b2⟩:=ahG (w:=w) (B:=w0.heap.size) (k:=k) (cs:=(cs.toList.take off++vs++cs.toList.drop (off+vs.length)).toArray) hkB;refine h.updB j _ _ b1 (fun i hi aA=>b2 i fun e=>aA (e▸h2)) ⟨k,_,E,dm ds off dn,h1,h2,setRow_heap w k cs _ E _ h3,?_,by simp[Env.setO,be],?_,fun i s hi=>?_⟩
 ·simp[l1];omega
 ·simp[dm,l2,l1];omega
 ·have jV:(cs.toList.take off++vs++cs.toList.drop (off+vs.length)).toArray.getD i undef=if off≤i∧i<off+vs.length then vs.getD (i-off) undef else cs.getD i undef:=by
   have e0:∀l:List Value,l.toArray.getD i undef=l.getD i undef:=fun l=>by simp[hZ,bh]
   rw[e0,JP cs.toList vs off undef (by simp;omega),Au cs i]
  have DY:(dm ds off dn).getD i .none=if off≤i∧i<off+vs.length then dn.getD (i-off) .none else ds.getD i .none:=by
   rw[dm,JP ds dn off .none (by omega),l2]
  rw[jV,DY];have abJ:∀s v d,(∀gs s',s≠.opt gs s')→bf C S ρ σ hv s v d→bf C (S.setO j (.box ag (aO.take off++news++aO.drop (off+vs.length)))) (ρ.setO j (.agg (dm ds off dn))) σ hv s v d:=
   fun s v d hn hk=>bf.mono' (.refl σ) (Compat.setO _ _ _ _) hn hk
  have A5:(aO.take off++news++aO.drop (off+vs.length))[i]?=if off≤i∧i<off+vs.length then news[i-off]? else aO[i]?:=by
   rw[oY,mR,eH,pj (by omega)];split
   ·rename_i h;rw[if_neg (by omega),ia,if_pos h]
   ·rename_i h;rw[mR,l1];split
    ·rename_i h2;rw[if_pos (by omega)]
    ·rename_i h2;rw[if_neg (by omega),iS];congr 1;omega
  rw[A5] at hi;split
  ·rename_i hc;rw[if_pos hc] at hi;obtain⟨g1,g2⟩:=lJ _ s hi;exact⟨g1,abJ _ _ _ g1 g2⟩
  ·rename_i hc;rw[if_neg hc] at hi;obtain⟨g1,g2⟩:=h7 _ s hi;exact⟨g1,abJ _ _ _ g1 g2⟩
theorem avZ (h:Inv C S ρ σ own hv w0 σ0 A a w){j:Nat}(hr:ns (S.o j)=true):(hv j).cells=#[hv j]∧(hv j).oneCell'=true:=by
 have bG:=h.objs j;cases de:S.o j with
 |row T e=>
  rw[de] at bG;obtain⟨cells,xs,h1,h2,h3,h4⟩:=bG;obtain⟨b,c,e1,_⟩:=xR h2;rw[e1];exact⟨rfl,rfl⟩
 |mp kt et=>
  rw[de] at bG;obtain⟨k0,arr,clock,es,h1,_⟩:=bG;rw[h1];exact⟨rfl,rfl⟩
 |_=>rw[de] at hr;simp[ns] at hr
theorem Inv.storeRow (h:Inv C S ρ σ own hv w0 σ0 A a w){j k n c i p:Nat}{T:TypeId}{e:Ty}{cells vs:List Value}{xs:List D}{v':Value}{d':D}(eo:S.o j=.row T e)(fa:hv j=.slice (some ⟨k,0,none⟩) n c)
 (h1:ρ.o j=.list xs) (h2:w.ownsRow w0.heap.size T e.size (hv j) xs.length cells) (h3:jM C.cap σ e cells xs) (h4:∀k,(hv j).ownBlock=some k→own k=some j) (hi:i<xs.length)
 (Ej:i*e.size≤p) (fI:p+vs.length≤i*e.size+e.size) (hr:Rep C.cap σ e v' d')
 (hv':∀q u,v'.cells[q]?=some u→(cells.take p++vs++cells.drop (p+vs.length))[i*e.size+q]?=some u):
 ∃cur,w.heap[k]?=some (.cells cur T (0,0))∧p+vs.length≤cur.size∧Inv C S (ρ.setO j (.list (xs.set i d'))) σ own hv w0 σ0 A a (w.setRow k (cur.toList.take p++vs++cur.toList.drop (p+vs.length)).toArray):=by
 have bA:=h2.1;rcases h2.2 with⟨e0,e1⟩|⟨g,cap,cur,e1,e2,e3,e4,e5,e6,e7⟩
 ·omega
 rw[fa] at e1;cases e1;have ao8:i*e.size+e.size≤xs.length*e.size:=by
  have:(i+1)*e.size≤xs.length*e.size:=pk _ hi;rw[ph] at this;omega
 have aFq:xs.length*e.size≤c*e.size:=pk _ e4;have apY:p+vs.length≤cur.size:=by omega
 refine⟨cur,e3,apY,?_⟩;have dz:own k=some j:=h4 k (by rw[fa];rfl);obtain⟨b1,b2⟩:=ahG (w:=w) (B:=w0.heap.size) (k:=k) (cs:=(cur.toList.take p++vs++cur.toList.drop (p+vs.length)).toArray) e2;have Ev:(cur.toList.take p++vs++cur.toList.drop (p+vs.length)).take (xs.length*e.size)=cells.take p++vs++cells.drop (p+vs.length):=by
  rw[←e7];apply YK;intro q;simp only[oY,ia,mR,eH,iS,Ch];by_cases hq:q<xs.length*e.size
  ·rw[if_pos hq];by_cases hq1:q<p
   ·simp[hq1,Nat.lt_min,show q<cur.size by omega,hq]
   ·by_cases ju:q-p<vs.length
    ·rw[if_neg (by omega),pj (by omega),if_pos ju,if_neg (by omega),pj (by omega),if_pos ju]
    ·rw[if_neg (by omega),pj (by omega),if_neg ju,if_neg (by omega),pj (by omega),if_neg ju,if_pos (by omega)]
  ·rw[if_neg hq];have:¬q<p:=by omega
   rw[if_neg (by omega),pj (by omega),if_neg (by omega),if_neg (by omega)]
 have:=h.updB j (.row T e) (.list (xs.set i d')) b1 (fun q hq aA=>b2 q fun e=>aA (e▸dz))
  ⟨cells.take p++vs++cells.drop (p+vs.length),xs.set i d',by simp[Env.setO,be],⟨by simp;omega,.inr ⟨k,c,_,by rw[fa];simp,e2,setRow_heap w k cur _ T _ e3,by simpa using e4,e5,by simp;omega,by simpa using Ev⟩⟩,?_,h4⟩
 ·rw[St.setO_self eo] at this;exact this
 ·obtain⟨us,u1,u2⟩:=h3;refine⟨fun q=>if q=i then v' else us q,fun q x hx=>?_,fun q m u hq hm=>?_⟩
  ·rw[Cq] at hx;by_cases A2:i=q
   ·subst A2;simp only[if_true] at hx ⊢;rw[if_pos hi] at hx;cases hx;exact hr
   ·rw[if_neg A2] at hx;simp only[show ¬q=i from fun e=>A2 e.symm,if_false];exact u1 q x hx
  ·by_cases A2:q=i
   ·subst A2;simp only[if_true] at hm;exact hv' m u hm
   ·simp only[A2,if_false] at hm;simp only[List.length_set] at hq;have h9:=u2 q m u hq hm;have aFD:m<e.size:=by rw[←(u1 q _ (cl hq)).size];exact(gO.1 hm).1
    have kp:q*e.size+m<p∨p+vs.length≤q*e.size+m:=by
     rcases N5 q i with ar|fG
     ·left;have:(q+1)*e.size≤i*e.size:=pk _ ar;rw[ph] at this;omega
     ·right;have:(i+1)*e.size≤q*e.size:=pk _ (by omega);rw[ph] at this;omega
    rw[oY,mR,eH,pj (by omega)];rcases kp with ho|ho
    ·rw[if_pos ho,ia,if_pos ho];exact h9
    ·rw[if_neg (by omega),oZ (by omega),iS];rw[show p+vs.length+(q*e.size+m-p-vs.length)=q*e.size+m by omega];exact h9
theorem alS (h:Inv C S ρ σ own hv w0 σ0 A a w)(hC:CtxOK C σ0){T:TypeId}{x v:Operand}{r:St×List PI}(hr:Dz C S T x v=some r){o:Oper}(hd:o.dst=none)(ho:o.op=.store T x v):cC C w0 σ0 Φ S ρ A a w o r:=by
 unfold Dz at hr;split at hr
 case h_2=>cases hr
 rename_i inf hi;obtain⟨eZ,_⟩:=yz h (gs:=[]) rfl x;split at hr
 case h_3=>cases hr
 ·rename_i j ver off es;rw[es] at eZ;cases hb:Nat.beq ver (S.ver j)<;>simp only[hb,cond_true,cond_false] at hr
  ·cases hr
  obtain⟨k,fa,gi⟩:=eZ.2 (aN hb);have bG:=h.objs j;split at hr
  case h_2=>cases hr
  rename_i ag aO eo;rw[eo] at bG;obtain⟨k',cs,E,ds,h1,h2,h3,h4,h5,h6,h7⟩:=bG;have cu:=h1;rw[fa] at h1;cases h1;split at hr
  ·rename_i t e hu;have hv':=cG h hC rfl hu;cases hc:(Nat.beq inf.size t.size&&(t.rowT||t.one)&&Nat.ble (off+t.size) aO.length)<;>simp only[hc,cond_true,cond_false] at hr
   ·cases hr
   cases hr;simp only[az,lY] at hc;obtain⟨⟨bp,iz⟩,hle⟩:=hc;have bp:=aN bp;have hle:=l7 hle;obtain⟨f1,f2,f3⟩:=hv'.flat iz;have iZ:=hv'.size;refine cC.skip hd fun ρ' ay=>?_;rw[tP ay]
   refine⟨_,M0 ho hi gi (by rw[iZ,bp]) (fun u hu=>by
        obtain⟨m,hm,rfl⟩:=gP hu;exact hv'.cellsOne iz (m:=m) (by simp at hm ⊢)) h3 (by omega),?_⟩
   have dt:=h.storeBox (off:=off) (news:=t.flat.map .dat) (vs:=(a.eval v).cells.toList) (dn:=(e.ev ρ).cells) eo cu h2 h3 h4 h5 h6 h7 (by simp[f1,iZ]) (by simp[f2,iZ]) (by simp[iZ];omega) (fun i s hi=>by
        simp only[dG,aR] at hi;obtain⟨ti,Ew,rfl⟩:=hi;refine⟨fun _ _ e=>(by cases e),?_⟩;rw[Au];exact(f3 i ti Ew).2)
   have e1:(a.eval v).cells.toList.length=t.size:=by simp[iZ]
   rw[e1] at dt;rw[bp];refine⟨σ,own,hv,?_⟩;simpa [PE.ev,h5,D.cells] using dt
  ·split at hr
   case h_2=>cases hr
   rename_i j' rO gD;obtain⟨QY,_⟩:=yz h (gs:=[]) rfl v;rw[gD] at QY;cases hc:(Nat.beq rO (S.ver j')&&ns (S.o j')&&Nat.beq inf.size 1&&Nat.blt off aO.length)<;>simp only[hc,cond_true,cond_false] at hr
   ·cases hr
   cases hr;simp only[az] at hc;obtain⟨⟨⟨aqE,gH⟩,bp⟩,ar⟩:=hc;have bp:=aN bp;have ar:off<aO.length:=by simpa [qC] using ar
   have cS:=QY.2 (aN aqE);obtain⟨c1,c2⟩:=avZ h gH;have kQ:(a.eval v).cells=#[a.eval v]:=by rw[cS];exact c1
   refine cC.skip hd fun ρ' ay=>?_;rw[tP ay];refine⟨_,M0 ho hi gi (by rw[kQ,bp];rfl) (fun u hu=>by rw[kQ] at hu;simp at hu;subst hu;rw[cS];exact c2) h3 (by omega),?_⟩
   have dt:=h.storeBox (off:=off) (news:=[.obj j' rO]) (vs:=[a.eval v]) (dn:=[.none]) eo cu h2 h3 h4 h5 h6 h7 rfl rfl (by simp;omega) (fun i s hi=>by
        match i,hi with
        |0,hi=>simp at hi;subst hi;exact⟨fun _ _ e=>(by cases e),QY.1,fun _=>by simpa using cS⟩
        |i+1,hi=>simp at hi)
   rw[kQ,bp];have e2:aO.take off++[Sh.obj j' rO]++aO.drop (off+[a.eval v].length)=aO.set off (.obj j' rO):=by
        rw[List.set_eq_take_append_cons_drop,if_pos ar];simp
   rw[e2] at dt;refine⟨σ,own,hv,?_⟩;simpa [PE.ev,h5,D.cells] using dt
 ·rename_i j ver size off es;rw[es] at eZ;cases hb:Nat.beq ver (S.ver j)<;>simp only[hb,cond_true,cond_false] at hr
  ·cases hr
  obtain⟨k,n,c,ik,i,fa,uC,bU,gi⟩:=eZ.2 (aN hb);have bG:=h.objs j;split at hr
  ·rename_i T' ts t e eo hu;rw[eo] at bG;have hv':=cG h hC rfl hu;cases hc:(Nat.beq inf.size t.size&&(t.rowT||t.one)&&Nat.beq size ts.length&&Nat.ble (off+t.size) ts.length&&Ty.subs t.flat ((ts.drop off).take t.size))<;>simp only[hc,cond_true,cond_false] at hr
   ·cases hr
   cases hr;simp only[az,lY] at hc;obtain⟨⟨⟨⟨bp,iz⟩,xn⟩,hle⟩,cR⟩:=hc;have bp:=aN bp;have xn:=aN xn;have hle:=l7 hle;obtain⟨f1,f2,f3⟩:=hv'.flat iz;have iZ:=hv'.size;have f1:t.flat.length=t.size:=f1;have f2:(e.ev ρ).cells.length=t.size:=f2;have iZ:(a.eval v).cells.size=t.size:=iZ;obtain⟨cells,xs,k1,k2,k3,k4⟩:=bG;obtain⟨b,c',e1,xf,qY⟩:=xR k2;rw[fa] at e1;cases e1;obtain⟨us,u1,u2⟩:=k3;obtain⟨y,hy⟩:∃y,xs[i]?=some y:=⟨_,cl bU⟩
   obtain⟨os,ds,Ba,Qg,l1,l2,bn,dJ⟩:=(u1 i y hy).agg_inv;have EB:(a.eval v).cells.toList.length=t.size:=by simp[iZ]
   have lJ:Rep C.cap σ (.agg ts) (.agg (os.take off++(a.eval v).cells.toList++os.drop (off+(a.eval v).cells.toList.length)).toArray) (.agg (dm ds off (e.ev ρ).cells)):=by
        refine .agg _ _ _ (by simp[iZ];omega) (by simp[dm,f2];omega) (fun m tm hm=>?_) dJ;rw[JP os _ off undef (by rw[EB];omega),dm,JP ds _ off .none (by rw[f2];omega),EB,f2];split
        ·rename_i hc;have aqr:=Ty.subs_get _ _ cR (m-off) tm (by
          rw[ia,if_pos (by omega),iS,show off+(m-off)=m by omega];exact hm)
         obtain⟨tf,htf,dt⟩:=aqr;rw[Au];exact((f3 _ tf htf).2).sub dt
        ·exact bn m tm hm
   have bA:=k2.1;have ao8:i*(Ty.agg ts).size+(Ty.agg ts).size≤xs.length*(Ty.agg ts).size:=by
        have:(i+1)*(Ty.agg ts).size≤xs.length*(Ty.agg ts).size:=pk _ bU;rw[ph] at this;omega
   have ab9:(Ty.agg ts).size=ts.length:=rfl
   obtain⟨cur,q1,q2,q3⟩:=h.storeRow (i:=i) (p:=i*(Ty.agg ts).size+off) (vs:=(a.eval v).cells.toList) eo fa k1 k2 ⟨us,u1,u2⟩ k4 bU (by omega) (by rw[EB];omega) lJ (fun q u hq=>by
        have dK:(os.take off++(a.eval v).cells.toList++os.drop (off+(a.eval v).cells.toList.length))[q]?=some u:=by simpa [Value.cells] using hq
        have aFI:q<ts.length:=by have:=(jh.1 dK).1;simp[iZ] at this;omega
        rw[oY,mR,eH,pj (by omega)] at dK;rw[oY,mR,eH,pj (by omega)];by_cases q6:q<off
        ·rw[if_pos q6,ia,if_pos q6] at dK;rw[if_pos (by omega),ia,if_pos (by omega)];exact u2 i q u bU (by rw[Ba];simpa [Value.cells] using dK)
        ·rw[if_neg q6,mR] at dK;rw[if_neg (by omega),mR];rw[show i*(Ty.agg ts).size+q-(i*(Ty.agg ts).size+off)=q-off by omega];by_cases QR:q-off<(a.eval v).cells.toList.length
         ·rw[if_pos QR] at dK ⊢;exact dK
         ·rw[if_neg QR,iS] at dK;rw[if_neg QR,iS];rw[show off+(a.eval v).cells.toList.length+(q-off-(a.eval v).cells.toList.length)=q by omega] at dK;rw[show i*(Ty.agg ts).size+off+(a.eval v).cells.toList.length+(q-off-(a.eval v).cells.toList.length)=i*(Ty.agg ts).size+q by omega];exact u2 i q u bU (by rw[Ba];simpa [Value.cells] using dK))
   refine cC.skip hd fun ρ' ay=>?_;rw[tP ay]
   refine⟨_,M0 ho hi (cs:=cur) (by rw[gi,xn]) (by rw[iZ,bp]) (fun u hu=>by
        obtain⟨m,hm,rfl⟩:=gP hu;exact hv'.cellsOne iz (m:=m) (by simp at hm ⊢)) q1 (by rw[EB] at q2;rw[bp,←ab9];exact q2),σ,own,hv,?_⟩
   rw[EB] at q3;simp only[PE.ev,k1,D.l_list,uC,D.i_int,vV,sF hy,Qg,tT];rw[bp,←ab9];exact q3
  ·rename_i T' e0 t e aA eo hu;rw[eo] at bG;have hv':=cG h hC rfl hu;cases hc:(Nat.beq inf.size 1&&Nat.beq size 1&&Nat.beq off 0&&e0.one&&Ty.sub t e0)<;>simp only[hc,cond_true,cond_false] at hr
   ·cases hr
   cases hr;simp only[az] at hc;obtain⟨⟨⟨⟨bp,xn⟩,jt⟩,dJ⟩,cR⟩:=hc;have bp:=aN bp;have xn:=aN xn;have jt:=aN jt;subst jt;subst xn;have hve:=hv'.sub cR;obtain⟨c1,c2⟩:=hve.oneCell dJ;have D1:e0.size=1:=by cases e0<;>simp_all [Ty.size,Ty.one]
   obtain⟨cells,xs,k1,k2,k3,k4⟩:=bG;obtain⟨b,c',e1,xf,qY⟩:=xR k2;rw[fa] at e1;cases e1;obtain⟨y,hy⟩:∃y,xs[i]?=some y:=⟨_,cl bU⟩
   have bA:=k2.1
   obtain⟨cur,q1,q2,q3⟩:=h.storeRow (i:=i) (p:=i*e0.size) (vs:=[a.eval v]) eo fa k1 k2 k3 k4 bU (bK _) (by rw[D1];simp) hve (fun q u hq=>by
        rw[c1] at hq;have A1:q=0:=by have:=(gO.1 hq).1;simpa using this
        subst A1;simp at hq;subst hq;have:i*e0.size≤cells.length:=by rw[bA];exact pk _ (by omega)
        rw[oY,oZ (by simp;omega)];simp[pj this])
   refine cC.skip hd fun ρ' ay=>?_;rw[tP ay];refine⟨_,M0 ho hi (cs:=cur) (by rw[gi]) (by rw[c1,bp];rfl) (fun u hu=>by rw[c1] at hu;simp at hu;subst hu;exact c2) q1 (by rw[D1] at q2;rw[bp];simpa using q2),σ,own,hv,?_⟩;rw[c1,bp];have EG:tT y 0 (e.ev ρ)=e.ev ρ:=by
        obtain⟨us,u1,u2⟩:=k3;have:=(u1 i y hy).dcells dJ;cases y with
        |agg ds=>have h8:=u1 i _ hy;generalize us i=vv at h8;cases h8;simp[Ty.one] at dJ
        |_=>rfl
   simp only[PE.ev,k1,D.l_list,uC,D.i_int,vV,sF hy,EG];rw[D1] at q3;simpa using q3
  ·cases hr
end
end Cx
namespace Cx
open Go Go.RowKit
section
variable {C:Ctx} {S:St} {ρ:Env} {σ:Im} {own:Nat→Option Nat} {hv:Nat→Value} {w0:World} {σ0:Base} {A:Nat→Prop} {a:Act} {w:World} {gs:List (Nat×Bool)} {Φ:aY} {dst:Nat}
theorem ame {ρ:Env}{es:List PE}{i:Nat}{e:PE}(h:es[i]?=some e):(PE.evs ρ es)[i]?=some (e.ev ρ):=by
 rw[PE.evs_eq,dG,h];rfl
theorem ZX (h:Inv C S ρ σ own hv w0 σ0 A a w)(hC:CtxOK C σ0)(hg:holds gs ρ=true){T:TypeId}{len:Nat}{ps:Array (Nat×Operand)}{r:St×List PI}(hr:wH C S gs dst T len ps.toList=some r){o:Oper}
 (ho:o.op=.buildSlice T len ps):∃(E:TypeId) (e:Ty) (es:List PE) (v:Value) (w':World),C.P.underlying T=some (.slice E)∧oS C.P E=some e∧r=(mkObj S dst (.row E e),[.setO dst (.lst es),.setR dst (.con .none)])∧
   (execOp a.eval o).run C.P w=.ok (.value v) w'∧Below w.heap.size w w'∧(∀k,Nat.beq k w.heap.size=true→w.heap.size≤k∧k<w'.heap.size)∧
   dX C (S.newO dst (.row E e)) (ρ.setO dst (.list (PE.evs ρ es))) σ (gq own dst (fun k=>Nat.beq k w.heap.size)) (cE hv dst v) w' w0.heap.size dst (.row E e):=by
 unfold wH at hr;split at hr
 case h_2=>cases hr
 rename_i E hT;simp only[aG] at hr;obtain⟨e,he,z,hz,hr⟩:=hr;cases hc:(qK C.P E e&&Ty.sub z.1 e&&mE (ps.toList.map (·.1))&&ps.toList.all (fun p=>Nat.blt p.1 len)&&Nat.ble (len*e.size) 16777216)<;>simp only[hc,cond_true,cond_false] at hr
 ·cases hr
 simp only[az] at hc;obtain⟨⟨⟨⟨hef,cR⟩,bX⟩,eO⟩,hle⟩:=hc;have hle:=l7 hle;obtain⟨inf,zv,hi,hs,kP,h1,hzv,mA⟩:=Px hef;have sZ:=Yt mA;have my:=tj bX;have EH:=((yH (cap:=C.cap) (σ:=σ) hz mA).1).sub cR;simp only[aR] at hr;obtain⟨es,lG,rfl⟩:=hr;obtain⟨Z6,el2⟩:=mapM_some _ _ _ lG;simp only[List.length_range] at Z6;have abb:∀i,i<len→∃pe,es[i]?=some pe∧JJ C S gs e z.2 ps.toList i=some pe:=by
  intro i hi;obtain⟨y,hy1,EF⟩:=el2 i i (by rw[qz hi]);exact⟨y,hy1,EF⟩
 have q5:∀x,x∈ps.toList→x.1<len∧∃t pe,use C S gs x.2=some (t,pe)∧Ty.sub t e=true∧es[x.1]?=some pe:=by
  intro x hx;have xw:x.1<len:=by
   have:=fl.1 eO x hx;simpa [qC] using this
  refine⟨xw,?_⟩;obtain⟨pe,Ej,fI⟩:=abb x.1 xw;have D3:=aah my (i:=x.1) (x:=x.2) hx;simp only[JJ,D3,aG] at fI;obtain⟨y,hy,fI⟩:=fI;cases hs:Ty.sub y.1 e<;>simp only[hs,cond_true,cond_false] at fI
  ·cases fI
  cases fI;exact⟨y.1,y.2,hy,hs,Ej⟩
 let c0:Array Value:=madeCells zv.cells (len*e.size)
 have DV:c0.size=len*e.size:=size_madeCells _ _
 have q8:∀p,p∈(ps.toList.map fun(x:Nat×Operand)=>(x.1,a.eval x.2))→∃o,(fun i=>some (i*e.size,e.size)) p.1=some (o,p.2.cells.size)∧o+p.2.cells.size≤c0.size:=by
  intro p hp;obtain⟨x,hx,rfl⟩:=dH.1 hp;obtain⟨xw,t,pe,hu,dt,_⟩:=q5 x hx;have A6:=((cG h hC hg hu).sub dt).size;simp only;refine⟨x.1*e.size,by rw[A6],?_⟩;rw[A6,DV];have:(x.1+1)*e.size≤len*e.size:=pk _ xw;rw[ph] at this;omega
 have AI:∀(i j oi si oj sj:Nat),i≠j→(fun i=>some (i*e.size,e.size)) i=some (oi,si)→(fun i=>some (i*e.size,e.size)) j=some (oj,sj)→oi+si≤oj∨oj+sj≤oi:=by
  intro i j oi si oj sj aA hi hj;simp only[bx,nV] at hi hj;obtain⟨rfl,rfl⟩:=hi;obtain⟨rfl,rfl⟩:=hj;rcases N5 i j with ar|fG
  ·left;have:(i+1)*e.size≤j*e.size:=pk _ ar;rw[ph] at this;omega
  ·right;have:(j+1)*e.size≤i*e.size:=pk _ (by omega);rw[ph] at this;omega
 obtain⟨fE,f1,f2,f3,f4⟩:=PG (fun i=>some (i*e.size,e.size)) (ps.toList.map fun(x:Nat×Operand)=>(x.1,a.eval x.2)) c0 q8 AI (by simpa [NJ] using my);have ay:(execOp a.eval o).run C.P w=.ok (.value (.slice (some ⟨w.heap.size,0,none⟩) len len)) (w.alloc (.cells fE E)):=by
  have n1:¬(len*inf.size>2^24):=by rw[hs];omega
  have JL:Instr.fill (fun i=>some (i*inf.size,inf.size)) c0 (ps.toList.map fun(x:Nat×Operand)=>(x.1,a.eval x.2))=some fE:=by rw[hs];exact f1
  by_cases h0:len*inf.size=0
  ·have DW:c0=#[]:=by
        apply ND;rw[DV,←hs];exact h0
   rw[DW] at JL
   have amg:Instr.fill (fun i=>some (i*inf.size,inf.size)) (Array.map (fun _=>default) (Array.range 0)) (ps.toList.map fun(x:Nat×Operand)=>(x.1,a.eval x.2))=some fE:=by
        have:(Array.map (fun _=>(default:Value)) (Array.range 0))=#[]:=by simp
        rw[this];exact JL
   simp[execOp,ho,Instr.buildSlice,run_underlying hT,Go.sizeOf,run_typeInfo w hi,n1,h0,amg,newRow]
  ·have DW:c0=(Array.range (len*inf.size)).map (fun x=>zv.cells[x%zv.cells.size]!):=by simp only[c0,madeCells,hs]
   rw[DW] at JL;have h00:¬(len=0∨inf.size=0):=by rw[←Nat.mul_eq_zero];exact h0
   simp[execOp,ho,Instr.buildSlice,run_underlying hT,Go.sizeOf,run_typeInfo w hi,n1,h0,h00,zeroValue,hzv,JL,newRow]
 refine⟨E,e,es,_,_,hT,he,rfl,ay,(Below.refl _ _).alloc (bK _) _,fun k hk=>by simp at hk;simp;omega,?_⟩;have jo:(PE.evs ρ es).length=len:=by rw[PE.evs_eq,nU,Z6]
 have aoY:∀(i:Nat) (x:D),(PE.evs ρ es)[i]?=some x→∃v,Rep C.cap σ e v x∧∀q u,v.cells[q]?=some u→fE.toList[i*e.size+q]?=some u:=by
  intro i x hx;have gV:i<len:=by have:=(jh.1 hx).1;omega
  obtain⟨pe,Ej,fI⟩:=abb i gV;rw[ame Ej] at hx;cases hx;unfold JJ at fI;split at fI
  ·rename_i p hp;have hpm:=pg hp;have KB:p.1=i:=by have:=Cn hp;simpa using this
   obtain⟨_,t,pe',hu,dt,uM⟩:=q5 p hpm;rw[KB,Ej] at uM;cases uM;have cK:=(cG h hC hg hu).sub dt;refine⟨_,cK,fun q u hq=>?_⟩;have KC:q<(a.eval p.2).cells.size:=(gO.1 hq).1;have:=f3 p.1 (a.eval p.2) (p.1*e.size) (dH.2 ⟨p,hpm,rfl⟩) (by simp[cK.size]) q KC;rw[KB] at this;simp[this,hq]
  ·rename_i hp;cases fI;refine⟨zv,EH,fun q u hq=>?_⟩;have KC:q<zv.cells.size:=(gO.1 hq).1
   have ko:i∉(ps.toList.map fun(x:Nat×Operand)=>(x.1,a.eval x.2)).map (·.1):=by
        intro cJ;simp only[NX,dH,NJ] at cJ;obtain⟨x,Bf,e⟩:=cJ;have:=nS.1 hp x Bf;simp[e] at this
   have:=f4 i (i*e.size) e.size ko rfl q (by omega);have h9:c0[i*e.size+q]?=zv.cells[q]?:=by
        simp only[c0];rw[←sZ];exact ac1 (by omega) gV KC
   simp[this,h9,hq]
 have iZ:∃vs:Nat→Value,∀(i:Nat) (x:D),(PE.evs ρ es)[i]?=some x→Rep C.cap σ e (vs i) x∧∀q u,(vs i).cells[q]?=some u→fE.toList[i*e.size+q]?=some u:=by
  have kR:∀i,∃v,∀x,(PE.evs ρ es)[i]?=some x→Rep C.cap σ e v x∧∀q u,v.cells[q]?=some u→fE.toList[i*e.size+q]?=some u:=by
   intro i;cases hx:(PE.evs ρ es)[i]? with
   |none=>exact⟨undef,fun x du=>by cases du⟩
   |some x=>
    obtain⟨v,hv⟩:=aoY i x hx;exact⟨v,fun y hy=>by cases hy;exact hv⟩
  exact⟨fun i=>Classical.choose (kR i),fun i x hx=>Classical.choose_spec (kR i) x hx⟩
 obtain⟨vs,iZ⟩:=iZ;have jV:fE.size=len*e.size:=by rw[f2,DV]
 refine⟨fE.toList,PE.evs ρ es,by simp[Env.setO,be],?_,⟨vs,fun i x hx=>(iZ i x hx).1,fun i j u hi hj=>(iZ i _ (cl hi)).2 j u hj⟩,fun k hk=>by rw[be] at hk;simp[Value.ownBlock] at hk;simp[gq,hk]⟩;rw[be,jo];have Qv:len≤maxLen:=by
  have:len*1≤len*e.size:=Nat.mul_le_mul_left _ h1;unfold maxLen;omega
 exact⟨by simp[jV],.inr ⟨w.heap.size,len,fE,rfl,h.below.size,heap_alloc_new w _,bK _,Qv,jV,by rw[Ct (by simp[jV])]⟩⟩
theorem alw (h:Inv C S ρ σ own hv w0 σ0 A a w)(hC:CtxOK C σ0)(ht:¬A dst)(ar:dst<a.tmps.size){T:TypeId}{len:Nat}{ps:Array (Nat×Operand)}{r:St×List PI}(hr:wH C S [] dst T len ps.toList=some r){o:Oper}(hd:o.dst=some dst)
 (ho:o.op=.buildSlice T len ps):cC C w0 σ0 Φ S ρ A a w o r:=by
 obtain⟨E,e,es,v,w',_,_,rfl,ay,hb,dZ,de⟩:=ZX h hC rfl hr ho;refine cC.value hd fun ρ' q7=>⟨_,_,ay,?_⟩
 rw[GK q7];exact h.mkObj ht ar (.row E e) _ _ (fun k=>Nat.beq k w.heap.size) hb dZ de
theorem Inv.kill (h:Inv C S ρ σ own hv w0 σ0 A a w)(j:Nat):Inv C (S.newO j .dead) ρ σ own hv w0 σ0 A a w:=by
 have fS:∀i,S.ver i≤(S.newO j .dead).ver i:=by
  intro i;show S.ver i≤cE S.ver j (S.ver j+1) i;rw[gN];by_cases e:i=j
  ·subst e;simp
  ·simp[e]
 have hc:Compat S hv (S.newO j .dead) hv:=⟨fS,fun _ _=>rfl⟩
 refine h.step (·=j) rfl (.refl σ) h.ok (fun _ _ _ hx=>.inl hx) (fun _ _ hx=>.inl hx) (.refl _ _) hc (fun i hi=>⟨by simp[St.newO,bR _ _ hi],rfl,rfl,fun k hk=>⟨hk,rfl⟩⟩) (fun i hi=>?_) h.owns (fun _=>id) (fun t=>.inl ⟨rfl,rfl,rfl⟩) (fun _ _=>rfl) (fun _ _ _=>rfl) (fun k i hk=>.inl ⟨i,hk⟩) (fun i hi=>by subst hi;simp[St.newO,be]);subst hi;simp only[St.newO,be];trivial
theorem alG (h:Inv C S ρ σ own hv w0 σ0 A a w)(hC:CtxOK C σ0)(ht:¬A dst)(ar:dst<a.tmps.size)(ez:∀g,g∈gs→A g.1)(hg:holds gs ρ=true){T:TypeId}{len:Nat}{ps:Array (Nat×Operand)}{r:St×List PI}(hr:An C S gs dst T len ps.toList=some r){o:Oper}(hd:o.dst=some dst)
 (ho:o.op=.buildSlice T len ps):cC C w0 σ0 Φ S ρ A a w o r:=by
 unfold An at hr;split at hr
 case h_2=>cases hr
 rename_i E q hT hq;simp only[aG] at hr;obtain⟨e,he,hr⟩:=hr;obtain⟨E',e',es,v,w',Az,sK,rfl,ay,hb,dZ,de⟩:=ZX h hC hg hq ho;rw[hT] at Az;cases Az;rw[he] at sK;cases sK;cases hr;refine cC.value hd fun ρ' q7=>⟨_,_,ay,?_⟩
 have hρ:ρ'=ρ.setR dst (.list (PE.evs ρ es)):=by simp[PI.runs,PI.run,PE.ev] at q7;exact q7.symm
 subst hρ;have h1:=h.newO dst (.row E e) (.list (PE.evs ρ es)) v (fun k=>Nat.beq k w.heap.size) hb dZ de;obtain⟨σ2,jB,_,h2⟩:=h1.fz dst;have Qp:(S.newO dst (.row E e)).fz dst=(S.newO dst (.row E e)).setO dst (.fz (.slice e.rol)):=by
  have:(S.newO dst (.row E e)).o dst=.row E e:=be _ _ _;unfold St.fz;rw[this]
 rw[Qp] at h2;have bG:=h2.objs dst;have e1:((S.newO dst (.row E e)).setO dst (.fz (.slice e.rol))).o dst=.fz (.slice e.rol):=be _ _ _;rw[e1] at bG;have cK:Rep C.cap σ2 (.slice e.rol) v (.list (PE.evs ρ es)):=by
  have:=bG.2
  rwa [be,show(ρ.setO dst (.list (PE.evs ρ es))).o dst=.list (PE.evs ρ es) from be _ _ _] at this
 have h3:Inv C (S.newO dst .dead) ρ σ2 jB (cE hv dst v) w0 σ0 A a w':=by
  refine h2.step (·=dst) rfl (.refl σ2) h2.ok (fun _ _ _ hx=>.inl hx) (fun _ _ hx=>.inl hx) (.refl _ _) ⟨fun i=>bK _,fun _ _=>rfl⟩ (fun i hi=>⟨?_,?_,rfl,fun k hk=>⟨hk,rfl⟩⟩) (fun i hi=>?_) h2.owns (fun _=>id) (fun t=>.inl ⟨rfl,rfl,rfl⟩) (fun _ _=>rfl) (fun _ _ _=>rfl) (fun k i hk=>.inl ⟨i,hk⟩) (fun i hi=>by subst hi;simp[St.newO,be])
  ·simp[St.newO,St.setO,bR _ _ hi]
  ·simp[Env.setO,bR _ _ hi]
  ·subst hi;simp only[St.newO,be];trivial
 have hh:holds gs (ρ.setR dst (.list (PE.evs ρ es)))=true:=by rw[Eh (t:=dst) fun g hm e=>ht (by rw[←e];exact ez g hm)];exact hg
 cases gs with
 |nil=>exact⟨_,_,_,h3.setReg ht (s:=.dat (.slice e.rol)) cK ar (fun _ _ e=>by cases e)⟩
 |cons g bZ=>
  refine⟨_,_,_,h3.setReg ht (s:=.opt (g::bZ) (.dat (.slice e.rol))) ⟨fun _=>cK,fun e=>absurd (hh.symm.trans e) (by decide)⟩ ar (fun gs s e=>?_)⟩;cases e;exact⟨ez,fun _ _ e=>by cases e⟩
end
end Cx
namespace Cx
open Go Go.RowKit
open Classical in
def Im.noM (σ:Im):Im:=⟨σ.c,fun k=>if σ.m k=some fN then none else σ.m k⟩
theorem Rep.noM {cap:Nat→Option CSig}{σ:Im}{t:Ty}{v:Value}{d:D}(h:Rep cap σ t v d):Rep cap σ.noM t v d:=by
 induction h with
 |int k n h1 h2=>exact .int k n h1 h2
 |bool b=>exact .bool b
 |str s h=>exact .str s h
 |agg ts vs ds h1 h2 _ ho ih=>exact .agg ts vs ds h1 h2 ih ho
 |tup ts vs ds h1 h2 _ ih=>exact .tup ts vs ds h1 h2 ih
 |nil e=>exact .nil e
 |emp e a=>exact .emp e a
 |nils e=>exact .nils e
 |nsl0 e=>exact .nsl0 e
 |nsl e k o n c xs _ hx ih=>exact .nsl e k o n c xs ih hx
 |slice e k o n c xs vs hn hc hm _ hv ih=>exact .slice e k o n c xs vs hn hc hm ih hv
 |mapnil kt et=>exact .mapnil kt et
 |map kt et r jK es hm hl hx hk _ ky EI=>
  refine .map kt et r jK es ?_ hl hx ky EI;have aA:σ.m r≠some fN:=fun e=>by rw[hm] at e;cases e;exact EX hl hk rfl
  simp only[Im.noM,if_neg aA,hm]
 |ref t k o v d _ hv ih=>exact .ref t k o v d ih hv
 |fn f cs vs ds hc h1 h2 _ ih=>exact .fn f cs vs ds hc h1 h2 ih
 |fnnil aa r=>exact .fnnil aa r
def Im.plus (σ τ:Im):Im:=⟨fun k o=>(σ.c k o).or (τ.c k o),fun k=>(σ.m k).or (τ.m k)⟩
theorem Im.plus_le1 (σ τ:Im):σ.le (σ.plus τ):=⟨fun k o v h=>by simp[Im.plus,h],fun k v h=>by simp[Im.plus,h]⟩
theorem re.det {w:World}{k:Nat}{x y:List (Value×Value)}(h:re w k x)(g:re w k y):x=y:=by
 rcases h with⟨_,a,c,h1,h2⟩|⟨h1,h2⟩<;>rcases g with⟨_,a',c',g1,g2⟩|⟨g1,g2⟩
 ·rw[h1] at g1;cases g1;rw[←h2,←g2]
 ·rw[h1] at g2;cases g2
 ·rw[h2] at g1;cases g1
 ·rw[h1,g1]
theorem Im.plus_le2 {σ τ:Im}{w:World}(h:σ.ok w)(g:τ.ok w):τ.le (σ.plus τ):=by
 refine⟨fun k o v e=>?_,fun k v e=>?_⟩
 ·show(σ.c k o).or (τ.c k o)=some v;cases hc:σ.c k o with
  |none=>simpa using e
  |some u=>have:=(h.c k o u hc).symm.trans (g.c k o v e);simpa using this
 ·show(σ.m k).or (τ.m k)=some v;cases hc:σ.m k with
  |none=>simpa using e
  |some u=>simpa using(h.m k u hc).det (g.m k v e)
theorem Im.plus_ok {σ τ:Im}{w:World}(h:σ.ok w)(g:τ.ok w):(σ.plus τ).ok w:=by
 refine⟨fun k o v e=>?_,fun k v e=>?_⟩
 ·change (σ.c k o).or (τ.c k o)=some v at e;cases hc:σ.c k o with
  |none=>rw[hc] at e;exact g.c k o v (by simpa using e)
  |some u=>rw[hc] at e;simp at e;subst e;exact h.c k o u hc
 ·change (σ.m k).or (τ.m k)=some v at e;cases hc:σ.m k with
  |none=>rw[hc] at e;exact g.m k v (by simpa using e)
  |some u=>rw[hc] at e;simp at e;subst e;exact h.m k u hc
theorem Im.plus_c {σ τ:Im}{k o:Nat}{v:Value}(h:(σ.plus τ).c k o=some v):σ.c k o=some v∨τ.c k o=some v:=by
 change (σ.c k o).or (τ.c k o)=some v at h;cases hc:σ.c k o with
 |none=>rw[hc] at h;exact .inr (by simpa using h)
 |some u=>rw[hc] at h;exact .inl (by simpa using h)
theorem Im.plus_m {σ τ:Im}{k:Nat}{v:List (Value×Value)}(h:(σ.plus τ).m k=some v):σ.m k=some v∨τ.m k=some v:=by
 change (σ.m k).or (τ.m k)=some v at h;cases hc:σ.m k with
 |none=>rw[hc] at h;exact .inr (by simpa using h)
 |some u=>rw[hc] at h;exact .inl (by simpa using h)
def Ty.pureT:Ty→Bool
 |.int _|.bool|.str|.nils _=>true
 |_=>false
def Ty.pure:Ty→Bool
 |.tup ts=>ts.all Ty.pureT
 |.agg ts=>ts.all Ty.pureT
 |t=>Ty.pureT t
theorem Rep.pureT {cap:Nat→Option CSig}{σ τ:Im}{t:Ty}{v:Value}{d:D}(h:Rep cap σ t v d)(hp:t.pureT=true):Rep cap τ t v d:=by
 cases h<;>simp[Ty.pureT] at hp<;>constructor<;>assumption
theorem Rep.pure {cap:Nat→Option CSig}{σ τ:Im}{t:Ty}{v:Value}{d:D}(h:Rep cap σ t v d)(hp:t.pure=true):Rep cap τ t v d:=by
 cases h with
 |agg ts vs ds h1 h2 h ho=>exact .agg ts vs ds h1 h2 (fun i t hi=>(h i t hi).pureT (fl.1 hp t (ud hi))) ho
 |tup ts vs ds h1 h2 h=>exact .tup ts vs ds h1 h2 (fun i t hi=>(h i t hi).pureT (fl.1 hp t (ud hi)))
 |int k n h1 h2=>exact .int k n h1 h2
 |bool b=>exact .bool b
 |str s h=>exact .str s h
 |nils e=>exact .nils e
 |_=>simp[Ty.pure,Ty.pureT] at hp
def se (C:Ctx)(s:Sig)(σ':Im)(w w':World)(v:Value)(d:D):Prop:=
 match s.mode with
 |.dat=>Rep C.cap σ' s.res v d
 |.it _=>True
 |.ob ..=>True
 |.row T e=>∃cells xs,d=.list xs∧w'.ownsRow w.heap.size T e.size v xs.length cells∧jM C.cap σ' e cells xs∧∀k,v.ownBlock=some k→(∀o,σ'.c k o=none)∧σ'.m k=none
def qw (C:Ctx)(σ:Im)(ts:List Ty)(args:List Value)(ds:List D):Prop:=
 args.length=ts.length∧ds.length=ts.length∧∀(i:Nat) (t:Ty),ts[i]?=some t→Rep C.cap σ t (args.getD i undef) (ds.getD i .none)
def l0 (C:Ctx)(f:Nat)(s:Sig)(ds:List D)(d:D):Prop:=
 ∀(σ:Im) (w:World) (args:Array Value),σ.ok w→CtxOK C σ→qw C σ s.args args.toList ds→
  Calls C.P f args w fun e w'=>∃v σ',e=.returned v∧σ.le σ'∧σ'.ok w'∧Below w.heap.size w w'∧
   (∀k o x,σ'.c k o=some x→σ.c k o=some x∨w.heap.size≤k)∧(∀k x,σ'.m k=some x→σ.m k=some x∨w.heap.size≤k)∧se C s σ' w w' v d
def arf:List (Nat×Ob)→List D→Nat→D
 |x::l,d::ds,j=>bif Nat.beq x.1 j then d else arf l ds j
 |_,_,_=>.none
def xA:Mode→Bool
 |.ob ..=>true
 |_=>false
def mQ (C:Ctx)(f:Nat)(aO:List Sh)(ff:List (Nat×Ob))(res:Ty)(ds:List D)(d:D):Prop:=True
theorem mQ.ctx {C C':Ctx}{f:Nat}{aO:List Sh}{ff:List (Nat×Ob)}{res:Ty}{ds:List D}{d:D}(h:mQ C f aO ff res ds d)(hP:C'.P=C.P)(aa6:C'.cap=C.cap)(abp:C'.glob=C.glob):mQ C' f aO ff res ds d:=trivial
def dM (C:Ctx)(Φ:aY):Prop:=∀f ds d,Φ f ds=some d→∀s,C.sig f=some s→(xA s.mode=false→l0 C f s ds d)∧∀aO ff,s.mode=.ob aO ff→mQ C f aO ff s.res ds d
def nu:List Ty→Ty→Option (List Ty)
 |[.fn ys .bool],.tup []=>some ys
 |_,_=>none
def eh (C:Ctx):Prop:=(∀f cs,C.cap f=some cs→nu cs.args cs.res=none→C.sig f=some ⟨cs.args++cs.caps,cs.res,.dat⟩)∧∀f s,C.sig f=some s→∃fn,C.P.funcs[f]?=some fn∧fn.body.isSome=true∧(fn.name== "runtime.NumGoroutine")=false
def eR (S:St)(gs:List (Nat×Bool)):List Operand→List Nat
 |[]=>[]
 |x::xs=>
  match kH S gs x with
  |.obj j ver=>bif Nat.beq ver (S.ver j)&&ns (S.o j) then j::eR S gs xs else eR S gs xs
  |_=>eR S gs xs
def sH (gs:List (Nat×Bool))(s:Sh):Sh:=
 match gs with
 |[]=>s
 |_=>.opt gs s
def St.fzs (S:St)(js:List Nat):St:=js.foldl St.fz S
def Am (C:Ctx)(S:St)(gs:List (Nat×Bool))(dst:Nat)(f:Nat)(args:List Operand):Option (St×Sh×List PI):=
 (C.sig f).bind fun s=>
    match s.mode with
    |.dat=>
     (rN C (S.fzs (eR S gs args)) gs args).bind fun u=>
       bif Ty.subs u.1 s.args then some (bif s.res.pure then S else S.fzs (eR S gs args),.dat s.res,[.call gs dst f u.2]) else Option.none
    |_=>Option.none
def Du (C:Ctx)(S:St)(dst:Nat)(f:Nat)(args:List Operand):lZ:=
 (C.sig f).bind fun s=>
    match s.mode with
    |.row T e=>
     (rN C (S.fzs (eR S [] args)) [] args).bind fun u=>
       bif Ty.subs u.1 s.args then some (mkObj (bif e.pure then S else S.fzs (eR S [] args)) dst (.row T e),[.call [] dst f u.2,.setO dst (.r dst),.setR dst (.con .none)]) else Option.none
    |_=>Option.none
def wI (C:Ctx)(S:St)(gs:List (Nat×Bool))(dst:Nat)(x:Operand)(args:List Operand):Option (St×Sh×List PI):=
 match use C S gs x with
 |some (.fn aa r,e)=>
  match nu aa r with
  |some _=>Option.none
  |Option.none=>
  (rN C (S.fzs (eR S gs args)) gs args).bind fun u=>
    bif Ty.subs u.1 aa then some (bif r.pure then S else S.fzs (eR S gs args),.dat r,[.callc gs dst e u.2]) else Option.none
 |_=>Option.none
theorem DL:∀(js:List Nat) (S:St),(S.fzs js).ver=S.ver∧(S.fzs js).r=S.r
 |[],S=>⟨rfl,rfl⟩
 |j::js,S=>by
  obtain⟨h1,h2⟩:=DL js (S.fz j);obtain⟨k1,k2⟩:=PQ S j;exact⟨h1.trans k1,h2.trans k2⟩
section
variable {C:Ctx} {S:St} {ρ:Env} {σ:Im} {own:Nat→Option Nat} {hv:Nat→Value} {w0:World} {σ0:Base} {A:Nat→Prop} {a:Act} {w:World} {gs:List (Nat×Bool)} {Φ:aY} {dst:Nat}
theorem Inv.fzs:∀(js:List Nat) {S:St} {σ:Im} {own:Nat→Option Nat},Inv C S ρ σ own hv w0 σ0 A a w→∃σ' own',σ.le σ'∧Inv C (S.fzs js) ρ σ' own' hv w0 σ0 A a w
 |[],S,σ,own,h=>⟨σ,own,.refl σ,h⟩
 |j::js,S,σ,own,h=>by
  obtain⟨σ1,kB,hle,h1⟩:=h.fz j;obtain⟨σ2,jB,uK,h2⟩:=Inv.fzs js h1;exact⟨σ2,jB,hle.trans uK,h2⟩
theorem Inv.world (h:Inv C S ρ σ own hv w0 σ0 A a w){σ':Im}{w':World}(hle:σ.le σ')(aB:σ'.ok w')(hb:Below w.heap.size w w')(gm:∀k o x,σ'.c k o=some x→σ.c k o=some x∨w.heap.size≤k)
 (ed:∀k x,σ'.m k=some x→σ.m k=some x∨w.heap.size≤k):Inv C S ρ σ' own hv w0 σ0 A a w':=by
 have bp:=h.below.size;refine h.step (fun _=>False) rfl hle aB (fun k o x hx=>(gm k o x hx).imp id (fun e=>⟨by omega,.inr e⟩)) (fun k x hx=>(ed k x hx).imp id (fun e=>⟨by omega,.inr e⟩)) (hb.mono bp) (.refl S hv) (fun j _=>⟨rfl,rfl,rfl,fun k hk=>⟨hk,hb.block k (h.owns k j hk).2.1⟩⟩) (fun _ hf=>hf.elim) (fun k j hk=>?_) (fun _=>id) (fun t=>.inl ⟨rfl,rfl,rfl⟩) (fun _ _=>rfl) (fun k hk _=>hb.block k hk) (fun k i hk=>.inl ⟨i,hk⟩) (fun _ hf=>hf.elim);obtain⟨g1,g2,g3,g4⟩:=h.owns k j hk;refine⟨g1,by have:=hb.size;omega,fun o=>?_,?_⟩
 ·cases hc:σ'.c k o with
  |none=>rfl
  |some x=>rcases gm k o x hc with e|e
           ·rw[g3 o] at e;cases e
           ·omega
 ·cases hc:σ'.m k with
  |none=>rfl
  |some x=>rcases ed k x hc with e|e
           ·rw[g4] at e;cases e
           ·omega
theorem CtxOK.mono {C:Ctx}{σ σ':Im}(h:CtxOK C σ)(hle:σ.le σ'):CtxOK C σ':=⟨fun g x hx=>(h.glob g x hx).mono hle⟩
theorem Nz (h:Inv C S ρ σ own hv w0 σ0 A a w)(hC:CtxOK C σ0)(hg:holds gs ρ=true){xs:List Operand}{u:List Ty×List PE}{ts:List Ty}(hu:rN C S gs xs=some u)(hs:Ty.subs u.1 ts=true):qw C σ ts (xs.map a.eval) (PE.evs ρ u.2):=by
 obtain⟨l1,l2,bn⟩:=aiU h hC hg _ _ hu;have hl:=Ty.subs_len _ _ hs;refine⟨by rw[nU];omega,by rw[PE.evs_eq,nU];omega,fun i t hi=>?_⟩;obtain⟨s,eX,dt⟩:=Ty.subs_get _ _ hs i t hi;exact(bn i s eX).sub dt
theorem ahz {o:Oper}{f:Nat}{args:Array Operand}{ts:Array TypeId}(bA:eh C){s:Sig}(hs:C.sig f=some s)(ho:o.op=.call {callee:=.value (.func f),args:=args,argTypes:=ts}):
 (execOp a.eval o).run C.P w=.ok (.enter f (args.map a.eval)) w:=by
 obtain⟨fn,h1,h2,h3⟩:=bA.2 f s hs;obtain⟨bd,jn⟩:=YU.1 h2;have h4:¬fn.name= "runtime.NumGoroutine" :=by simpa using h3
 simp[execOp,ho,resolve,Act.eval,Deferred.ofValue,invoke,callFunc,h1,jn,h4]
theorem av3 {o:Oper}{x:Operand}{f:Nat}{vs:List Value}{args:Array Operand}{ts:Array TypeId}(bA:eh C){s:Sig}(hs:C.sig f=some s)(hx:a.eval x=.func (.func f) #[] vs.toArray)(ho:o.op=.call {callee:=.value x,args:=args,argTypes:=ts}):
 (execOp a.eval o).run C.P w=.ok (.enter f (args.map a.eval++vs.toArray)) w:=by
 obtain⟨fn,h1,h2,h3⟩:=bA.2 f s hs;obtain⟨bd,jn⟩:=YU.1 h2;have h4:¬fn.name= "runtime.NumGoroutine" :=by simpa using h3
 simp[execOp,ho,resolve,hx,Deferred.ofValue,invoke,callFunc,h1,jn,h4]
theorem Zy (h:Inv C S ρ σ own hv w0 σ0 A a w)(hC:CtxOK C σ0)(ht:¬A dst)(ar:dst<a.tmps.size)(ez:∀g,g∈gs→A g.1)(hg:holds gs ρ=true){f:Nat}{s:Sig}{js:List Nat}{Ym:List Value}{ds:List D}{d:D}(sS:s.mode=.dat)(pP:l0 C f s ds d)
 (lE:∀σ1 kB,σ.le σ1→Inv C (S.fzs js) ρ σ1 kB hv w0 σ0 A a w→qw C σ1 s.args Ym ds) {K:Act→World→Prop} {Q:Exit→Act→World→Prop}
 (hK:∀a' w',Good C w0 σ0 ((bif s.res.pure then S else S.fzs js).setR dst (sH gs (.dat s.res))) (ρ.setR dst d) (fun u=>A u∨u=dst) a' w'→a'.tmps.size=a.tmps.size→K a' w'):
 Calls C.P f Ym.toArray w (fun e ls=>match e with|.returned v=>K (a.put (some dst) v) ls|.panicked chain=>Q (.panic chain) a ls|.outgrown=>LetsOut Q):=by
 obtain⟨σ1,kB,sQ,h1⟩:=Inv.fzs js h;have Qc:=pP σ1 w Ym.toArray h1.ok (hC.mono h1.le) (by simpa using lE σ1 kB sQ h1);refine Qc.mono fun e w' hh=>?_;obtain⟨v,σ',rfl,hle,aB,hb,gm,ed,nk⟩:=hh;simp only[se,sS] at nk;refine hK _ _ ?_ (size_put _ _ _);have hh:holds gs (ρ.setR dst d)=true:=by rw[Eh (t:=dst) (d:=d) fun g hm e=>ht (by rw[←e];exact ez g hm)];exact hg
 have put:∀{S2:St} {σ2:Im} {jB:Nat→Option Nat},Inv C S2 ρ σ2 jB hv w0 σ0 A a w'→Rep C.cap σ2 s.res v d→Good C w0 σ0 (S2.setR dst (sH gs (.dat s.res))) (ρ.setR dst d) (fun u=>A u∨u=dst) (a.put (some dst) v) w':=by
  intro S2 σ2 jB h2 hr;cases gs with
  |nil=>exact⟨_,_,_,h2.setReg ht (s:=.dat s.res) hr ar (fun _ _ e=>by cases e)⟩
  |cons g bZ=>
   refine⟨_,_,_,h2.setReg ht (s:=.opt (g::bZ) (.dat s.res)) ⟨fun _=>hr,fun e=>absurd (hh.symm.trans e) (by decide)⟩ ar (fun gs s e=>?_)⟩;cases e;exact⟨ez,fun _ _ e=>by cases e⟩
 cases hp:s.res.pure with
 |true=>
  simp only[cond_true];exact put (h.world (.refl σ) (h.ok.below hb) hb (fun _ _ _ hx=>.inl hx) (fun _ _ hx=>.inl hx)) (nk.pure hp)
 |false=>
  simp only[cond_false];exact put (h1.world hle aB hb gm ed) nk
theorem Pe {o:Oper}{f:Nat}{args:Array Value}{K:Act→World→Prop}{Q:Exit→Act→World→Prop}(hd:o.dst=some dst)(hx:(execOp a.eval o).run C.P w=.ok (.enter f args) w)
 (h:Calls C.P f args w (fun e ls=>match e with|.returned v=>K (a.put (some dst) v) ls|.panicked chain=>Q (.panic chain) a ls|.outgrown=>LetsOut Q)):o.wp C.P a w K Q:=by
 simp only[Oper.wp,hx,Oper.upon,hd];refine h.mono fun e ls hh=>?_;cases e<;>exact hh
theorem alE (h:Inv C S ρ σ own hv w0 σ0 A a w)(hC:CtxOK C σ0)(bA:eh C)(hΦ:dM C Φ)(ht:¬A dst)(ar:dst<a.tmps.size)(ez:∀g,g∈gs→A g.1)(hg:holds gs ρ=true){f:Nat}{args:Array Operand}{ts:Array TypeId}{r:St×Sh×List PI}
 (hr:Am C S gs dst f args.toList=some r) {o:Oper} (hd:o.dst=some dst) (ho:o.op=.call {callee:=.value (.func f),args:=args,argTypes:=ts}):cC C w0 σ0 Φ S ρ A a w o (r.1.setR dst (sH gs r.2.1),r.2.2):=by
 simp only[Am,aG] at hr;obtain⟨s,hs,hr⟩:=hr;split at hr
 case h_2=>cases hr
 rename_i sS;simp only[aG] at hr;obtain⟨u,hu,hr⟩:=hr;cases cR:Ty.subs u.1 s.args<;>simp only[cR,cond_true,cond_false] at hr
 ·cases hr
 cases hr;intro ρ' ay K Q hK;simp only[PI.runs,PI.run,hg,cond_true,aG,aR] at ay;obtain⟨ρ1,⟨d,bB,rfl⟩,ay⟩:=ay;cases ay;have pP:=(hΦ f _ d bB s hs).1 (by rw[sS];rfl);refine Pe hd (ahz bA hs ho) ?_;have q8:args.map a.eval=(args.toList.map a.eval).toArray:=by apply NF;rw[G8]
 rw[q8];have mu:(fun u=>A u∨o.dst=some u)=(fun u=>A u∨u=dst):=by funext u;rw[hd];simp[eq_comm]
 rw[mu] at hK;exact Zy h hC ht ar ez hg (js:=eR S gs args.toList) sS pP (fun σ1 kB _ h1=>Nz h1 hC hg hu cR) hK
theorem alA (h:Inv C S ρ σ own hv w0 σ0 A a w)(hC:CtxOK C σ0)(bA:eh C)(hΦ:dM C Φ)(ht:¬A dst)(ar:dst<a.tmps.size)(ez:∀g,g∈gs→A g.1)(hg:holds gs ρ=true){x:Operand}{args:Array Operand}{ts:Array TypeId}{r:St×Sh×List PI}
 (hr:wI C S gs dst x args.toList=some r) {o:Oper} (hd:o.dst=some dst) (ho:o.op=.call {callee:=.value x,args:=args,argTypes:=ts}):cC C w0 σ0 Φ S ρ A a w o (r.1.setR dst (sH gs r.2.1),r.2.2):=by
 unfold wI at hr;split at hr
 case h_2=>cases hr
 rename_i aa r0 e hu0;split at hr
 case h_1=>cases hr
 rename_i AP;simp only[aG] at hr;obtain⟨u,hu,hr⟩:=hr;cases cR:Ty.subs u.1 aa<;>simp only[cR,cond_true,cond_false] at hr
 ·cases hr
 cases hr;have hx:=cG h hC hg hu0;intro ρ' ay K Q hK;simp only[PI.runs,PI.run,hg,cond_true,aG] at ay;obtain⟨ρ1,uP,ay⟩:=ay;cases ay;split at uP
 case h_2=>cases uP
 rename_i f caps cf;simp only[aR] at uP;obtain⟨d,bB,rfl⟩:=uP;rw[cf] at hx;generalize gi:a.eval x=xv at hx;generalize bt:Ty.fn aa r0=ty at hx;cases hx with
 |fn f cs vs ds hc h1 h2 bn=>
  cases bt;have hs:=bA.1 f cs hc AP;have pP:=(hΦ f _ d bB _ hs).1 rfl;refine Pe hd (av3 bA hs gi ho) ?_;have q8:args.map a.eval++vs.toArray=(args.toList.map a.eval++vs).toArray:=by apply NF;simp
  rw[q8];have mu:(fun u=>A u∨o.dst=some u)=(fun u=>A u∨u=dst):=by funext u;rw[hd];simp[eq_comm]
  rw[mu] at hK;refine Zy h hC ht ar ez hg (js:=eR S gs args.toList) (s:=⟨cs.args++cs.caps,cs.res,.dat⟩) rfl pP (fun σ1 kB sQ i1=>?_) hK;obtain⟨g1,g2,g3⟩:=Nz i1 hC hg hu cR;refine⟨by simp only[l6,g1,h1],by simp only[l6,g2,h2],fun i t hi=>?_⟩;rw[mR] at hi;split at hi
  ·rename_i ar;have:=g3 i t hi;rw[bh,bh,nT (by omega),nT (by omega)];simpa [bh] using this
  ·rename_i fG;have:=(bn _ t hi).mono sQ;rw[bh,bh,oZ (by omega),oZ (by omega),g1,g2];simpa [bh] using this
theorem alC (h:Inv C S ρ σ own hv w0 σ0 A a w)(hC:CtxOK C σ0)(bA:eh C)(hΦ:dM C Φ)(ht:¬A dst)(ar:dst<a.tmps.size){f:Nat}{args:Array Operand}{ts:Array TypeId}{r:St×List PI}
 (hr:Du C S dst f args.toList=some r) {o:Oper} (hd:o.dst=some dst) (ho:o.op=.call {callee:=.value (.func f),args:=args,argTypes:=ts}):cC C w0 σ0 Φ S ρ A a w o r:=by
 simp only[Du,aG] at hr;obtain⟨s,hs,hr⟩:=hr;split at hr
 case h_2=>cases hr
 rename_i T e sS;simp only[aG] at hr;obtain⟨u,hu,hr⟩:=hr;cases cR:Ty.subs u.1 s.args<;>simp only[cR,cond_true,cond_false] at hr
 ·cases hr
 cases hr;intro ρ' ay K Q hK;have D6:holds ([]:List (Nat×Bool)) ρ=true:=rfl;simp only[PI.runs,PI.run,D6,cond_true,aG,aR] at ay;obtain⟨ρ1,⟨d,bB,rfl⟩,ρ2,g2,ρ3,g3,g4⟩:=ay;cases g2;cases g3;cases g4;have pP:=(hΦ f _ d bB s hs).1 (by rw[sS];rfl);obtain⟨σ1,kB,sQ,h1⟩:=Inv.fzs (eR S [] args.toList) h;have q8:args.map a.eval=(args.toList.map a.eval).toArray:=by apply NF;rw[G8]
 refine Pe hd (ahz bA hs ho) ?_;rw[q8];have Qc:=pP σ1 w (args.toList.map a.eval).toArray h1.ok (hC.mono h1.le) (by simpa using Nz h1 hC rfl hu cR);refine Qc.mono fun e' w' hh=>?_;obtain⟨v,σ',rfl,hle,aB,hb,gm,ed,nk⟩:=hh;simp only[se,sS] at nk;obtain⟨cells,xs,rfl,dz,jo,qV⟩:=nk;refine hK _ _ ?_ (size_put _ _ _);have mu:(fun u=>A u∨o.dst=some u)=(fun u=>A u∨u=dst):=by funext u;rw[hd];simp[eq_comm]
 rw[mu];have main:∀{S2:St} {σ1 σ2:Im} {jB:Nat→Option Nat},Inv C S2 ρ σ1 jB hv w0 σ0 A a w→σ1.le σ2→σ2.ok w'→(∀k o x,σ2.c k o=some x→σ1.c k o=some x∨w.heap.size≤k)→(∀k x,σ2.m k=some x→σ1.m k=some x∨w.heap.size≤k)→jM C.cap σ2 e cells xs→(∀k,v.ownBlock=some k→(∀o,σ2.c k o=none)∧σ2.m k=none)→
  Good C w0 σ0 (mkObj S2 dst (.row T e)) ((ρ.setO dst (.list xs)).setR dst .none) (fun u=>A u∨u=dst) (a.put (some dst) v) w':=by
  intro S2 σ1 σ2 jB h2 uK QJ apB apE aoM aoU;have bp:=h1.below.size
  have lJ:=h2.newOσ dst (.row T e) (.list xs) v (fun k=>decide (v.ownBlock=some k)) uK QJ apB apE hb (fun k hk=>dz.lt k (by simpa using hk)) (fun k hk=>aoU k (by simpa using hk)) ⟨cells,xs,by simp[Env.setO,be],by
        rw[be];refine⟨dz.1,?_⟩;rcases dz.2 with e1|⟨g,cap,cur,e1,e2,e3⟩
        ·exact .inl e1
        ·exact .inr ⟨g,cap,cur,e1,by omega,e3⟩,aoM,fun k hk=>by rw[be] at hk;simp[gq,hk]⟩
  have ab0:=lJ.setObj ht (j:=dst) (v:=v) (be _ _ _) ar;have e:(S2.newO dst (.row T e)).ver dst=S2.ver dst+1:=be _ _ _;rw[e] at ab0;exact⟨_,_,_,ab0⟩
 have eρ:((ρ.setR dst (.list xs)).setO dst ((PE.r dst).ev (ρ.setR dst (.list xs)))).setR dst ((PE.con D.none).ev ((ρ.setR dst (.list xs)).setO dst ((PE.r dst).ev (ρ.setR dst (.list xs)))))=(ρ.setO dst (.list xs)).setR dst .none:=by
  have:∀d1 d2:D,cE (cE ρ.r dst d1) dst d2=cE ρ.r dst d2:=by
   intro d1 d2;funext i;simp only[gN];split<;>rfl
  simp[Env.setR,Env.setO,PE.ev,be,this]
 show Good C w0 σ0 _ _ _ _ _;rw[eρ];cases hp:e.pure with
 |true=>
  simp only[cond_true];refine main h (.refl σ) (h.ok.below hb) (fun _ _ _ hx=>.inl hx) (fun _ _ hx=>.inl hx) ?_ (fun k hk=>?_)
  ·obtain⟨vs,k1,k2⟩:=jo;exact⟨vs,fun i x hx=>(k1 i x hx).pure hp,k2⟩
  ·obtain⟨f1,f2⟩:=qV k hk;refine⟨fun o=>?_,?_⟩
   ·cases hc:σ.c k o with
    |none=>rfl
    |some x=>have:=hle.c _ _ _ (sQ.c _ _ _ hc);rw[f1 o] at this;cases this
   ·cases hc:σ.m k with
    |none=>rfl
    |some x=>have:=hle.m _ _ (sQ.m _ _ hc);rw[f2] at this;cases this
 |false=>
  simp only[cond_false];exact main h1 hle aB gm ed jo qV
end
def scr:Nat:=1000000013
abbrev ai2:=Sh×Option (Ty×PE)
section
variable (ver:Nat→Nat) (is js:List Nat)
end
def ax (l:List Nat)(x:Nat):Bool:=l.any (Nat.beq x)
def JH (C:Ctx)(S:St)(f:Nat)(args:List Operand)(caps:List (Nat×Nat)):Option (St×Ty×List PI):=none
section
variable {C:Ctx} {S S1:St} {ρ ρ1:Env} {σ σ1:Im} {own kB:Nat→Option Nat} {hv bJ:Nat→Value} {w0:World} {σ0:Base} {A:Nat→Prop} {a:Act} {w w1:World} {Φ:aY} {dst:Nat}
 {is js:List Nat} {aO:List Sh} {ff:List (Nat×Ob)} {ρf:Env}
def Yv (C:Ctx)(S:St)(ρ:Env)(σ:Im)(hv:Nat→Value)(x:ai2)(v:Value)(d:D):Prop:=bf C S ρ σ hv x.1 v d∧∀y,x.2=some y→Rep C.cap σ y.1 v (y.2.ev ρ)
end
section
variable {C:Ctx} {S:St} {ρ:Env} {σ:Im} {own:Nat→Option Nat} {hv:Nat→Value} {w0:World} {σ0:Base} {A:Nat→Prop} {a:Act} {w:World} {Φ:aY} {dst:Nat}
 {is js:List Nat} {aO:List Sh} {ff:List (Nat×Ob)}
def tw (S:St)(dst:Option Nat)(r:St×Ty×List PI):St×List PI:=
 match dst with
 |some d=>(r.1.setR d (.dat r.2.1),r.2.2++[.setR d (.tget (.o scr) 0)])
 |none=>(r.1,r.2.2)
theorem Z1 (h:Inv C S ρ σ own hv w0 σ0 A a w)(hC:CtxOK C σ0)(bA:eh C)(hΦ:dM C Φ){f:Nat}{args:Array Operand}{ts:Array TypeId}{r:St×Ty×List PI}{o:Oper}(ht:∀d,o.dst=some d→¬A d∧d<a.tmps.size)
 (hr:JH C S f args.toList []=some r) (ho:o.op=.call {callee:=.value (.func f),args:=args,argTypes:=ts}):cC C w0 σ0 Φ S ρ A a w o (tw S o.dst r):=by cases hr
def JI (C:Ctx)(S:St)(t:Nat)(args:List Operand):Option (St×Ty×List PI):=none
theorem ZZ (h:Inv C S ρ σ own hv w0 σ0 A a w)(hC:CtxOK C σ0)(bA:eh C)(hΦ:dM C Φ){t:Nat}{args:Array Operand}{ts:Array TypeId}{r:St×Ty×List PI}{o:Oper}(ht:∀d,o.dst=some d→¬A d∧d<a.tmps.size)
 (hr:JI C S t args.toList=some r) (ho:o.op=.call {callee:=.value (.tmp t),args:=args,argTypes:=ts}):cC C w0 σ0 Φ S ρ A a w o (tw S o.dst r):=by cases hr
def Pu (C:Ctx)(S:St)(dst:Nat)(fn:Fn)(first caps:Array Operand):Option (St×List PI):=none
theorem alM (h:Inv C S ρ σ own hv w0 σ0 A a w)(ht:¬A dst)(ar:dst<a.tmps.size){fn:Fn}{first caps:Array Operand}{r:St×List PI}{o:Oper}(hr:Pu C S dst fn first caps=some r)(hd:o.dst=some dst)(ho:o.op=.makeFunc fn first caps):cC C w0 σ0 Φ S ρ A a w o r:=by cases hr
end
end Cx
