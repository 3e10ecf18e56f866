/-
  Shared texts of this claim.
-/
import Derived.Test.YtodhjdbleiakeaaGreatDoorNAB
import Derived.Laws.OwnMore
import Derived.Lib.ConvBytes
set_option linter.unusedSimpArgs false
set_option linter.unusedVariables false
namespace Cx
open Go Go.RowKit
def mkObj (S:St)(dst:Nat)(ob:Ob):St:=(S.newO dst ob).setR dst (.obj dst (S.ver dst+1))
def mkPtr (S:St)(dst:Nat)(ob:Ob):St:=(S.newO dst ob).setR dst (.ptr dst (S.ver dst+1) 0)
abbrev ls:=Option (St×List PI)
def Cb (C:Ctx)(S:St)(dst:Nat)(T:TypeId)(x:Operand):ls:=
 match use C S [] x,C.P.underlying T with
 |some (.nils _,_),some (.slice E)=>(og C.P E).map fun e=>(mkObj S dst (.row E e),[.setO dst (.con (.list [])),.setR dst (.con .none)])
 |_,_=>Option.none
def B3 (C:Ctx)(S:St)(dst:Nat)(T:TypeId):ls:=
 match og C.P T,C.P.info? T,oY C.P T with
 |some t,some inf,some ag=>
  bif sC inf t&&(t.rowT||t.one) then
   (om t).map fun z=>(mkPtr S dst (.box ag (z.1.flat.map .dat)),[.setO dst (.con (.agg z.2.cells)),.setR dst (.con .none)])
  else Option.none
 |_,_,_=>Option.none
def B5 (C:Ctx)(S:St)(dst:Nat)(T:TypeId)(x:Operand):ls:=
 match use C S [] x,oY C.P T with
 |some (t,e),some ag=>
  bif t.rowT||t.one then some (mkPtr S dst (.box ag (t.flat.map .dat)),[.setO dst (.mk [e]),.setR dst (.con .none)]) else Option.none
 |_,_=>Option.none
def B8 (C:Ctx)(S:St)(dst:Nat)(T:TypeId)(r:Option Operand):ls:=
 match C.P.underlying T,r with
 |some (.map K E),Option.none=>
  (og C.P K).bind fun kt=>(og C.P E).map fun et=>(mkObj S dst (.mp kt et),[.setO dst (.con (.map [])),.setR dst (.con .none)])
 |_,_=>Option.none
def B9 (C:Ctx)(S:St)(dst:Nat)(T:TypeId)(l c:Operand):ls:=
 match C.P.underlying T,use C S [] l,use C S [] c with
 |some (.slice E),some (.int _,n),some (.int _,m)=>
  (og C.P E).bind fun e=>
    bif qe C.P E e then
     (om e).bind fun z=>
        bif Ty.sub z.1 e then some (mkObj S dst (.row E e),[.chk (Ra n),.chk (.ci .eql n m),.setO dst (.rep n (.con z.2)),.setR dst (.con .none)]) else Option.none
    else Option.none
 |_,_,_=>Option.none
def Cc (C:Ctx)(S:St)(dst:Nat)(T:TypeId)(x:Operand):ls:=
 match C.P.underlying T,gj S [] x with
 |some (.map _ _),.obj j ver=>
  bif Nat.beq ver (S.ver j)&& !Nat.beq j dst then
   match S.o j with
   |.mp kt et=>some (mkObj (S.mv j dst) dst (.it kt et),[.setO dst (.tup [.lst [],.o j]),.setR dst (.con .none)])
   |_=>Option.none
  else Option.none
 |_,_=>Option.none
def B6 (C:Ctx)(S:St)(dst:Nat)(s d:TypeId)(x:Operand):ls:=
 match use C S [] x,C.P.underlying s,C.P.underlying d with
 |some (.str,e),some .string,some (.slice E)=>
  (match C.P.underlying E with
   |some (.int .u8)=>some (S.setR dst (.dat (.slice (.int .u8))),[.chk (.ci .leq (.slen e) (.con (.int mM))),.setR dst (.bytes e)])
   |_=>Option.none)
 |_,_,_=>Option.none
section
variable {C:Ctx} {S:St} {ρ:Env} {σ:Im} {own:Nat→Option Nat} {hv:Nat→Value} {w0:World} {σ0:Base} {A:Nat→Prop} {a:Act} {w:World} {gs:List (Nat×Bool)} {Φ:aT} {dst:Nat}
def bZ (C:Ctx)(w0:World)(σ0:Base)(Φ:aT)(S:St)(ρ:Env)(A:Nat→Prop)(a:Act)(w:World)(o:Oper)(r:St×List PI):Prop:=
 ∀ρ',PI.runs Φ r.2 ρ=some ρ'→∀(K:Act→World→Prop) (Q:Exit→Act→World→Prop),(∀a' w',Good C w0 σ0 r.1 ρ' (fun u=>A u∨o.dst=some u) a' w'→a'.tmps.size=a.tmps.size→K a' w')→o.wp C.P a w K Q
theorem size_put (a:Act)(d:Option Tmp)(v:Value):(a.put d v).tmps.size=a.tmps.size:=by
 cases d<;>simp[Act.put]
theorem bZ.value {o:Oper}{r:St×List PI}(hd:o.dst=some dst)(hx:∀ρ',PI.runs Φ r.2 ρ=some ρ'→∃v w',(execOp a.eval o).run C.P w=.ok (.value v) w'∧Good C w0 σ0 r.1 ρ' (fun u=>A u∨u=dst) (a.put (some dst) v) w'):bZ C w0 σ0 Φ S ρ A a w o r:=by
 intro ρ' ao K Q hK;obtain⟨v,w',h1,h2⟩:=hx ρ' ao;simp only[Oper.wp,h1,Oper.upon,hd];refine hK _ _ ?_ (size_put _ _ _)
 have:(fun u=>A u∨o.dst=some u)=(fun u=>A u∨u=dst):=by
  funext u;rw[hd];simp[eq_comm]
 rw[this];exact h2
theorem bZ.skip {o:Oper}{r:St×List PI}(hd:o.dst=none)(hx:∀ρ',PI.runs Φ r.2 ρ=some ρ'→∃w',(execOp a.eval o).run C.P w=.ok .skip w'∧Good C w0 σ0 r.1 ρ' A a w'):bZ C w0 σ0 Φ S ρ A a w o r:=by
 intro ρ' ao K Q hK;obtain⟨w',h1,h2⟩:=hx ρ' ao;simp only[Oper.wp,h1,Oper.upon,hd]
 have:(fun u=>A u∨o.dst=some u)=A:=by
  funext u;rw[hd];simp
 rw[this] at hK;exact hK _ _ h2 (size_put _ _ _)
theorem dW.eff (h:Inv C S ρ σ own hv w0 σ0 A a w)(ht:¬A dst)(ah:dst<a.tmps.size){o:Oper}(hd:o.dst=some dst){s:Sh}{DY:List PI}(hq:dW C S ρ σ hv Φ dst a w o (s,DY)):bZ C w0 σ0 Φ S ρ A a w o (S.setR dst s,DY):=by
 refine bZ.value hd fun ρ' ao=>?_;obtain⟨v,d,rfl,h1,h2,h3⟩:=hq ρ' ao;exact⟨v,w,h1,σ,own,hv,h.setReg ht (aQ.mono' (.refl σ) (.refl S hv) h3 h2) ah (fun gs s' e=>absurd e (h3 gs s'))⟩
theorem dW.effG (h:Inv C S ρ σ own hv w0 σ0 A a w)(ht:¬A dst)(ah:dst<a.tmps.size)(dG:∀g,g∈gs→A g.1)(hg:holds gs ρ=true){o:Oper}(hd:o.dst=some dst){s:Sh}{DY:List PI}(hq:dW C S ρ σ hv Φ dst a w o (s,DY)):bZ C w0 σ0 Φ S ρ A a w o (S.setR dst (.opt gs s),DY):=by
 refine bZ.value hd fun ρ' ao=>?_;obtain⟨v,d,rfl,h1,h2,h3⟩:=hq ρ' ao;have hh:holds gs (ρ.setR dst d)=true:=by rw[C8 (t:=dst) (d:=d) fun g hm e=>ht (by rw[←e];exact dG g hm)];exact hg
 refine⟨v,w,h1,σ,own,hv,h.setReg ht ⟨fun _=>aQ.mono' (.refl σ) (.refl S hv) h3 h2,fun e=>absurd (hh.symm.trans e) (by decide)⟩ ah (fun bM s' e=>?_)⟩;cases e;exact⟨dG,h3⟩
theorem Inv.passed (h:Inv C S ρ σ own hv w0 σ0 A a w)(ht:¬A dst)(ah:dst<a.tmps.size)(dG:∀g,g∈gs→A g.1)(hg:holds gs ρ=false){s:Sh}(hs:∀bM s',s≠.opt bM s')(d:D):Inv C (S.setR dst (.opt gs s)) (ρ.setR dst d) σ own hv w0 σ0 (fun u=>A u∨u=dst) (a.put (some dst) undef) w:=by
 have hh:holds gs (ρ.setR dst d)=false:=by rw[C8 (t:=dst) (d:=d) fun g hm e=>ht (by rw[←e];exact dG g hm)];exact hg
 refine h.setReg ht (s:=.opt gs s) (v:=undef) (d:=d) ⟨fun e=>absurd (hh.symm.trans e) (by decide),fun _=>rfl⟩ ah (fun bM s' e=>?_);cases e;exact⟨dG,hs⟩
theorem Inv.mkObj (h:Inv C S ρ σ own hv w0 σ0 A a w)(ht:¬A dst)(ah:dst<a.tmps.size)(ob:Ob)(d:D)(v:Value)(nb:Nat→Bool){w':World}(hw:Below w.heap.size w w')(dp:∀k,nb k=true→w.heap.size≤k∧k<w'.heap.size)
 (cJ:cl C (S.newO dst ob) (ρ.setO dst d) σ (fM own dst nb) (cf hv dst v) w' w0.heap.size dst ob) (mC:ob≠.tr:=by intro h;cases h):
 Good C w0 σ0 (Cx.mkObj S dst ob) ((ρ.setO dst d).setR dst .none) (fun u=>A u∨u=dst) (a.put (some dst) v) w':=by
 have h1:=h.newO dst ob d v nb hw dp cJ mC;have h2:=h1.setObj ht (j:=dst) (v:=v) (aU _ _ _) ah;have e:(S.newO dst ob).ver dst=S.ver dst+1:=aU _ _ _;rw[e] at h2;exact⟨_,_,_,h2⟩
theorem Inv.mkPtr (h:Inv C S ρ σ own hv w0 σ0 A a w)(ht:¬A dst)(ah:dst<a.tmps.size)(ob:Ob)(d:D)(k:Nat)(nb:Nat→Bool){w':World}(hw:Below w.heap.size w w')(dp:∀k,nb k=true→w.heap.size≤k∧k<w'.heap.size)
 (cJ:cl C (S.newO dst ob) (ρ.setO dst d) σ (fM own dst nb) (cf hv dst (.pointer (some ⟨k,0,none⟩))) w' w0.heap.size dst ob) (mC:ob≠.tr:=by intro h;cases h):
 Good C w0 σ0 (Cx.mkPtr S dst ob) ((ρ.setO dst d).setR dst .none) (fun u=>A u∨u=dst) (a.put (some dst) (.pointer (some ⟨k,0,none⟩))) w':=by
 have h1:=h.newO dst ob d _ nb hw dp cJ mC;have e:(S.newO dst ob).ver dst=S.ver dst+1:=aU _ _ _;have h2:=h1.setReg ht (s:=.ptr dst (S.ver dst+1) 0) (v:=.pointer (some ⟨k,0,none⟩)) (d:=.none) ⟨Nat.le_of_eq e.symm,fun _=>⟨k,aU _ _ _,rfl⟩⟩ ah (fun _ _ e=>by cases e);exact⟨_,_,_,h2⟩
theorem Fc {e:PE}{ρ':Env}(h:PI.runs Φ [.setO dst e,.setR dst (.con .none)] ρ=some ρ'):ρ'=(ρ.setO dst (e.ev ρ)).setR dst .none:=by
 simp[PI.runs,PI.run,PE.ev] at h;exact h.symm
theorem Ym (h:Inv C S ρ σ own hv w0 σ0 A a w){t:Ty}{v:Value}{d:D}(hr:Rep C.cap σ t v d)(ho:t.rowT=true∨t.one=true)(ag:Bool)(T:TypeId):
 cl C (S.newO dst (.box ag (t.flat.map .dat))) (ρ.setO dst (.agg d.cells)) σ (fM own dst (fun k=>Nat.beq k w.heap.size)) (cf hv dst (.pointer (some ⟨w.heap.size,0,none⟩))) (w.alloc (.cells v.cells T)) w0.heap.size dst (.box ag (t.flat.map .dat)):=by
 obtain⟨f1,f2,f3⟩:=hr.flat ho;refine⟨w.heap.size,v.cells,T,d.cells,aU _ _ _,by simp[fM],heap_alloc_new w _,by rw[hr.size];simp[f1],by simp[Env.setO,aU],by simp[f1,f2],fun i s hi=>?_⟩;simp only[cU,aH] at hi;obtain⟨ti,Qj,rfl⟩:=hi;exact⟨fun _ _ e=>(by cases e),(f3 i ti Qj).2⟩
theorem apc (h:Inv C S ρ σ own hv w0 σ0 A a w)(hC:CtxOK C σ0)(ht:¬A dst)(ah:dst<a.tmps.size){T:TypeId}{x:Operand}{r:St×List PI}(hr:Cb C S dst T x=some r){o:Oper}(hd:o.dst=some dst)(ho:o.op=.assign x):bZ C w0 σ0 Φ S ρ A a w o r:=by
 unfold Cb at hr;split at hr
 case h_2=>cases hr
 rename_i e0 e1 E hu hT;simp only[aH] at hr;obtain⟨e,he,rfl⟩:=hr;have hx:=cg h hC rfl hu;have cr:a.eval x=.slice none 0 0:=by
  generalize a.eval x=v at hx;generalize e1.ev ρ=d at hx;cases hx;rfl
 refine bZ.value hd fun ρ' ao=>⟨.slice none 0 0,w,by simp[execOp,ho,cr],?_⟩
 rw[Fc ao];exact h.mkObj ht ah (.row E e) _ _ (fun _=>false) (.refl _ _) (by simp) ⟨[],[],by simp[Env.setO,aU,PE.ev],by rw[aU];exact World.ownsRow_nil _ _ _ _,⟨fun _=>undef,by simp,by simp⟩,by rw[aU];simp[Value.ownBlock]⟩
theorem aoM (h:Inv C S ρ σ own hv w0 σ0 A a w)(ht:¬A dst)(ah:dst<a.tmps.size){T:TypeId}{r:St×List PI}(hr:B3 C S dst T=some r){o:Oper}(hd:o.dst=some dst)(ho:o.op=.alloc T):bZ C w0 σ0 Φ S ρ A a w o r:=by
 unfold B3 at hr;split at hr
 case h_2=>cases hr
 rename_i t inf ag Qm hi ha;cases hc:(sC inf t&&(t.rowT||t.one))<;>simp only[hc,cond_true,cond_false] at hr
 ·cases hr
 simp only[ar,gB] at hc;simp only[aH] at hr;obtain⟨z,hz,rfl⟩:=hr;obtain⟨v0,vL,yI⟩:∃v0,inf.zero=some v0∧jd t v0=true:=by
  have:=hc.1;unfold sC at this;split at this
  ·exact⟨_,by assumption,this⟩
  ·cases this
 obtain⟨k1,k2,k3⟩:=w6 (cap:=C.cap) (σ:=σ) hz yI;have Dk:z.1.rowT=true∨z.1.one=true:=by
  rcases hc.2 with e|e
  ·left;cases t<;>simp[Ty.rowT] at e;simp[om] at hz;obtain⟨_,_,rfl⟩:=hz;rfl
  ·right;rw[k3];exact e
 refine bZ.value hd fun ρ' ao=>⟨.pointer (some ⟨w.heap.size,0,none⟩),w.alloc (.cells v0.cells T),?_,?_⟩
 ·simp[execOp,ho,Instr.alloc,zeroValue,run_typeInfo w hi,vL,newVar,newRow]
 ·rw[Fc ao];exact h.mkPtr ht ah _ _ _ (fun k=>Nat.beq k w.heap.size) ((Below.refl _ _).alloc (bk _) _) (fun k hk=>by simp at hk;simp;omega) (Ym h k1 Dk ag T)
theorem aoQ (h:Inv C S ρ σ own hv w0 σ0 A a w)(hC:CtxOK C σ0)(ht:¬A dst)(ah:dst<a.tmps.size){T:TypeId}{x:Operand}{r:St×List PI}(hr:B5 C S dst T x=some r){o:Oper}(hd:o.dst=some dst)(ho:o.op=.box T x):bZ C w0 σ0 Φ S ρ A a w o r:=by
 unfold B5 at hr;split at hr
 case h_2=>cases hr
 rename_i t e ag hu ha;cases hc:(t.rowT||t.one)<;>simp only[hc,cond_true,cond_false] at hr
 ·cases hr
 cases hr;simp only[gB] at hc;have hx:=cg h hC rfl hu;refine bZ.value hd fun ρ' ao=>⟨.pointer (some ⟨w.heap.size,0,none⟩),w.alloc (.cells (a.eval x).cells T),?_,?_⟩
 ·simp[execOp,ho,Instr.box,newVar,newRow]
 ·rw[Fc ao];have:(PE.mk [e]).ev ρ=.agg (e.ev ρ).cells:=by simp[PE.ev,PE.evc]
  rw[this];exact h.mkPtr ht ah _ _ _ (fun k=>Nat.beq k w.heap.size) ((Below.refl _ _).alloc (bk _) _) (fun k hk=>by simp at hk;simp;omega) (Ym h hx hc ag T)
theorem ao6 (h:Inv C S ρ σ own hv w0 σ0 A a w)(ht:¬A dst)(ah:dst<a.tmps.size){T:TypeId}{m:Option Operand}{r:St×List PI}(hr:B8 C S dst T m=some r){o:Oper}(hd:o.dst=some dst)(ho:o.op=.makeMap T m):bZ C w0 σ0 Φ S ρ A a w o r:=by
 unfold B8 at hr;split at hr
 case h_2=>cases hr
 rename_i K E hT;simp only[ax,aH] at hr;obtain⟨kt,hk,et,he,rfl⟩:=hr;refine bZ.value hd fun ρ' ao=>⟨.map (some w.heap.size),w.alloc (.map #[] 0),?_,?_⟩
 ·simp[execOp,ho,Instr.makeMap]
 ·rw[Fc ao]
  exact h.mkObj ht ah (.mp kt et) _ _ (fun k=>Nat.beq k w.heap.size) ((Below.refl _ _).alloc (bk _) _) (fun k hk=>by simp at hk;simp;omega)
   ⟨w.heap.size,#[],0,[],aU _ _ _,by simp[fM],heap_alloc_new w _,by simp[Env.setO,aU,PE.ev],rfl,⟨by simp,by simp[ma]⟩,by simp⟩
theorem ape (h:Inv C S ρ σ own hv w0 σ0 A a w)(ht:¬A dst)(ah:dst<a.tmps.size){T:TypeId}{x:Operand}{r:St×List PI}(hr:Cc C S dst T x=some r){o:Oper}(hd:o.dst=some dst)(ho:o.op=.range T x):bZ C w0 σ0 Φ S ρ A a w o r:=by
 unfold Cc at hr;split at hr
 case h_2=>cases hr
 rename_i K E j ver hT es;obtain⟨eD,_⟩:=wR h (gs:=[]) rfl x;rw[es] at eD;cases hb:(Nat.beq ver (S.ver j)&& !Nat.beq j dst)<;>simp only[hb,cond_true,cond_false] at hr
 ·cases hr
 simp only[ar,iw] at hb;have cr:=eD.2 (aL hb.1);have aB:j≠dst:=fun e=>by subst e;simp at hb
 have bq:=h.objs j;split at hr
 case h_2=>cases hr
 rename_i kt et eo;cases hr;rw[eo] at bq;obtain⟨m,arr,clock,ds,h1,h2,h3,h4,h5,⟨h6,qk⟩,h7⟩:=bq;have mB:=h.mv aB (by rw[eo];rfl);have rK:m<w.heap.size:=(fU.1 h3).1;have Pw:w0.heap.size≤m:=(h.owns m j h2).1;refine bZ.value hd fun ρ' ao=>⟨.pointer (some ⟨w.heap.size,0,none⟩),w.alloc (.mapIter (some m) clock #[] clock),?_,?_⟩
 ·simp[execOp,ho,Instr.range,cr,h1,run_underlying hT,getObj,Sem.run,h3]
 have hρ:ρ'=((ρ.setO dst (.tup [.list [],.map ds])).setR dst .none):=by
  simp[PI.runs,PI.run,PE.ev,PE.evs,h4] at ao;exact ao.symm
 subst hρ;have fZ:Below w.heap.size w (w.alloc (.mapIter (some m) clock #[] clock)):=(Below.refl _ _).alloc (bk _) _;have Qf:=mB.step (S':=(S.mv j dst).newO dst (.it kt et)) (ρ':=(ρ.setO dst (.tup [.list [],.map ds]))) (σ':=σ) (hv':=cf (cf hv dst (hv j)) dst (.pointer (some ⟨w.heap.size,0,none⟩)))
  (own':=fun k=>if k=w.heap.size then some dst else(if own k=some j then some dst else if own k=some dst then none else own k)) (a':=a) (A':=A) (w':=w.alloc (.mapIter (some m) clock #[] clock)) (fun i=>i=dst)
  rfl (.refl σ) (h.ok.below fZ) (fun _ _ _ hx=>.inl hx) (fun _ _ hx=>.inl hx) (fZ.mono h.below.size) ⟨fun i=>?_,fun i e=>?_⟩ (fun i hi=>⟨?_,?_,?_,fun k hk=>⟨?_,?_⟩⟩) (fun i hi=>?_) (fun k i hk=>?_) (fun _=>id) (fun t=>.inl ⟨rfl,rfl,rfl⟩) (fun _ _=>rfl) (fun k hk _=>fZ.block k hk) (fun k i hk=>?_) (fun i hi=>by subst hi;simp[St.newO,aU])
 ·have jL:=Qf.setObj ht (j:=dst) (v:=.pointer (some ⟨w.heap.size,0,none⟩)) (aU _ _ _) ah;have e:((S.mv j dst).newO dst (.it kt et)).ver dst=(S.mv j dst).ver dst+1:=aU _ _ _;rw[e] at jL;exact⟨_,_,_,jL⟩
 ·simp only[St.newO,fS];split<;>rename_i e
  ·subst e;omega
  ·omega
 ·simp only[St.newO,fS] at e;split at e
  ·rename_i e';subst e';omega
  ·rename_i PG;exact bz _ _ PG
 ·simp[St.newO,bz _ _ hi]
 ·simp[Env.setO,bz _ _ hi]
 ·exact bz _ _ hi
 ·have aI0:=(mB.owns k i hk).2.1;have bt:k≠w.heap.size:=by omega
  simp only[if_neg bt];exact hk
 ·exact fZ.block k (mB.owns k i hk).2.1
 ·subst hi;simp only[St.newO,aU];have eW:m≠w.heap.size:=by omega
  refine⟨w.heap.size,m,arr,clock,ds,[],aU _ _ _,by simp,by simp[eW,h2],by omega,?_,heap_alloc_new w _,by simp[Env.setO,aU,gh],List.nodup_nil,by simp,h5,qk,h7⟩;rw[fZ.block m rK];exact h3
 ·split at hk
  ·rename_i e;subst e;refine⟨h.below.size,by simp,fun o=>?_,?_⟩
   ·cases hc:σ.c w.heap.size o with
    |none=>rfl
    |some u=>have:=h.lt hc;omega
   ·cases hc:σ.m w.heap.size with
    |none=>rfl
    |some u=>have:=h.ltm hc;omega
  ·obtain⟨g1,g2,g3,g4⟩:=mB.owns k i hk;exact⟨g1,by simp;omega,g3,g4⟩
 ·split at hk
  ·rename_i e;subst e;exact .inr (bk _)
  ·exact .inl ⟨i,hk⟩
theorem aoU (h:Inv C S ρ σ own hv w0 σ0 A a w)(hC:CtxOK C σ0)(ht:¬A dst)(ah:dst<a.tmps.size){T U:TypeId}{x:Operand}{r:St×List PI}(hr:B6 C S dst T U x=some r){o:Oper}(hd:o.dst=some dst)(ho:o.op=.convert T U x):bZ C w0 σ0 Φ S ρ A a w o r:=by
 unfold B6 at hr;split at hr
 case h_2=>cases hr
 rename_i e E hu hT hU;split at hr
 case h_2=>cases hr
 rename_i hE;cases hr;have hx:=cg h hC rfl hu;obtain⟨s,aW,bu,hs⟩:=hx.str_inv;have tC:=Lib.run_convert_string_bytes (P:=C.P) w T U E s hT hU hE;refine bZ.value hd fun ρ' ao=>⟨.slice (some ⟨w.heap.size,0,none⟩) s.size (grownCap w s.size 0 E),Lib.bytesWorld w E s,by simp[execOp,ho,aW,tC],?_⟩
 simp only[PI.runs,PI.run,ax] at ao;obtain⟨ρ1,g1,ρ2,g2,g3⟩:=ao;cases c1:((PE.ci BinOp.leq (.slen e) (.con (.int mM))).ev ρ).b<;>simp only[c1,cond_true,cond_false] at g1
 ·cases g1
 cases g1;cases g2;cases g3;have aue:s.size≤4294967296:=by
  simp[PE.ev,bu,D.s,D.i,D.b,hZ,D.int,mM] at c1;omega
 have fZ:Below w.heap.size w (Lib.bytesWorld w E s):=⟨rfl,rfl,rfl,by rw[Lib.bytesWorld_size];omega,fun k hk=>Lib.bytesWorld_at_old w E s k hk⟩
 have aR:(Lib.bytesWorld w E s).heap.size=w.heap.size+1:=Lib.bytesWorld_size w E s
 let σ':Im:={c:=fun k i=>if k=w.heap.size then(if i<s.size then some (.int .u8 (s.data.toList.getD i 0).toNat) else none) else σ.c k i,m:=σ.m}
 have hle:σ.le σ':=by
  refine⟨fun k o v hc=>?_,fun k es hc=>hc⟩;have:k≠w.heap.size:=by have:=h.lt hc;omega
  simp[σ',this,hc]
 have aE:σ'.ok (Lib.bytesWorld w E s):=by
  refine⟨fun k i v hc=>?_,(h.ok.below fZ).m⟩;simp only[σ'] at hc;split at hc
  ·rename_i ek;subst ek;split at hc
   ·rename_i hi;cases hc;exact Lib.bytesWorld_cell w E s i hi
   ·cases hc
  ·exact(h.ok.below fZ).c k i v hc
 have h1:=h.step (S':=S) (ρ':=ρ) (σ':=σ') (own':=own) (hv':=hv) (A':=A) (a':=a) (w':=Lib.bytesWorld w E s) (fun _=>False) rfl hle aE (fun k i v hc=>?_) (fun k es hc=>.inl hc) (fZ.mono h.below.size) ⟨fun _=>bk _,fun _ _=>rfl⟩
  (fun j _=>⟨rfl,rfl,rfl,fun k hk=>⟨hk,fZ.block k (h.owns k j hk).2.1⟩⟩) (fun j hj=>hj.elim) (fun k j hk=>?_) (fun _=>id) (fun t=>.inl ⟨rfl,rfl,rfl⟩) (fun _ _=>rfl) (fun k hk _=>fZ.block k hk) (fun k i hk=>.inl ⟨i,hk⟩) (fun _ hf=>hf.elim)
 ·refine⟨_,_,_,h1.setReg ht (s:=.dat (.slice (.int .u8))) ?_ ah (fun _ _ e=>by cases e)⟩;show Rep C.cap σ' _ _ _;simp only[PE.ev,bu,D.s];refine .slice (.int .u8) w.heap.size 0 s.size _ _ (fun i=>.int .u8 (s.data.toList.getD i 0).toNat) (by simp) (grownCap_ge w s.size 0 E) (grownCap_le_maxLen w s.size 0 E (by unfold maxLen;omega)) (fun i x hx=>?_) (fun i j u hi hu=>?_)
  ·simp only[cU,aH] at hx;obtain⟨b,hb,rfl⟩:=hx;have:s.data.toList.getD i 0=b:=by simp[aS,hb]
   rw[this];have:=b.toNat_lt;exact .int .u8 _ (by show(0:Int)≤_;omega) (by show _≤(255:Int);omega)
  ·have hj:j=0:=by
        have:=(fU.1 hu).1;simp[Value.cells] at this;exact this
   subst hj;simp[Value.cells] at hu;subst hu;simp[σ',Ty.size,hi]
 ·simp only[σ'] at hc;split at hc
  ·rename_i ek;exact .inr ⟨by have:=h.below.size;omega,.inr (by omega)⟩
  ·exact .inl hc
 ·obtain⟨g1,g2,g3,g4⟩:=h.owns k j hk;refine⟨g1,by omega,fun i=>?_,g4⟩;have:k≠w.heap.size:=by omega
  simp[σ',this,g3 i]
end
end Cx
namespace Cx
open Go Go.RowKit
def Ho (C:Ctx)(S:St)(gs:List (Nat×Bool))(e:Ty)(z:D)(parts:List (Nat×Operand))(i:Nat):Option PE:=
 match parts.find? (fun p=>Nat.beq p.1 i) with
 |some p=>(use C S gs p.2).bind fun a=>bif Ty.sub a.1 e then some a.2 else Option.none
 |Option.none=>some (PE.con z)
def u9 (C:Ctx)(S:St)(gs:List (Nat×Bool))(dst:Nat)(T:TypeId)(len:Nat)(parts:List (Nat×Operand)):ls:=
 match C.P.underlying T with
 |some (.slice E)=>
  (og C.P E).bind fun e=>(om e).bind fun z=>
    bif qe C.P E e&&Ty.sub z.1 e&&ju (parts.map (·.1))&&parts.all (fun p=>Nat.blt p.1 len)&&Nat.ble (len*e.size) 16777216 then
     ((List.range len).mapM (Ho C S gs e z.2 parts)).map fun es=>(mkObj S dst (.row E e),[.setO dst (.lst es),.setR dst (.con .none)])
    else Option.none
 |_=>Option.none
def xL (C:Ctx)(S:St)(gs:List (Nat×Bool))(dst:Nat)(T:TypeId)(len:Nat)(parts:List (Nat×Operand)):ls:=
 match C.P.underlying T,u9 C S gs dst T len parts with
 |some (.slice E),some r=>
  (og C.P E).bind fun e=>
    match r.2 with
    |.setO _ x::_=>some ((S.newO dst .dead).setR dst (match gs with|[]=>.dat (.slice e.rol)|_=>.opt gs (.dat (.slice e.rol))),[.setR dst x])
    |_=>Option.none
 |_,_=>Option.none
def sS (C:Ctx)(S:St)(T:TypeId)(x v:Operand):ls:=
 match C.P.info? T with
 |some inf=>
  match gj S [] x with
  |.ptr j ver off=>
   bif Nat.beq ver (S.ver j) then
    match S.o j with
    |.box ag shs=>
     match use C S [] v with
     |some (t,e)=>
      bif Nat.beq inf.size t.size&&(t.rowT||t.one)&&Nat.ble (off+t.size) shs.length then
             some (S.setO j (.box ag (shs.take off++t.flat.map .dat++shs.drop (off+t.size))),[.setO j (.setc (.o j) off e)])
      else Option.none
     |Option.none=>
      match gj S [] v with
      |.obj j' oh=>
       bif Nat.beq oh (S.ver j')&&mJ (S.o j')&&Nat.beq inf.size 1&&Nat.blt off shs.length then
              some (S.setO j (.box ag (shs.set off (.obj j' oh))),[.setO j (.setc (.o j) off (.con .none))])
       else Option.none
      |_=>Option.none
    |_=>Option.none
   else Option.none
  |.eptr j ver size off=>
   bif Nat.beq ver (S.ver j) then
    match S.o j,use C S [] v with
    |.row _ (.agg ts),some (t,e)=>
     bif Nat.beq inf.size t.size&&(t.rowT||t.one)&&Nat.beq size ts.length&&Nat.ble (off+t.size) ts.length&&Ty.subs t.flat ((ts.drop off).take t.size) then
         some (S,[.setO j (.setn (.o j) (ui x) off e)])
     else Option.none
    |.row _ e0,some (t,e)=>
     bif Nat.beq inf.size 1&&Nat.beq size 1&&Nat.beq off 0&&e0.one&&Ty.sub t e0 then some (S,[.setO j (.setn (.o j) (ui x) 0 e)]) else Option.none
    |_,_=>Option.none
   else Option.none
  |_=>Option.none
 |Option.none=>Option.none
def rq (C:Ctx)(S:St)(T:TypeId)(m k v:Operand):ls:=
 match C.P.underlying T,gj S [] m with
 |some (.map K _),.obj j ver=>
  bif Nat.beq ver (S.ver j) then
   match S.o j,use C S [] k,use C S [] v with
   |.mp kt et,some (tk,ek),some (tv,ev)=>
    bif Ty.beq tk kt&&tL C.P K kt&&Ty.sub tv et then some (S,[.chk (.ci .lss (.mlen (.o j)) (.con (.int mM))),.setO j (.put (.o j) ek ev)]) else Option.none
   |_,_,_=>Option.none
  else Option.none
 |_,_=>Option.none
def ID (x y:PE):PE:=.ci .leq (.llen (.app x y)) (.con (.int mM))
def MB:Ty→Ty→Bool
 |.slice e',e=>Ty.beq e'.unf e
 |.nils _,_=>true
 |_,_=>false
def B4 (C:Ctx)(S:St)(dst:Nat)(T:TypeId)(s x:Operand):ls:=
 match C.P.underlying T with
 |some (.slice E)=>
  (og C.P E).bind fun e=>
    match view C S [] x with
    |some (tx,ex)=>
     bif qe C.P E e&&MB tx e then
        match use C S [] s with
        |some (.nils _,_)=>some (mkObj S dst (.row E e),[.chk (ID (.con (.list [])) ex),.setO dst (.app (.con (.list [])) ex),.setR dst (.con .none)])
        |some _=>Option.none
        |Option.none=>
         match gj S [] s with
         |.obj j ver=>
          bif Nat.beq ver (S.ver j) then
             match S.o j with
             |.row E' e'=>
              bif Nat.beq E' E&&Ty.beq e' e then
                some ((S.newO j (.row E e)).setR dst (.obj j (S.ver j+1)),[.chk (ID (.o j) ex),.setO j (.app (.o j) ex),.setR dst (.con .none)])
              else Option.none
             |_=>Option.none
          else Option.none
         |_=>Option.none
     else Option.none
    |Option.none=>Option.none
 |_=>Option.none
theorem Ow {P:Program}{T:TypeId}{e:Ty}(h:qe P T e=true):∃inf z,P.info? T=some inf∧inf.size=e.size∧inf.bytes≤vV∧1≤e.size∧inf.zero=some z∧jd e z=true:=by
 unfold qe at h;split at h
 ·rename_i i hi;simp only[ar] at h;have h4:=h.2;unfold sC at h4;split at h4
  ·rename_i z hz;exact⟨i,z,hi,aL h.1.1.1,kO h.1.1.2,kO h.1.2,hz,h4⟩
  ·cases h4
 ·cases h
theorem W9 {e:Ty}{z:Value}(h:jd e z=true):z.cells.size=e.size:=by
 cases e with
 |agg ts=>
  cases z with
  |agg vs=>simp only[jd] at h;have:=(Xa ts vs.toList h).1;simpa [Value.cells,Ty.size] using this
  |_=>simp[jd] at h
 |_=>cases z<;>simp_all [jd,wZ,Value.cells,Ty.size]
theorem aoc {ρ:Env}{x y:PE}(h:((PE.ci .lss x y).ev ρ).b=true):(x.ev ρ).i<(y.ev ρ).i:=by
 simpa [PE.ev,D.b_bool,hZ] using h
theorem Zb {ρ:Env}{x y:PE}(h:((PE.ci .leq x y).ev ρ).b=true):(x.ev ρ).i≤(y.ev ρ).i:=by
 simpa [PE.ev,D.b_bool,hZ] using h
theorem avW {n:Nat}(h:(n:Int)<mM):n<4294967296:=by unfold mM at h;omega
theorem abU {n:Nat}(h:(n:Int)≤mM):n≤4294967296:=by unfold mM at h;omega
theorem St.setO_self {S:St}{j:Nat}{ob:Ob}(h:S.o j=ob):S.setO j ob=S:=by
 have:cf S.o j ob=S.o:=by
  funext i;rw[fS];split
  ·rename_i e;subst e;exact h.symm
  ·rfl
 cases S;simp only[St.setO] at this ⊢;rw[this]
section
variable {C:Ctx} {S:St} {ρ:Env} {σ:Im} {own:Nat→Option Nat} {hv:Nat→Value} {w0:World} {σ0:Base} {A:Nat→Prop} {a:Act} {w:World} {gs:List (Nat×Bool)} {Φ:aT} {dst:Nat}
theorem Inv.updO (h:Inv C S ρ σ own hv w0 σ0 A a w)(j:Nat)(ob:Ob)(d:D)(v:Value)(nb:Nat→Bool){w':World}(hw:Below w0.heap.size w w')
 (rG:∀k,k<w.heap.size→own k≠some j→w'.heap[k]?=w.heap[k]?) (dp:∀k,nb k=true→(own k=some j∨w.heap.size≤k)∧k<w'.heap.size)
 (cJ:cl C (S.newO j ob) (ρ.setO j d) σ (fM own j nb) (cf hv j v) w' w0.heap.size j ob) (mC:ob≠.tr:=by intro h;cases h):Inv C (S.newO j ob) (ρ.setO j d) σ (fM own j nb) (cf hv j v) w0 σ0 A a w':=by
 have aR:w0.heap.size≤w.heap.size:=h.below.size;have bX:∀k i,i≠j→own k=some i→fM own j nb k=some i:=by
  intro k i hi hk;have h1:=h.owns k i hk;have h2:nb k=false:=by
   cases hn:nb k with
   |false=>rfl
   |true=>
    rcases(dp k hn).1 with e|e
    ·rw[hk] at e;simp at e;exact absurd e hi
    ·omega
  simp[fM,h2,hk,hi]
 have aE:σ.ok w':=by
  refine⟨fun k o u hc=>?_,fun k es hc=>?_⟩
  ·have aB:own k≠some j:=fun e=>by rw[(h.owns k j e).2.2.1 o] at hc;cases hc
   rw[World.cell?_of_block (rG k (h.lt hc) aB)];exact h.ok.c k o u hc
  ·have aB:own k≠some j:=fun e=>by rw[(h.owns k j e).2.2.2] at hc;cases hc
   exact(h.ok.m k es hc).keep (rG k (h.ltm hc) aB)
 refine h.step (fun i=>i=j) rfl (.refl σ) aE (fun _ _ _ hx=>.inl hx) (fun _ _ hx=>.inl hx) hw ⟨fun i=>?_,fun i e=>?_⟩ (fun i hi=>⟨?_,?_,?_,fun k hk=>⟨bX k i hi hk,?_⟩⟩) (fun i hi=>?_) (fun k i hk=>?_) (fun _=>id) (fun t=>.inl ⟨rfl,rfl,rfl⟩) (fun _ _=>rfl) (fun k hk e=>rG k hk (by rw[e];simp)) (fun k i hk=>by
  unfold fM at hk;split at hk
  ·rename_i hn;rcases(dp k hn).1 with e|e
   ·exact .inl ⟨j,e⟩
   ·exact .inr e
  ·split at hk
   ·cases hk
   ·exact .inl ⟨i,hk⟩) (fun i hi=>by subst hi;simpa only[St.newO,aU] using mC)
 ·simp only[St.newO,fS];split<;>rename_i e
  ·subst e;omega
  ·omega
 ·simp only[St.newO,fS] at e;split at e
  ·rename_i e';subst e';omega
  ·rename_i aB;exact bz _ _ aB
 ·simp[St.newO,bz _ _ hi]
 ·simp[Env.setO,bz _ _ hi]
 ·exact bz _ _ hi
 ·exact rG k (h.owns k i hk).2.1 (by rw[hk];simpa using hi)
 ·subst hi;simp only[St.newO,aU];exact cJ
 ·unfold fM at hk;split at hk
  ·rename_i hn;obtain⟨g1,g2⟩:=dp k hn;rcases g1 with e|e
   ·obtain⟨f1,f2,f3,f4⟩:=h.owns k j e;exact⟨f1,g2,f3,f4⟩
   ·refine⟨by omega,g2,fun o=>?_,?_⟩
    ·cases hc:σ.c k o with
     |none=>rfl
     |some u=>have:=h.lt hc;omega
    ·cases hc:σ.m k with
     |none=>rfl
     |some u=>have:=h.ltm hc;omega
  ·split at hk
   ·cases hk
   ·obtain⟨g1,g2,g3,g4⟩:=h.owns k i hk;exact⟨g1,by have:=hw.size;omega,g3,g4⟩
theorem Inv.updB (h:Inv C S ρ σ own hv w0 σ0 A a w)(j:Nat)(ob:Ob)(d:D){w':World}(hw:Below w0.heap.size w w')
 (rG:∀k,k<w.heap.size→own k≠some j→w'.heap[k]?=w.heap[k]?)
 (cJ:cl C (S.setO j ob) (ρ.setO j d) σ own hv w' w0.heap.size j ob) (mC:ob≠.tr:=by intro h;cases h):Inv C (S.setO j ob) (ρ.setO j d) σ own hv w0 σ0 A a w':=by
 have aE:σ.ok w':=by
  refine⟨fun k o u hc=>?_,fun k es hc=>?_⟩
  ·have aB:own k≠some j:=fun e=>by rw[(h.owns k j e).2.2.1 o] at hc;cases hc
   rw[World.cell?_of_block (rG k (h.lt hc) aB)];exact h.ok.c k o u hc
  ·have aB:own k≠some j:=fun e=>by rw[(h.owns k j e).2.2.2] at hc;cases hc
   exact(h.ok.m k es hc).keep (rG k (h.ltm hc) aB)
 refine h.step (fun i=>i=j) rfl (.refl σ) aE (fun _ _ _ hx=>.inl hx) (fun _ _ hx=>.inl hx) hw (Compat.setO _ _ _ _) (fun i hi=>⟨by simp[St.setO,bz _ _ hi],by simp[Env.setO,bz _ _ hi],rfl,fun k hk=>⟨hk,rG k (h.owns k i hk).2.1 (by rw[hk];simpa using hi)⟩⟩) (fun i hi=>?_) (fun k i hk=>?_) (fun _=>id) (fun t=>.inl ⟨rfl,rfl,rfl⟩) (fun _ _=>rfl) (fun k hk e=>rG k hk (by rw[e];simp)) (fun k i hk=>.inl ⟨i,hk⟩) (fun i hi=>by subst hi;rw[St.setO_o];exact mC)
 ·subst hi;rw[St.setO_o];exact cJ
 ·obtain⟨g1,g2,g3,g4⟩:=h.owns k i hk;exact⟨g1,by have:=hw.size;omega,g3,g4⟩
theorem ZY {B:Nat}{w w':World}{row:Option Nat}(hg:w.grownBy w' row)(hB:B≤w.heap.size)(hr:∀k,row=some k→B≤k):Below B w w':=(Below.refl B w).grown hg hB hr
theorem ab9 {z:Array Value}{n i q:Nat}(hz:0<z.size)(hi:i<n)(hq:q<z.size):(madeCells z (n*z.size))[i*z.size+q]?=z[q]?:=by
 have ah:i*z.size+q<n*z.size:=by
  have:(i+1)*z.size≤n*z.size:=oz _ hi;rw[ou] at this;omega
 have hm:(i*z.size+q)%z.size=q:=by rw[At,aiX,Nat.mod_eq_of_lt hq]
 simp[madeCells,Array.getElem?_range,ah,hm,hq]
theorem ao8 (h:Inv C S ρ σ own hv w0 σ0 A a w)(hC:CtxOK C σ0)(ht:¬A dst)(ah:dst<a.tmps.size){T:TypeId}{l c:Operand}{r:St×List PI}(hr:B9 C S dst T l c=some r){o:Oper}(hd:o.dst=some dst)(ho:o.op=.makeSlice T l c):bZ C w0 σ0 Φ S ρ A a w o r:=by
 unfold B9 at hr;split at hr
 case h_2=>cases hr
 rename_i E k1 n k2 m hT hl hc;simp only[ax] at hr;obtain⟨e,he,hr⟩:=hr;cases hf:qe C.P E e<;>simp only[hf,cond_true,cond_false] at hr
 ·cases hr
 obtain⟨inf,z0,hi,hs,hb,h1,hz,lO⟩:=Ow hf;simp only[ax] at hr;obtain⟨z,hzt,hr⟩:=hr;cases cn:Ty.sub z.1 e<;>simp only[cn,cond_true,cond_false] at hr
 ·cases hr
 cases hr;obtain⟨n1,aW,bu,b1,b2⟩:=(cg h hC rfl hl).int_inv;obtain⟨n2,gO,dJ,b3,b4⟩:=(cg h hC rfl hc).int_inv;simp only at bu dJ;have Du:=((w6 (cap:=C.cap) (σ:=σ) hzt lO).1).sub cn;refine bZ.value hd fun ρ' ao=>?_;simp only[PI.runs,PI.run,ax] at ao;obtain⟨ρ1,g1,ρ2,g2,ao⟩:=ao;cases c1:((Ra n).ev ρ).b<;>simp only[c1,cond_true,cond_false] at g1
 ·cases g1
 cases g1;cases c2:((PE.ci BinOp.eql n m).ev ρ).b<;>simp only[c2,cond_true,cond_false] at g2
 ·cases g2
 cases g2;have aur:n1=n2:=by simpa [PE.ev,bu,dJ,D.i_int,D.b_bool,hZ] using c2
 subst aur;have hb:0≤n1∧n1≤mM:=by simpa [Ra,PE.ev,bu,D.i_int,D.b_bool,hZ,D.int] using c1
 obtain⟨nn,rfl⟩:=uI hb.1;have rL:nn≤4294967296:=by have:=hb.2;unfold mM at this;omega
 have rR:z0.cells.size=e.size:=W9 lO;obtain⟨w',r1,r2,r3⟩:=run_make_full (P:=C.P) w w0.heap.size T E inf z0 e.size hT hi hz hs k1 k2 nn (by
  have:inf.bytes*nn≤vV*4294967296:=Nat.mul_le_mul (by assumption) rL;unfold vV at this;omega) (by unfold maxLen;omega) h.below.size
 refine⟨.slice (some ⟨w.heap.size,0,none⟩) nn nn,w',by simp[execOp,ho,aW,gO,r1],?_⟩;obtain⟨ρ3,g3,ρ4,g4,g5⟩:=ao;cases g3;cases g4;cases g5;simp only[PE.ev,bu,D.i_int,uJ];have hlen:(List.replicate nn z.2).length=nn:=by simp
 refine h.mkObj ht ah (.row E e) _ _ (fun k=>Nat.beq k w.heap.size) (ZY r3 (bk _) (by simp)) (fun k hk=>?_) ⟨_,List.replicate nn z.2,by simp[Env.setO,aU],by rw[aU,hlen];exact r2,⟨fun _=>z0,fun i x hx=>?_,fun i j u hi hj=>?_⟩,fun k hk=>?_⟩
 ·have bt:k=w.heap.size:=aL hk;have:=(r2.lt _ rfl).2;subst bt;exact⟨bk _,this⟩
 ·have:=(fi.1 hx)
  obtain⟨q1,q2⟩:=this;simp at q2;subst q2;exact Du
 ·rw[hlen] at hi;have bS:j<z0.cells.size:=(fU.1 hj).1;rw[Ai,←rR];rw[ab9 (by omega) hi bS];exact hj
 ·rw[aU] at hk;simp[Value.ownBlock] at hk;simp[fM,hk]
theorem ma.push {arr:Array MapEntry}{clock:Nat}(h:ma arr clock)(k v:Value):ma (arr.push {key:=k,val:=v,born:=clock}) (clock+1):=by
 have key:∀(i:Nat) (e:MapEntry),(arr.push {key:=k,val:=v,born:=clock})[i]?=some e→(arr[i]?=some e∧e.born<clock)∨(i=arr.size∧e.born=clock):=by
  intro i e he;rw[Array.getElem?_push] at he;split at he
  ·rename_i hi;cases he;exact .inr ⟨hi,rfl⟩
  ·exact .inl ⟨he,h.1 i e he⟩
 refine⟨fun i e he=>?_,fun i j e f he hf hb=>?_⟩
 ·rcases key i e he with⟨_,h1⟩|⟨_,h1⟩<;>omega
 ·rcases key i e he with⟨h1,h2⟩|⟨h1,h2⟩<;>rcases key j f hf with⟨h3,h4⟩|⟨h3,h4⟩
  ·exact h.2 i j e f h1 h3 hb
  ·omega
  ·omega
  ·omega
theorem ma.modify {arr:Array MapEntry}{clock:Nat}(h:ma arr clock)(i0:Nat)(k v:Value):ma (arr.modify i0 fun e=>{e with key:=k,val:=v}) clock:=by
 have key:∀(i:Nat) (e:MapEntry),(arr.modify i0 fun e=>{e with key:=k,val:=v})[i]?=some e→∃e',arr[i]?=some e'∧e'.born=e.born:=by
  intro i e he;rw[Array.getElem?_modify] at he;split at he
  ·simp only[aH] at he;obtain⟨e',h1,rfl⟩:=he;exact⟨e',h1,rfl⟩
  ·exact⟨e,he,rfl⟩
 refine⟨fun i e he=>?_,fun i j e f he hf hb=>?_⟩
 ·obtain⟨e',h1,h2⟩:=key i e he;rw[←h2];exact h.1 i e' h1
 ·obtain⟨e',h1,h2⟩:=key i e he;obtain⟨f',h3,h4⟩:=key j f hf;exact h.2 i j e' f' h1 h3 (by rw[h2,h4,hb])
theorem Zq (h:Inv C S ρ σ own hv w0 σ0 A a w)(hC:CtxOK C σ0){T:TypeId}{m k v:Operand}{r:St×List PI}(hr:rq C S T m k v=some r){o:Oper}(hd:o.dst=none)(ho:o.op=.mapUpdate T m k v∨o.op=.insert T m k v):bZ C w0 σ0 Φ S ρ A a w o r:=by
 unfold rq at hr;split at hr
 case h_2=>cases hr
 rename_i K E j ver hT es;obtain⟨eD,_⟩:=wR h (gs:=[]) rfl m;rw[es] at eD;cases hb:Nat.beq ver (S.ver j)<;>simp only[hb,cond_true,cond_false] at hr
 ·cases hr
 have cr:=eD.2 (aL hb);have bq:=h.objs j;split at hr
 case h_2=>cases hr
 rename_i kt et tk ek tv ev eo hk vM;rw[eo] at bq;cases hc:(Ty.beq tk kt&&tL C.P K kt&&Ty.sub tv et)<;>simp only[hc,cond_true,cond_false] at hr
 ·cases hr
 cases hr;simp only[ar] at hc;obtain⟨⟨H8,CX⟩,cn⟩:=hc;obtain⟨g,arr,clock,ds,h1,h2,h3,h4,h5,⟨h6,qk⟩,h7⟩:=bq;have bt:=cg h hC rfl hk;rw[Ty.beq_eq _ _ H8] at bt;have hv':=(cg h hC rfl vM).sub cn;refine bZ.skip hd fun ρ' ao=>?_;simp only[PI.runs,PI.run,ax] at ao;obtain⟨ρ1,g1,ρ2,g2,g3⟩:=ao;cases c1:((PE.ci BinOp.lss (.mlen (.o j)) (.con (.int mM))).ev ρ).b<;>simp only[c1,cond_true,cond_false] at g1
 ·cases g1
 cases g1;cases g2;cases g3;have aue:ds.length<4294967296:=by
  have h8:=aoc c1;simp only[PE.ev,h4,D.m,D.i_int,D.int] at h8;exact avW h8
 have jm:(Instr.checkKey false 10000 K (a.eval k)).run C.P w=.ok () w:=Za (cap:=C.cap) (σ:=σ) CX bt;have kV:∃sN xF ds',(Instr.mapUpdate T (a.eval m) (a.eval k) (a.eval v)).run C.P w=.ok () {w with heap:=w.heap.setIfInBounds g (.map sN xF)}∧kC (ek.ev ρ) (ev.ev ρ) ds=ds'∧ds'.length=sN.size∧(ds'.length≤maxLen∧ma sN xF)∧
  ∀(i:Nat) (e:MapEntry) (p:D×D),sN[i]?=some e→ds'[i]?=some p→Rep C.cap σ kt e.key p.1∧Rep C.cap σ et e.val p.2:=by
  rcases run_findKey CX bt arr ds h5 h7 w with⟨f1,f2,f3⟩|⟨i,e,p,f1,f2,f3,f4,f5,f6⟩
  ·refine⟨arr.push {key:=a.eval k,val:=a.eval v,born:=clock},clock+1,ds++[(ek.ev ρ,ev.ev ρ)],?_,f3 _,by simp[h5],⟨by simp;unfold maxLen;omega,qk.push _ _⟩,fun q e p he hp=>?_⟩
   ·rw[cr,h1];simp[Instr.mapUpdate,run_underlying hT,getObj,Sem.run,h3,jm,f1,setObj]
   ·rw[Array.getElem?_push] at he;rw[lz] at hp;by_cases hq:q=arr.size
    ·subst hq;simp at he;rw[if_neg (by omega)] at hp;simp[h5] at hp;subst he;subst hp;exact⟨bt,hv'⟩
    ·rw[if_neg hq] at he;have Ip:q<arr.size:=(fU.1 he).1;rw[if_pos (by omega)] at hp;exact h7 q e p he hp
  ·refine⟨arr.modify i fun e=>{e with key:=a.eval k,val:=a.eval v},clock,ds.set i (ek.ev ρ,ev.ev ρ),?_,f5 _,by simp[h5],⟨by simp;exact h6,qk.modify _ _ _⟩,fun q e' p' he hp=>?_⟩
   ·rw[cr,h1];have cL:(Instr.keyThatStays e.key (a.eval k)).run C.P w=.ok (a.eval k) w:=by simp[Instr.keyThatStays,f6]
    simp[Instr.mapUpdate,run_underlying hT,getObj,Sem.run,h3,jm,f3,f1,cL,setObj]
   ·rw[Array.getElem?_modify] at he;rw[Aq] at hp;by_cases hq:i=q
    ·subst hq;simp only[if_true] at he hp;rw[f1] at he;simp at he;split at hp
     ·cases hp;subst he;exact⟨bt,hv'⟩
     ·cases hp
    ·rw[if_neg hq] at he hp;exact h7 q e' p' he hp
 obtain⟨sN,xF,ds',r1,r2,r3,r4,r5⟩:=kV;refine⟨{w with heap:=w.heap.setIfInBounds g (.map sN xF)},by rcases ho with ho|ho<;>simp[execOp,ho,r1],?_⟩;have hgl:g<w.heap.size:=(fU.1 h3).1;have hgB:w0.heap.size≤g:=(h.owns g j h2).1;have bO:(PE.put (.o j) ek ev).ev ρ=.map ds':=by simp only[PE.ev,h4,D.m,r2]
 rw[bO]
 have:=h.updB j (.mp kt et) (.map ds') (w':={w with heap:=w.heap.setIfInBounds g (.map sN xF)}) ⟨rfl,rfl,rfl,by simp,fun k hk=>by simp;rw[Xe (by omega)]⟩
  (fun k hk aB=>by simp;rw[Xe (fun e=>aB (by rw[←e];exact h2))])
  ⟨g,sN,xF,ds',h1,h2,by simp[hgl],by simp[Env.setO,aU],r3,r4,r5⟩
 have eS:S.setO j (.mp kt et)=S:=St.setO_self eo;rw[eS] at this;exact⟨_,_,_,this⟩
end
end Cx
namespace Cx
open Go Go.RowKit
theorem aEF {e:Ty}{z:Value}(h:jd e z=true):e.rowT=true∨e.one=true:=by
 cases e<;>first|exact .inl rfl|exact .inr rfl|(cases z<;>simp[jd,wZ] at h)
theorem Rep.cellsOne {cap:Nat→Option CSig}{σ:Im}{t:Ty}{v:Value}{d:D}(h:Rep cap σ t v d)(ht:t.rowT=true∨t.one=true){m:Nat}{u:Value}(hu:v.cells[m]?=some u):u.oneCell'=true:=by
 obtain⟨f1,f2,f3⟩:=h.flat ht;have ah:m<v.cells.size:=(fU.1 hu).1;rw[h.size] at ah;obtain⟨g1,g2⟩:=f3 m _ (bK (by omega:m<t.flat.length));have:=(g2.oneCell g1).2;rw[dO,hu] at this;exact this
theorem apu {cap:Nat→Option CSig}{σ:Im}{e:Ty}{cells:List Value}{xs:List D}(h:gC cap σ e cells xs)(hl:cells.length=xs.length*e.size)(gM:e.rowT=true∨e.one=true):∀u∈cells,u.oneCell'=true:=by
 obtain⟨vs,h1,h2⟩:=h;intro u hu;obtain⟨p,hp,rfl⟩:=jB hu;rw[hl] at hp;have hs:0<e.size:=Nat.pos_of_ne_zero fun e0=>by rw[e0] at hp;simp at hp
 have hi:p/e.size<xs.length:=(Nat.div_lt_iff_lt_mul hs).2 hp;have hq:p%e.size<e.size:=Nat.mod_lt _ hs;have bU:=h1 _ _ (bK hi);have aR:=bU.size;have oS:(vs (p/e.size)).cells[p%e.size]?=some (vs (p/e.size)).cells[p%e.size]:=fh (by omega);have:=h2 _ _ _ hi oS;rw[Nat.mul_comm,Nat.div_add_mod] at this;have h3:cells[p]=(vs (p/e.size)).cells[p%e.size]:=by
  have h4:=bK (show p<cells.length by omega);rw[h4] at this;exact Au this
 rw[h3];exact bU.cellsOne gM oS
theorem apt {cap:Nat→Option CSig}{σ:Im}{e:Ty}{c1 c2:List Value}{xs ys:List D}(h:gC cap σ e c1 xs)(k:gC cap σ e c2 ys)(hl:c1.length=xs.length*e.size):gC cap σ e (c1++c2) (xs++ys):=by
 obtain⟨vs,h1,h2⟩:=h;obtain⟨us,k1,k2⟩:=k;refine⟨fun i=>if i<xs.length then vs i else us (i-xs.length),fun i x hx=>?_,fun i j u hi hj=>?_⟩
 ·rw[lz] at hx;split at hx
  ·rename_i ah;simp only[ah,if_true];exact h1 i x hx
  ·rename_i ah;simp only[ah,if_false];exact k1 _ x hx
 ·by_cases ah:i<xs.length
  ·simp only[ah,if_true] at hj;have:=h2 i j u ah hj;rw[jA (fi.1 this).1];exact this
  ·simp only[ah,if_false] at hj;have df:i-xs.length<ys.length:=by simp at hi;omega
   have:=k2 _ j u df hj;have e1:i*e.size=c1.length+(i-xs.length)*e.size:=by rw[hl,←ou];congr 1;omega
   rw[kN (by omega)];rw[show i*e.size+j-c1.length=(i-xs.length)*e.size+j by omega];exact this
section
variable {C:Ctx} {S:St} {ρ:Env} {σ:Im} {own:Nat→Option Nat} {hv:Nat→Value} {w0:World} {σ0:Base} {A:Nat→Prop} {a:Act} {w:World} {gs:List (Nat×Bool)} {Φ:aT} {dst:Nat}
theorem aEh (h:Inv C S ρ σ own hv w0 σ0 A a w){B:Nat}{e f:Ty}{v:Value}{d:D}(hs:0<e.size)(gM:e.rowT=true∨e.one=true)(hf:f.unf=e)(Qq:Nh C σ w B (.slice f) v d):
 ∃ys,d=.list ys∧ys.length≤maxLen∧((v=.slice none 0 0∧ys=[])∨∃(ad:Addr) (c:Nat) (news:List Value),v=.slice (some ad) ys.length c∧news.length=ys.length*e.size∧
  (∀j u,news[j]?=some u→w.cell? (ad.add j)=some u)∧gC C.cap σ e news ys):=by
 rcases Qq with hr|⟨T,e',cells,xs,ht,hd,bX,iN⟩|⟨k,arr,clock,es,kt,et,ht,_⟩
 ·obtain⟨xs,hd,yf⟩:=hr.slice_inv;rw[←f.unf_size,hf] at yf;rcases yf with⟨⟨p0,aW⟩,rfl⟩|⟨k,o,c,aW,h1,h2,vs,h3,h4⟩
  ·cases p0 with
   |none=>exact⟨[],hd,by simp,.inl ⟨aW,rfl⟩⟩
   |some a0=>exact⟨[],hd,by simp,.inr ⟨a0,0,[],aW,by simp,fun j u hu=>by simp at hu,fun _=>undef,fun i x hx=>by simp at hx,fun i j u hi=>by simp at hi⟩⟩
  ·refine⟨xs,hd,by omega,.inr ⟨⟨k,o,none⟩,c,(List.range (xs.length*e.size)).map fun p=>(vs (p/e.size)).cells.getD (p%e.size) undef,aW,by simp,fun j u hu=>?_,vs,h3,fun i j u hi hj=>?_⟩⟩
   ·simp only[cU,aH] at hu;obtain⟨p,hp,rfl⟩:=hu;have fJ:j<xs.length*e.size:=by have:=(fi.1 hp).1;simpa using this
    rw[pR fJ] at hp;cases hp;have hi:j/e.size<xs.length:=(Nat.div_lt_iff_lt_mul hs).2 fJ;have hq:j%e.size<e.size:=Nat.mod_lt _ hs;have bU:=h3 _ _ (bK hi);have aR:=bU.size;have oS:(vs (j/e.size)).cells[j%e.size]?=some ((vs (j/e.size)).cells.getD (j%e.size) undef):=by
     rw[dO,fh (by omega)];rfl
    have:=h.cell (h4 _ _ _ hi oS);rw[sM]
    rwa [show o+j/e.size*e.size+j%e.size=o+j by rw[uO,Nat.mul_comm,Nat.div_add_mod]] at this
   ·have bU:=h3 _ _ (bK hi);have bS:j<e.size:=by rw[←bU.size];exact(fU.1 hj).1
    have ah:i*e.size+j<xs.length*e.size:=by
     have:(i+1)*e.size≤xs.length*e.size:=oz _ hi;rw[ou] at this;omega
    have e1:(i*e.size+j)/e.size=i:=by rw[Nat.mul_comm,Nat.mul_add_div hs,Nat.div_eq_of_lt bS];omega
    have e2:(i*e.size+j)%e.size=j:=by rw[At,aiX,Nat.mod_eq_of_lt bS]
    simp only[cU,pR ah,jF,e1,e2];rw[dO,hj];rfl
 ·cases ht;rw[Ty.unf_rol] at hf;obtain⟨b,c,aW,hm,_⟩:=wq bX;have iN:gC C.cap σ e cells xs:=by
   obtain⟨us,u1,u2⟩:=iN;refine⟨us,fun i x hx=>hf▸(u1 i x hx).unf,fun i j u hi hu=>?_⟩;rw[←hf,Ty.unf_size];exact u2 i j u hi hu
  have bX:w.ownsRow B T e.size v xs.length cells:=by rw[←hf,Ty.unf_size];exact bX
  rcases bX.2 with⟨e1,e2⟩|⟨g,cap,cur,e1,e2⟩
  ·have:xs=[]:=Xq e2;subst this;exact⟨[],hd,by simp,.inl ⟨e1,rfl⟩⟩
  ·exact⟨xs,hd,hm,.inr ⟨⟨g,0,none⟩,cap,cells,e1,bX.1,bX.cells (by rw[e1];rfl),iN⟩⟩
 ·cases ht
theorem aA9 {P:Program}{B:Nat}{T E ty:TypeId}{inf:TypeInfo}{z:Value}{size:Nat}{v x:Value}{n m:Nat}{xs news:List Value}(hT:P.underlying T=some (.slice E))(hi:P.info? E=some inf)(hz:inf.zero=some z)
 (hs:inf.size=size) (rR:z.cells.size=size) (aR:0<size) (oR:inf.bytes≤vV) (bX:w.ownsRow B E size v n xs) (hB:B≤w.heap.size) (db:n+m≤4294967296)
 (hx:(x=.slice none 0 0∧m=0∧news=[])∨∃(ad:Addr) (c:Nat),x=.slice (some ad) m c∧news.length=m*size∧(∀j u,news[j]?=some u→w.cell? (ad.add j)=some u)∧∀u∈news,u.oneCell'=true):
 ∃v' w',(Builtin.append_ #[T,T] ty #[v,x]).run P w=.ok v' w'∧w'.ownsRow B E size v' (n+m) (xs++news)∧w.grownBy w' v.ownBlock∧∀k,v'.ownBlock=some k→v.ownBlock=some k∨(w.heap.size≤k∧k<w'.heap.size):=by
 rcases hx with⟨rfl,rfl,rfl⟩|⟨ad,c,rfl,hl,Ig,h1⟩
 ·refine⟨v,w,run_append_owned_none w B T ty E inf size hT hi v n xs bX,by simpa using bX,⟨rfl,rfl,rfl,bk _,fun _ _ _=>rfl⟩,fun k hk=>.inl hk⟩
 ·have O9:(n+m)*inf.bytes≤140737488355328:=by
   have:(n+m)*inf.bytes≤4294967296*vV:=Nat.mul_le_mul db oR;unfold vV at this;omega
  obtain⟨v',w',r1,r2,r3,r4⟩:=run_append_own (P:=P) w B T ty E inf z size inf.bytes hT hi hz hs rfl rR aR v n xs bX ad m c news hl Ig h1 (by unfold maxLen;omega) O9 hB;refine⟨v',w',r1,r2,r3,fun k hk=>?_⟩;have ah:=(r2.lt k hk).2;subst hs;rcases bX.2 with⟨rfl,rfl⟩|⟨g,cap,cur,rfl,hbg,hg,dq,mw,eT,Dn⟩
  ·by_cases hm:m=0
   ·subst hm;have:=r4.2 ⟨rfl,rfl⟩;subst this;simp[Value.ownBlock] at hk
   ·have hr:=run_append_nil (P:=P) w T ty E inf z hT hi hz ad m c news hl Ig (by omega) (by omega) (by have hb:=O9;simp only[lC] at hb;omega);rw[hr] at r1;cases r1;simp[Value.ownBlock] at hk;subst hk;exact .inr ⟨bk _,ah⟩
  ·by_cases abf:n+m≤cap
   ·have HY:n*inf.size+news.length≤cur.size:=by rw[hl,eT,←ou];exact oz _ abf
    have hr:=run_append_room (P:=P) w T ty E inf hT hi g n cap cur hg ad m c news hl Ig h1 abf HY;rw[hr] at r1;cases r1;exact .inl hk
   ·have hr:=run_append_grow (P:=P) w T ty E inf z hT hi hz ⟨g,0,none⟩ n cap xs bX.1 (bX.cells (g:=g) rfl) ad m c news hl Ig (by omega) (by omega) (growslice_fits (by omega) O9);rw[hr] at r1;cases r1;simp[Value.ownBlock] at hk;subst hk;exact .inr ⟨bk _,ah⟩
theorem aoO (h:Inv C S ρ σ own hv w0 σ0 A a w)(hC:CtxOK C σ0)(ht:¬A dst)(ah:dst<a.tmps.size){T:TypeId}{s x:Operand}{r:St×List PI}(hr:B4 C S dst T s x=some r){o:Oper}(hd:o.dst=some dst)
 (ho:o.op=.call {callee:=.builtin .append,args:=#[s,x],argTypes:=#[T,T]}):bZ C w0 σ0 Φ S ρ A a w o r:=by
 unfold B4 at hr;split at hr
 case h_2=>cases hr
 rename_i E hT;simp only[ax] at hr;obtain⟨e,he,hr⟩:=hr;split at hr
 case h_2=>cases hr
 rename_i tx ex Qq;have hv':=W3 h hC (gs:=[]) rfl Qq;obtain⟨cs,ao⟩:=Ur (C:=C) (w:=w) (a:=a) ho;cases hc:(qe C.P E e&&MB tx e)<;>simp only[hc,cond_true,cond_false] at hr
 ·cases hr
 simp only[ar] at hc;obtain⟨inf,z,hi,hs,oR,h1,hz,lO⟩:=Ow hc.1;have rR:=W9 lO;have gM:=aEF lO;have Qr:∃f:Ty,f.unf=e∧Nh C σ w w0.heap.size (.slice f) (a.eval x) (ex.ev ρ):=by
  have cL:=hc.2;unfold MB at cL;split at cL
  ·exact⟨_,Ty.beq_eq _ _ cL,hv'⟩
  ·refine⟨e,Ty.unf_ro gM,?_⟩;rcases hv' with hr|⟨_,_,_,_,ht,_⟩|⟨_,_,_,_,_,_,ht,_⟩
   ·exact .inl (hr.sub (by simp[Ty.sub]))
   ·cases ht
   ·cases ht
  ·cases cL
 obtain⟨fv,eE,Qr⟩:=Qr;obtain⟨ys,HW,jT,avb⟩:=aEh h h1 gM eE Qr;have hx:∃news,gC C.cap σ e news ys∧news.length=ys.length*e.size∧((a.eval x=.slice none 0 0∧ys.length=0∧news=[])∨∃(ad:Addr) (c:Nat),a.eval x=.slice (some ad) ys.length c∧news.length=ys.length*e.size∧(∀j u,news[j]?=some u→w.cell? (ad.add j)=some u)∧∀u∈news,u.oneCell'=true):=by
  rcases avb with⟨e1,rfl⟩|⟨ad,c,news,e1,e2,e3,e4⟩
  ·exact⟨[],⟨fun _=>undef,by simp,by simp⟩,by simp,.inl ⟨e1,rfl,rfl⟩⟩
  ·exact⟨news,e4,e2,.inr ⟨ad,c,e1,e2,e3,apu e4 e2 gM⟩⟩
 obtain⟨news,aB,hnl,hx⟩:=hx;have main:∀(j:Nat) (v:Value) (xs:List D) (cells:List Value),a.eval s=v→w.ownsRow w0.heap.size E e.size v xs.length cells→gC C.cap σ e cells xs→xs.length+ys.length≤4294967296→
  (∀k,v.ownBlock=some k→own k=some j)→
  ∃v' w',(execOp a.eval o).run C.P w=.ok (.value v') w'∧Good C w0 σ0 ((S.newO j (.row E e)).setR dst (.obj j (S.ver j+1))) ((ρ.setO j (.list (xs++ys))).setR dst .none) (fun u=>A u∨u=dst) (a.put (some dst) v') w':=by
  intro j v xs cells Qg bX iN hlen cJ;obtain⟨v',w',r1,r2,r3,r4⟩:=aA9 (P:=C.P) (ty:=o.type) hT hi hz hs rR h1 oR bX h.below.size hlen hx;refine⟨v',w',by rw[ao];simp[builtin,Qg,r1],?_⟩
  have avs:=h.updO j (.row E e) (.list (xs++ys)) v' (fun k=>decide (v'.ownBlock=some k)) (w':=w') (ZY r3 h.below.size (fun k hk=>(h.owns k j (cJ k hk)).1)) (fun k hk aB=>r3.block k hk (fun e=>aB (cJ k e.symm))) (fun k hk=>by
        have bt:v'.ownBlock=some k:=by simpa using hk
        rcases r4 k bt with e|e
        ·exact⟨.inl (cJ k e),(r2.lt k bt).2⟩
        ·exact⟨.inr e.1,e.2⟩)
   ⟨cells++news,xs++ys,by simp[Env.setO,aU],by rw[aU,j4];exact r2,apt iN aB bX.1,fun k hk=>by rw[aU] at hk;simp[fM,hk]⟩
  have h2:=avs.setObj ht (j:=j) (v:=v') (aU _ _ _) ah;have e:(S.newO j (.row E e)).ver j=S.ver j+1:=aU _ _ _;rw[e] at h2;exact⟨_,_,_,h2⟩
 split at hr
 ·rename_i e0 pe0 hu;cases hr;refine bZ.value hd fun ρ' qt=>?_;have Qh:=cg h hC rfl hu;have Qg:a.eval s=.slice none 0 0:=by
   generalize a.eval s=v at Qh;generalize pe0.ev ρ=d at Qh;cases Qh;rfl
  simp only[PI.runs,PI.run,ax] at qt;obtain⟨ρ1,g1,ρ2,g2,ρ3,g3,g4⟩:=qt;cases c1:((ID (.con (.list [])) ex).ev ρ).b<;>simp only[c1,cond_true,cond_false] at g1
  ·cases g1
  cases g1;cases g2;cases g3;cases g4;have hlen:=Zb c1;simp only[PE.ev,D.l_list,HW,sH,D.i_int,D.int] at hlen;have:=main dst (.slice none 0 0) [] [] Qg (World.ownsRow_nil _ _ _ _) ⟨fun _=>undef,by simp,by simp⟩ (by simpa using abU hlen) (by simp[Value.ownBlock]);simpa [PE.ev,D.l_list,HW,mkObj] using this
 ·cases hr
 ·obtain⟨eD,_⟩:=wR h (gs:=[]) rfl s;split at hr
  case h_2=>cases hr
  rename_i j ver es;rw[es] at eD;cases hb:Nat.beq ver (S.ver j)<;>simp only[hb,cond_true,cond_false] at hr
  ·cases hr
  have cr:=eD.2 (aL hb);have bq:=h.objs j;split at hr
  case h_2=>cases hr
  rename_i E' e' eo;rw[eo] at bq;cases jn:(Nat.beq E' E&&Ty.beq e' e)<;>simp only[jn,cond_true,cond_false] at hr
  ·cases hr
  cases hr;simp only[ar] at jn;have e1:=aL jn.1;have e2:=Ty.beq_eq _ _ jn.2;subst e1;subst e2;obtain⟨cells,xs,k1,k2,k3,k4⟩:=bq;refine bZ.value hd fun ρ' qt=>?_;simp only[PI.runs,PI.run,ax] at qt;obtain⟨ρ1,g1,ρ2,g2,ρ3,g3,g4⟩:=qt;cases c1:((ID (.o j) ex).ev ρ).b<;>simp only[c1,cond_true,cond_false] at g1
  ·cases g1
  cases g1;cases g2;cases g3;cases g4;have hlen:=Zb c1;simp only[PE.ev,D.l_list,HW,k1,D.i_int,D.int] at hlen;have:=main j (hv j) xs cells cr k2 k3 (by have:=abU hlen;simpa using this) k4;simpa [PE.ev,D.l_list,HW,k1] using this
end
end Cx
namespace Cx
open Go Go.RowKit
theorem Mt {P:Program}{a:Act}{w:World}{o:Oper}{T:TypeId}{x v:Operand}{inf:TypeInfo}{k off:Nat}{cs:Array Value}{E:TypeId}(ho:o.op=.store T x v)(hi:P.info? T=some inf)(hx:a.eval x=.pointer (some ⟨k,off,none⟩))
 (hs:(a.eval v).cells.size=inf.size) (dY:∀u∈(a.eval v).cells.toList,u.oneCell'=true) (hb:w.heap[k]?=some (.cells cs E (0,0))) (hle:off+inf.size≤cs.size):
 (execOp a.eval o).run P w=.ok .skip (w.setRow k (cs.toList.take off++(a.eval v).cells.toList++cs.toList.drop (off+inf.size)).toArray):=by
 have:=run_storeCells_at P k off E (a.eval v).cells.toList 0 cs w hb (by simp[hs];exact hle) dY;simp only[ox,Aj,hs] at this;simp[execOp,ho,Instr.storeAt,hx,Instr.sureAddr,storeVar,Go.sizeOf,run_typeInfo w hi,hs,this]
theorem ahs {w:World}{B k:Nat}{cs:Array Value}(hB:B≤k):Below B w (w.setRow k cs)∧∀i,i≠k→(w.setRow k cs).heap[i]?=w.heap[i]?:=
 ⟨⟨rfl,rfl,rfl,by simp[World.setRow],fun i hi=>setRow_other w k i cs (by omega)⟩,fun i hi=>setRow_other w k i cs hi⟩
theorem HA {α:Type}(xs ys:List α)(off:Nat)(d:α)(hle:off+ys.length≤xs.length)(i:Nat):(xs.take off++ys++xs.drop (off+ys.length)).getD i d=if off≤i∧i<off+ys.length then ys.getD (i-off) d else xs.getD i d:=by
 simp only[aS,pQ];rw[lz,ei,oy (by omega)];split
 ·rename_i h;rw[if_neg (by omega),gD,if_pos h]
 ·rename_i h;rw[lz];split
  ·rename_i h2;rw[if_pos (by omega)]
  ·rename_i h2;rw[if_neg (by omega),gX];congr 2;omega
section
variable {C:Ctx} {S:St} {ρ:Env} {σ:Im} {own:Nat→Option Nat} {hv:Nat→Value} {w0:World} {σ0:Base} {A:Nat→Prop} {a:Act} {w:World} {gs:List (Nat×Bool)} {Φ:aT} {dst:Nat}
theorem Inv.storeBox (h:Inv C S ρ σ own hv w0 σ0 A a w){j k off:Nat}{ag:Bool}{shs news:List Sh}{cs:Array Value}{E:TypeId}{ds dn:List D}{vs:List Value}(eo:S.o j=.box ag shs)
 (h1:hv j=.pointer (some ⟨k,0,none⟩)) (h2:own k=some j) (h3:w.heap[k]?=some (.cells cs E (0,0))) (h4:cs.size=shs.length) (h5:ρ.o j=.agg ds) (h6:ds.length=shs.length)
 (h7:∀i s,shs[i]?=some s→(∀gs s',s≠.opt gs s')∧aQ C S ρ σ hv s (cs.getD i undef) (ds.getD i .none))
 (l1:news.length=vs.length) (l2:dn.length=vs.length) (hle:off+vs.length≤shs.length)
 (kU:∀i s,news[i]?=some s→(∀gs s',s≠.opt gs s')∧aQ C S ρ σ hv s (vs.getD i undef) (dn.getD i .none)):
 Inv C (S.setO j (.box ag (shs.take off++news++shs.drop (off+vs.length)))) (ρ.setO j (.agg (eh ds off dn))) σ own hv w0 σ0 A a (w.setRow k (cs.toList.take off++vs++cs.toList.drop (off+vs.length)).toArray):=by
 have hkB:w0.heap.size≤k:=(h.owns k j h2).1;obtain⟨b1,b2⟩:=ahs (w:=w) (B:=w0.heap.size) (k:=k) (cs:=(cs.toList.take off++vs++cs.toList.drop (off+vs.length)).toArray) hkB;refine h.updB j _ _ b1 (fun i hi aB=>b2 i fun e=>aB (e▸h2)) ⟨k,_,E,eh ds off dn,h1,h2,setRow_heap w k cs _ E _ h3,?_,by simp[Env.setO,aU],?_,fun i s hi=>?_⟩
 ·simp[l1];omega
 ·simp[eh,l2,l1];omega
 ·have eT:(cs.toList.take off++vs++cs.toList.drop (off+vs.length)).toArray.getD i undef=if off≤i∧i<off+vs.length then vs.getD (i-off) undef else cs.getD i undef:=by
   have e0:∀l:List Value,l.toArray.getD i undef=l.getD i undef:=fun l=>by simp[dO,aS]
   rw[e0,HA cs.toList vs off undef (by simp;omega),xU cs i]
  have vp:(eh ds off dn).getD i .none=if off≤i∧i<off+vs.length then dn.getD (i-off) .none else ds.getD i .none:=by
   rw[eh,HA ds dn off .none (by omega),l2]
  rw[eT,vp];have aaZ:∀s v d,(∀gs s',s≠.opt gs s')→aQ C S ρ σ hv s v d→aQ C (S.setO j (.box ag (shs.take off++news++shs.drop (off+vs.length)))) (ρ.setO j (.agg (eh ds off dn))) σ hv s v d:=
   fun s v d hn hk=>aQ.mono' (.refl σ) (Compat.setO _ _ _ _) hn hk
  have kq:(shs.take off++news++shs.drop (off+vs.length))[i]?=if off≤i∧i<off+vs.length then news[i-off]? else shs[i]?:=by
   rw[pQ,lz,ei,oy (by omega)];split
   ·rename_i h;rw[if_neg (by omega),gD,if_pos h]
   ·rename_i h;rw[lz,l1];split
    ·rename_i h2;rw[if_pos (by omega)]
    ·rename_i h2;rw[if_neg (by omega),gX];congr 1;omega
  rw[kq] at hi;split
  ·rename_i hc;rw[if_pos hc] at hi;obtain⟨g1,g2⟩:=kU _ s hi;exact⟨g1,aaZ _ _ _ g1 g2⟩
  ·rename_i hc;rw[if_neg hc] at hi;obtain⟨g1,g2⟩:=h7 _ s hi;exact⟨g1,aaZ _ _ _ g1 g2⟩
theorem aA6 (h:Inv C S ρ σ own hv w0 σ0 A a w){j:Nat}(hr:mJ (S.o j)=true):(hv j).cells=#[hv j]∧(hv j).oneCell'=true:=by
 have bq:=h.objs j;cases cJ:S.o j with
 |row T e=>
  rw[cJ] at bq;obtain⟨cells,xs,h1,h2,h3,h4⟩:=bq;obtain⟨b,c,e1,_⟩:=wq h2;rw[e1];exact⟨rfl,rfl⟩
 |mp kt et=>
  rw[cJ] at bq;obtain⟨k0,arr,clock,es,h1,_⟩:=bq;rw[h1];exact⟨rfl,rfl⟩
 |_=>rw[cJ] at hr;simp[mJ] at hr
theorem Inv.storeRow (h:Inv C S ρ σ own hv w0 σ0 A a w){j k n c i p:Nat}{T:TypeId}{e:Ty}{cells vs:List Value}{xs:List D}{v':Value}{d':D}(eo:S.o j=.row T e)(eF:hv j=.slice (some ⟨k,0,none⟩) n c)
 (h1:ρ.o j=.list xs) (h2:w.ownsRow w0.heap.size T e.size (hv j) xs.length cells) (h3:gC C.cap σ e cells xs) (h4:∀k,(hv j).ownBlock=some k→own k=some j) (hi:i<xs.length)
 (Db:i*e.size≤p) (eX:p+vs.length≤i*e.size+e.size) (hr:Rep C.cap σ e v' d')
 (hv':∀q u,v'.cells[q]?=some u→(cells.take p++vs++cells.drop (p+vs.length))[i*e.size+q]?=some u):
 ∃cur,w.heap[k]?=some (.cells cur T (0,0))∧p+vs.length≤cur.size∧Inv C S (ρ.setO j (.list (xs.set i d'))) σ own hv w0 σ0 A a (w.setRow k (cur.toList.take p++vs++cur.toList.drop (p+vs.length)).toArray):=by
 have bn:=h2.1;rcases h2.2 with⟨e0,e1⟩|⟨g,cap,cur,e1,e2,e3,e4,e5,e6,e7⟩
 ·omega
 rw[eF] at e1;cases e1;have at5:i*e.size+e.size≤xs.length*e.size:=by
  have:(i+1)*e.size≤xs.length*e.size:=oz _ hi;rw[ou] at this;omega
 have aIR:xs.length*e.size≤c*e.size:=oz _ e4;have auP:p+vs.length≤cur.size:=by omega
 refine⟨cur,e3,auP,?_⟩;have bX:own k=some j:=h4 k (by rw[eF];rfl);obtain⟨b1,b2⟩:=ahs (w:=w) (B:=w0.heap.size) (k:=k) (cs:=(cur.toList.take p++vs++cur.toList.drop (p+vs.length)).toArray) e2;have Dn:(cur.toList.take p++vs++cur.toList.drop (p+vs.length)).take (xs.length*e.size)=cells.take p++vs++cells.drop (p+vs.length):=by
  rw[←e7];apply Xr;intro q;simp only[pQ,gD,lz,ei,gX,Aj];by_cases hq:q<xs.length*e.size
  ·rw[if_pos hq];by_cases hq1:q<p
   ·simp[hq1,Nat.lt_min,show q<cur.size by omega,hq]
   ·by_cases iS:q-p<vs.length
    ·rw[if_neg (by omega),oy (by omega),if_pos iS,if_neg (by omega),oy (by omega),if_pos iS]
    ·rw[if_neg (by omega),oy (by omega),if_neg iS,if_neg (by omega),oy (by omega),if_neg iS,if_pos (by omega)]
  ·rw[if_neg hq];have:¬q<p:=by omega
   rw[if_neg (by omega),oy (by omega),if_neg (by omega),if_neg (by omega)]
 have:=h.updB j (.row T e) (.list (xs.set i d')) b1 (fun q hq aB=>b2 q fun e=>aB (e▸bX))
  ⟨cells.take p++vs++cells.drop (p+vs.length),xs.set i d',by simp[Env.setO,aU],⟨by simp;omega,.inr ⟨k,c,_,by rw[eF];simp,e2,setRow_heap w k cur _ T _ e3,by simpa using e4,e5,by simp;omega,by simpa using Dn⟩⟩,?_,h4⟩
 ·rw[St.setO_self eo] at this;exact this
 ·obtain⟨us,u1,u2⟩:=h3;refine⟨fun q=>if q=i then v' else us q,fun q x hx=>?_,fun q m u hq hm=>?_⟩
  ·rw[Aq] at hx;by_cases yy:i=q
   ·subst yy;simp only[if_true] at hx ⊢;rw[if_pos hi] at hx;cases hx;exact hr
   ·rw[if_neg yy] at hx;simp only[show ¬q=i from fun e=>yy e.symm,if_false];exact u1 q x hx
  ·by_cases yy:q=i
   ·subst yy;simp only[if_true] at hm;exact hv' m u hm
   ·simp only[yy,if_false] at hm;simp only[List.length_set] at hq;have h9:=u2 q m u hq hm;have aI5:m<e.size:=by rw[←(u1 q _ (bK hq)).size];exact(fU.1 hm).1
    have jP:q*e.size+m<p∨p+vs.length≤q*e.size+m:=by
     rcases Na q i with ah|eV
     ·left;have:(q+1)*e.size≤i*e.size:=oz _ ah;rw[ou] at this;omega
     ·right;have:(i+1)*e.size≤q*e.size:=oz _ (by omega);rw[ou] at this;omega
    rw[pQ,lz,ei,oy (by omega)];rcases jP with ho|ho
    ·rw[if_pos ho,gD,if_pos ho];exact h9
    ·rw[if_neg (by omega),kN (by omega),gX];rw[show p+vs.length+(q*e.size+m-p-vs.length)=q*e.size+m by omega];exact h9
theorem apg (h:Inv C S ρ σ own hv w0 σ0 A a w)(hC:CtxOK C σ0){T:TypeId}{x v:Operand}{r:St×List PI}(hr:sS C S T x v=some r){o:Oper}(hd:o.dst=none)(ho:o.op=.store T x v):bZ C w0 σ0 Φ S ρ A a w o r:=by
 unfold sS at hr;split at hr
 case h_2=>cases hr
 rename_i inf hi;obtain⟨eD,_⟩:=wR h (gs:=[]) rfl x;split at hr
 case h_3=>cases hr
 ·rename_i j ver off es;rw[es] at eD;cases hb:Nat.beq ver (S.ver j)<;>simp only[hb,cond_true,cond_false] at hr
  ·cases hr
  obtain⟨k,eF,fH⟩:=eD.2 (aL hb);have bq:=h.objs j;split at hr
  case h_2=>cases hr
  rename_i ag shs eo;rw[eo] at bq;obtain⟨k',cs,E,ds,h1,h2,h3,h4,h5,h6,h7⟩:=bq;have cA:=h1;rw[eF] at h1;cases h1;split at hr
  ·rename_i t e hu;have hv':=cg h hC rfl hu;cases hc:(Nat.beq inf.size t.size&&(t.rowT||t.one)&&Nat.ble (off+t.size) shs.length)<;>simp only[hc,cond_true,cond_false] at hr
   ·cases hr
   cases hr;simp only[ar,gB] at hc;obtain⟨⟨aR,gM⟩,hle⟩:=hc;have aR:=aL aR;have hle:=kO hle;obtain⟨f1,f2,f3⟩:=hv'.flat gM;have gP:=hv'.size;refine bZ.skip hd fun ρ' ao=>?_;rw[sv ao]
   refine⟨_,Mt ho hi fH (by rw[gP,aR]) (fun u hu=>by
        obtain⟨m,hm,rfl⟩:=jB hu;exact hv'.cellsOne gM (m:=m) (by simp at hm ⊢)) h3 (by omega),?_⟩
   have cL:=h.storeBox (off:=off) (news:=t.flat.map .dat) (vs:=(a.eval v).cells.toList) (dn:=(e.ev ρ).cells) eo cA h2 h3 h4 h5 h6 h7 (by simp[f1,gP]) (by simp[f2,gP]) (by simp[gP];omega) (fun i s hi=>by
        simp only[cU,aH] at hi;obtain⟨ti,Qj,rfl⟩:=hi;refine⟨fun _ _ e=>(by cases e),?_⟩;rw[xU];exact(f3 i ti Qj).2)
   have e1:(a.eval v).cells.toList.length=t.size:=by simp[gP]
   rw[e1] at cL;rw[aR];refine⟨σ,own,hv,?_⟩;simpa [PE.ev,h5,D.cells] using cL
  ·split at hr
   case h_2=>cases hr
   rename_i j' oh fY;obtain⟨Qc,_⟩:=wR h (gs:=[]) rfl v;rw[fY] at Qc;cases hc:(Nat.beq oh (S.ver j')&&mJ (S.o j')&&Nat.beq inf.size 1&&Nat.blt off shs.length)<;>simp only[hc,cond_true,cond_false] at hr
   ·cases hr
   cases hr;simp only[ar] at hc;obtain⟨⟨⟨avx,gd⟩,aR⟩,ah⟩:=hc;have aR:=aL aR;have ah:off<shs.length:=by simpa [iy] using ah
   have cr:=Qc.2 (aL avx);obtain⟨c1,c2⟩:=aA6 h gd;have kf:(a.eval v).cells=#[a.eval v]:=by rw[cr];exact c1
   refine bZ.skip hd fun ρ' ao=>?_;rw[sv ao];refine⟨_,Mt ho hi fH (by rw[kf,aR];rfl) (fun u hu=>by rw[kf] at hu;simp at hu;subst hu;rw[cr];exact c2) h3 (by omega),?_⟩
   have cL:=h.storeBox (off:=off) (news:=[.obj j' oh]) (vs:=[a.eval v]) (dn:=[.none]) eo cA h2 h3 h4 h5 h6 h7 rfl rfl (by simp;omega) (fun i s hi=>by
        match i,hi with
        |0,hi=>simp at hi;subst hi;exact⟨fun _ _ e=>(by cases e),Qc.1,fun _=>by simpa using cr⟩
        |i+1,hi=>simp at hi)
   rw[kf,aR];have e2:shs.take off++[Sh.obj j' oh]++shs.drop (off+[a.eval v].length)=shs.set off (.obj j' oh):=by
        rw[List.set_eq_take_append_cons_drop,if_pos ah];simp
   rw[e2] at cL;refine⟨σ,own,hv,?_⟩;simpa [PE.ev,h5,D.cells] using cL
 ·rename_i j ver size off es;rw[es] at eD;cases hb:Nat.beq ver (S.ver j)<;>simp only[hb,cond_true,cond_false] at hr
  ·cases hr
  obtain⟨k,n,c,ik,i,eF,tg,bJ,fH⟩:=eD.2 (aL hb);have bq:=h.objs j;split at hr
  ·rename_i T' ts t e eo hu;rw[eo] at bq;have hv':=cg h hC rfl hu;cases hc:(Nat.beq inf.size t.size&&(t.rowT||t.one)&&Nat.beq size ts.length&&Nat.ble (off+t.size) ts.length&&Ty.subs t.flat ((ts.drop off).take t.size))<;>simp only[hc,cond_true,cond_false] at hr
   ·cases hr
   cases hr;simp only[ar,gB] at hc;obtain⟨⟨⟨⟨aR,gM⟩,vI⟩,hle⟩,cn⟩:=hc;have aR:=aL aR;have vI:=aL vI;have hle:=kO hle;obtain⟨f1,f2,f3⟩:=hv'.flat gM;have gP:=hv'.size;have f1:t.flat.length=t.size:=f1;have f2:(e.ev ρ).cells.length=t.size:=f2;have gP:(a.eval v).cells.size=t.size:=gP;obtain⟨cells,xs,k1,k2,k3,k4⟩:=bq;obtain⟨b,c',e1,C2,tq⟩:=wq k2;rw[eF] at e1;cases e1;obtain⟨us,u1,u2⟩:=k3;obtain⟨y,hy⟩:∃y,xs[i]?=some y:=⟨_,bK bJ⟩
   obtain⟨os,ds,yD,hd0,l1,l2,aV,dY⟩:=(u1 i y hy).agg_inv;have Dq:(a.eval v).cells.toList.length=t.size:=by simp[gP]
   have kU:Rep C.cap σ (.agg ts) (.agg (os.take off++(a.eval v).cells.toList++os.drop (off+(a.eval v).cells.toList.length)).toArray) (.agg (eh ds off (e.ev ρ).cells)):=by
        refine .agg _ _ _ (by simp[gP];omega) (by simp[eh,f2];omega) (fun m tm hm=>?_) dY;rw[HA os _ off undef (by rw[Dq];omega),eh,HA ds _ off .none (by rw[f2];omega),Dq,f2];split
        ·rename_i hc;have avf:=Ty.subs_get _ _ cn (m-off) tm (by
          rw[gD,if_pos (by omega),gX,show off+(m-off)=m by omega];exact hm)
         obtain⟨tf,htf,cL⟩:=avf;rw[xU];exact((f3 _ tf htf).2).sub cL
        ·exact aV m tm hm
   have bn:=k2.1;have at5:i*(Ty.agg ts).size+(Ty.agg ts).size≤xs.length*(Ty.agg ts).size:=by
        have:(i+1)*(Ty.agg ts).size≤xs.length*(Ty.agg ts).size:=oz _ bJ;rw[ou] at this;omega
   have abk:(Ty.agg ts).size=ts.length:=rfl
   obtain⟨cur,q1,q2,q3⟩:=h.storeRow (i:=i) (p:=i*(Ty.agg ts).size+off) (vs:=(a.eval v).cells.toList) eo eF k1 k2 ⟨us,u1,u2⟩ k4 bJ (by omega) (by rw[Dq];omega) kU (fun q u hq=>by
        have dA:(os.take off++(a.eval v).cells.toList++os.drop (off+(a.eval v).cells.toList.length))[q]?=some u:=by simpa [Value.cells] using hq
        have aJb:q<ts.length:=by have:=(fi.1 dA).1;simp[gP] at this;omega
        rw[pQ,lz,ei,oy (by omega)] at dA;rw[pQ,lz,ei,oy (by omega)];by_cases qq:q<off
        ·rw[if_pos qq,gD,if_pos qq] at dA;rw[if_pos (by omega),gD,if_pos (by omega)];exact u2 i q u bJ (by rw[yD];simpa [Value.cells] using dA)
        ·rw[if_neg qq,lz] at dA;rw[if_neg (by omega),lz];rw[show i*(Ty.agg ts).size+q-(i*(Ty.agg ts).size+off)=q-off by omega];by_cases P7:q-off<(a.eval v).cells.toList.length
         ·rw[if_pos P7] at dA ⊢;exact dA
         ·rw[if_neg P7,gX] at dA;rw[if_neg P7,gX];rw[show off+(a.eval v).cells.toList.length+(q-off-(a.eval v).cells.toList.length)=q by omega] at dA;rw[show i*(Ty.agg ts).size+off+(a.eval v).cells.toList.length+(q-off-(a.eval v).cells.toList.length)=i*(Ty.agg ts).size+q by omega];exact u2 i q u bJ (by rw[yD];simpa [Value.cells] using dA))
   refine bZ.skip hd fun ρ' ao=>?_;rw[sv ao]
   refine⟨_,Mt ho hi (cs:=cur) (by rw[fH,vI]) (by rw[gP,aR]) (fun u hu=>by
        obtain⟨m,hm,rfl⟩:=jB hu;exact hv'.cellsOne gM (m:=m) (by simp at hm ⊢)) q1 (by rw[Dq] at q2;rw[aR,←abk];exact q2),σ,own,hv,?_⟩
   rw[Dq] at q3;simp only[PE.ev,k1,D.l_list,tg,D.i_int,uJ,rD hy,hd0,uu];rw[aR,←abk];exact q3
  ·rename_i T' e0 t e aB eo hu;rw[eo] at bq;have hv':=cg h hC rfl hu;cases hc:(Nat.beq inf.size 1&&Nat.beq size 1&&Nat.beq off 0&&e0.one&&Ty.sub t e0)<;>simp only[hc,cond_true,cond_false] at hr
   ·cases hr
   cases hr;simp only[ar] at hc;obtain⟨⟨⟨⟨aR,vI⟩,iQ⟩,dY⟩,cn⟩:=hc;have aR:=aL aR;have vI:=aL vI;have iQ:=aL iQ;subst iQ;subst vI;have hve:=hv'.sub cn;obtain⟨c1,c2⟩:=hve.oneCell dY;have CM:e0.size=1:=by cases e0<;>simp_all [Ty.size,Ty.one]
   obtain⟨cells,xs,k1,k2,k3,k4⟩:=bq;obtain⟨b,c',e1,C2,tq⟩:=wq k2;rw[eF] at e1;cases e1;obtain⟨y,hy⟩:∃y,xs[i]?=some y:=⟨_,bK bJ⟩
   have bn:=k2.1
   obtain⟨cur,q1,q2,q3⟩:=h.storeRow (i:=i) (p:=i*e0.size) (vs:=[a.eval v]) eo eF k1 k2 k3 k4 bJ (bk _) (by rw[CM];simp) hve (fun q u hq=>by
        rw[c1] at hq;have vE:q=0:=by have:=(fU.1 hq).1;simpa using this
        subst vE;simp at hq;subst hq;have:i*e0.size≤cells.length:=by rw[bn];exact oz _ (by omega)
        rw[pQ,kN (by simp;omega)];simp[oy this])
   refine bZ.skip hd fun ρ' ao=>?_;rw[sv ao];refine⟨_,Mt ho hi (cs:=cur) (by rw[fH]) (by rw[c1,aR];rfl) (fun u hu=>by rw[c1] at hu;simp at hu;subst hu;exact c2) q1 (by rw[CM] at q2;rw[aR];simpa using q2),σ,own,hv,?_⟩;rw[c1,aR];have Dt:uu y 0 (e.ev ρ)=e.ev ρ:=by
        obtain⟨us,u1,u2⟩:=k3;have:=(u1 i y hy).dcells dY;cases y with
        |agg ds=>have h8:=u1 i _ hy;generalize us i=vv at h8;cases h8;simp[Ty.one] at dY
        |_=>rfl
   simp only[PE.ev,k1,D.l_list,tg,D.i_int,uJ,rD hy,Dt];rw[CM] at q3;simpa using q3
  ·cases hr
end
end Cx
namespace Cx
open Go Go.RowKit
section
variable {C:Ctx} {S:St} {ρ:Env} {σ:Im} {own:Nat→Option Nat} {hv:Nat→Value} {w0:World} {σ0:Base} {A:Nat→Prop} {a:Act} {w:World} {gs:List (Nat×Bool)} {Φ:aT} {dst:Nat}
theorem apF {ρ:Env}{es:List PE}{i:Nat}{e:PE}(h:es[i]?=some e):(PE.evs ρ es)[i]?=some (e.ev ρ):=by
 rw[PE.evs_eq,cU,h];rfl
theorem Zk (h:Inv C S ρ σ own hv w0 σ0 A a w)(hC:CtxOK C σ0)(hg:holds gs ρ=true){T:TypeId}{len:Nat}{ps:Array (Nat×Operand)}{r:St×List PI}(hr:u9 C S gs dst T len ps.toList=some r){o:Oper}
 (ho:o.op=.buildSlice T len ps):∃(E:TypeId) (e:Ty) (es:List PE) (v:Value) (w':World),C.P.underlying T=some (.slice E)∧og C.P E=some e∧r=(mkObj S dst (.row E e),[.setO dst (.lst es),.setR dst (.con .none)])∧
   (execOp a.eval o).run C.P w=.ok (.value v) w'∧Below w.heap.size w w'∧(∀k,Nat.beq k w.heap.size=true→w.heap.size≤k∧k<w'.heap.size)∧
   cl C (S.newO dst (.row E e)) (ρ.setO dst (.list (PE.evs ρ es))) σ (fM own dst (fun k=>Nat.beq k w.heap.size)) (cf hv dst v) w' w0.heap.size dst (.row E e):=by
 unfold u9 at hr;split at hr
 case h_2=>cases hr
 rename_i E hT;simp only[ax] at hr;obtain⟨e,he,z,hz,hr⟩:=hr;cases hc:(qe C.P E e&&Ty.sub z.1 e&&ju (ps.toList.map (·.1))&&ps.toList.all (fun p=>Nat.blt p.1 len)&&Nat.ble (len*e.size) 16777216)<;>simp only[hc,cond_true,cond_false] at hr
 ·cases hr
 simp only[ar] at hc;obtain⟨⟨⟨⟨hef,cn⟩,bp⟩,dZ⟩,hle⟩:=hc;have hle:=kO hle;obtain⟨inf,zv,hi,hs,oR,h1,hzv,lO⟩:=Ow hef;have rR:=W9 lO;have jo:=mP bp;have Du:=((w6 (cap:=C.cap) (σ:=σ) hz lO).1).sub cn;simp only[aH] at hr;obtain⟨es,iO,rfl⟩:=hr;obtain⟨Zu,el2⟩:=mapM_some _ _ _ iO;simp only[Xy] at Zu;have aaw:∀i,i<len→∃pe,es[i]?=some pe∧Ho C S gs e z.2 ps.toList i=some pe:=by
  intro i hi;obtain⟨y,hy1,rQ⟩:=el2 i i (by rw[pR hi]);exact⟨y,hy1,rQ⟩
 have qp:∀x,x∈ps.toList→x.1<len∧∃t pe,use C S gs x.2=some (t,pe)∧Ty.sub t e=true∧es[x.1]?=some pe:=by
  intro x hx;have vO:x.1<len:=by
   have:=bL.1 dZ x hx;simpa [iy] using this
  refine⟨vO,?_⟩;obtain⟨pe,Db,eX⟩:=aaw x.1 vO;have CP:=ZH jo (i:=x.1) (x:=x.2) hx;simp only[Ho,CP,ax] at eX;obtain⟨y,hy,eX⟩:=eX;cases hs:Ty.sub y.1 e<;>simp only[hs,cond_true,cond_false] at eX
  ·cases eX
  cases eX;exact⟨y.1,y.2,hy,hs,Db⟩
 let c0:Array Value:=madeCells zv.cells (len*e.size)
 have CI:c0.size=len*e.size:=size_madeCells _ _
 have lM:∀p,p∈(ps.toList.map fun(x:Nat×Operand)=>(x.1,a.eval x.2))→∃o,(fun i=>some (i*e.size,e.size)) p.1=some (o,p.2.cells.size)∧o+p.2.cells.size≤c0.size:=by
  intro p hp;obtain⟨x,hx,rfl⟩:=dx.1 hp;obtain⟨vO,t,pe,hu,cL,_⟩:=qp x hx;have tD:=((cg h hC hg hu).sub cL).size;simp only;refine⟨x.1*e.size,by rw[tD],?_⟩;rw[tD,CI];have:(x.1+1)*e.size≤len*e.size:=oz _ vO;rw[ou] at this;omega
 have yj:∀(i j oi si oj sj:Nat),i≠j→(fun i=>some (i*e.size,e.size)) i=some (oi,si)→(fun i=>some (i*e.size,e.size)) j=some (oj,sj)→oi+si≤oj∨oj+sj≤oi:=by
  intro i j oi si oj sj aB hi hj;simp only[bf,na] at hi hj;obtain⟨rfl,rfl⟩:=hi;obtain⟨rfl,rfl⟩:=hj;rcases Na i j with ah|eV
  ·left;have:(i+1)*e.size≤j*e.size:=oz _ ah;rw[ou] at this;omega
  ·right;have:(j+1)*e.size≤i*e.size:=oz _ (by omega);rw[ou] at this;omega
 obtain⟨eP,f1,f2,f3,f4⟩:=OF (fun i=>some (i*e.size,e.size)) (ps.toList.map fun(x:Nat×Operand)=>(x.1,a.eval x.2)) c0 lM yj (by simpa [FE] using jo);have ao:(execOp a.eval o).run C.P w=.ok (.value (.slice (some ⟨w.heap.size,0,none⟩) len len)) (w.alloc (.cells eP E)):=by
  have n1:¬(len*inf.size>2^24):=by rw[hs];omega
  have Ht:Instr.fill (fun i=>some (i*inf.size,inf.size)) c0 (ps.toList.map fun(x:Nat×Operand)=>(x.1,a.eval x.2))=some eP:=by rw[hs];exact f1
  by_cases h0:len*inf.size=0
  ·have Pa:c0=#[]:=by
        apply MY;rw[CI,←hs];exact h0
   rw[Pa] at Ht
   have apI:Instr.fill (fun i=>some (i*inf.size,inf.size)) (Array.map (fun _=>default) (Array.range 0)) (ps.toList.map fun(x:Nat×Operand)=>(x.1,a.eval x.2))=some eP:=by
        have:(Array.map (fun _=>(default:Value)) (Array.range 0))=#[]:=by simp
        rw[this];exact Ht
   simp[execOp,ho,Instr.buildSlice,run_underlying hT,Go.sizeOf,run_typeInfo w hi,n1,h0,apI,newRow]
  ·have Pa:c0=(Array.range (len*inf.size)).map (fun x=>zv.cells[x%zv.cells.size]!):=by simp only[c0,madeCells,hs]
   rw[Pa] at Ht;have h00:¬(len=0∨inf.size=0):=by rw[←Nat.mul_eq_zero];exact h0
   simp[execOp,ho,Instr.buildSlice,run_underlying hT,Go.sizeOf,run_typeInfo w hi,n1,h0,h00,zeroValue,hzv,Ht,newRow]
 refine⟨E,e,es,_,_,hT,he,rfl,ao,(Below.refl _ _).alloc (bk _) _,fun k hk=>by simp at hk;simp;omega,?_⟩;have iN:(PE.evs ρ es).length=len:=by rw[PE.evs_eq,ix,Zu]
 have atP:∀(i:Nat) (x:D),(PE.evs ρ es)[i]?=some x→∃v,Rep C.cap σ e v x∧∀q u,v.cells[q]?=some u→eP.toList[i*e.size+q]?=some u:=by
  intro i x hx;have H3:i<len:=by have:=(fi.1 hx).1;omega
  obtain⟨pe,Db,eX⟩:=aaw i H3;rw[apF Db] at hx;cases hx;unfold Ho at eX;split at eX
  ·rename_i p hp;have hpm:=pU hp;have Io:p.1=i:=by have:=FI hp;simpa using this
   obtain⟨_,t,pe',hu,cL,tw⟩:=qp p hpm;rw[Io,Db] at tw;cases tw;have bU:=(cg h hC hg hu).sub cL;refine⟨_,bU,fun q u hq=>?_⟩;have Ip:q<(a.eval p.2).cells.size:=(fU.1 hq).1;have:=f3 p.1 (a.eval p.2) (p.1*e.size) (dx.2 ⟨p,hpm,rfl⟩) (by simp[bU.size]) q Ip;rw[Io] at this;simp[this,hq]
  ·rename_i hp;cases eX;refine⟨zv,Du,fun q u hq=>?_⟩;have Ip:q<zv.cells.size:=(fU.1 hq).1
   have lK:i∉(ps.toList.map fun(x:Nat×Operand)=>(x.1,a.eval x.2)).map (·.1):=by
        intro cV;simp only[FM,dx,FE] at cV;obtain⟨x,yH,e⟩:=cV;have:=uK.1 hp x yH;simp[e] at this
   have:=f4 i (i*e.size) e.size lK rfl q (by omega);have h9:c0[i*e.size+q]?=zv.cells[q]?:=by
        simp only[c0];rw[←rR];exact ab9 (by omega) H3 Ip
   simp[this,h9,hq]
 have gP:∃vs:Nat→Value,∀(i:Nat) (x:D),(PE.evs ρ es)[i]?=some x→Rep C.cap σ e (vs i) x∧∀q u,(vs i).cells[q]?=some u→eP.toList[i*e.size+q]?=some u:=by
  have lH:∀i,∃v,∀x,(PE.evs ρ es)[i]?=some x→Rep C.cap σ e v x∧∀q u,v.cells[q]?=some u→eP.toList[i*e.size+q]?=some u:=by
   intro i;cases hx:(PE.evs ρ es)[i]? with
   |none=>exact⟨undef,fun x dc=>by cases dc⟩
   |some x=>
    obtain⟨v,hv⟩:=atP i x hx;exact⟨v,fun y hy=>by cases hy;exact hv⟩
  exact⟨fun i=>Classical.choose (lH i),fun i x hx=>Classical.choose_spec (lH i) x hx⟩
 obtain⟨vs,gP⟩:=gP;have eT:eP.size=len*e.size:=by rw[f2,CI]
 refine⟨eP.toList,PE.evs ρ es,by simp[Env.setO,aU],?_,⟨vs,fun i x hx=>(gP i x hx).1,fun i j u hi hj=>(gP i _ (bK hi)).2 j u hj⟩,fun k hk=>by rw[aU] at hk;simp[Value.ownBlock] at hk;simp[fM,hk]⟩;rw[aU,iN];have Pt:len≤maxLen:=by
  have:len*1≤len*e.size:=Nat.mul_le_mul_left _ h1;unfold maxLen;omega
 exact⟨by simp[eT],.inr ⟨w.heap.size,len,eP,rfl,h.below.size,heap_alloc_new w _,bk _,Pt,eT,by rw[As (by simp[eT])]⟩⟩
theorem aoS (h:Inv C S ρ σ own hv w0 σ0 A a w)(hC:CtxOK C σ0)(ht:¬A dst)(ah:dst<a.tmps.size){T:TypeId}{len:Nat}{ps:Array (Nat×Operand)}{r:St×List PI}(hr:u9 C S [] dst T len ps.toList=some r){o:Oper}(hd:o.dst=some dst)
 (ho:o.op=.buildSlice T len ps):bZ C w0 σ0 Φ S ρ A a w o r:=by
 obtain⟨E,e,es,v,w',_,_,rfl,ao,hb,dp,cJ⟩:=Zk h hC rfl hr ho;refine bZ.value hd fun ρ' qt=>⟨_,_,ao,?_⟩
 rw[Fc qt];exact h.mkObj ht ah (.row E e) _ _ (fun k=>Nat.beq k w.heap.size) hb dp cJ
theorem Inv.kill (h:Inv C S ρ σ own hv w0 σ0 A a w)(j:Nat):Inv C (S.newO j .dead) ρ σ own hv w0 σ0 A a w:=by
 have dS:∀i,S.ver i≤(S.newO j .dead).ver i:=by
  intro i;show S.ver i≤cf S.ver j (S.ver j+1) i;rw[fS];by_cases e:i=j
  ·subst e;simp
  ·simp[e]
 have hc:Compat S hv (S.newO j .dead) hv:=⟨dS,fun _ _=>rfl⟩
 refine h.step (·=j) rfl (.refl σ) h.ok (fun _ _ _ hx=>.inl hx) (fun _ _ hx=>.inl hx) (.refl _ _) hc (fun i hi=>⟨by simp[St.newO,bz _ _ hi],rfl,rfl,fun k hk=>⟨hk,rfl⟩⟩) (fun i hi=>?_) h.owns (fun _=>id) (fun t=>.inl ⟨rfl,rfl,rfl⟩) (fun _ _=>rfl) (fun _ _ _=>rfl) (fun k i hk=>.inl ⟨i,hk⟩) (fun i hi=>by subst hi;simp[St.newO,aU]);subst hi;simp only[St.newO,aU];trivial
theorem ao4 (h:Inv C S ρ σ own hv w0 σ0 A a w)(hC:CtxOK C σ0)(ht:¬A dst)(ah:dst<a.tmps.size)(dG:∀g,g∈gs→A g.1)(hg:holds gs ρ=true){T:TypeId}{len:Nat}{ps:Array (Nat×Operand)}{r:St×List PI}(hr:xL C S gs dst T len ps.toList=some r){o:Oper}(hd:o.dst=some dst)
 (ho:o.op=.buildSlice T len ps):bZ C w0 σ0 Φ S ρ A a w o r:=by
 unfold xL at hr;split at hr
 case h_2=>cases hr
 rename_i E q hT hq;simp only[ax] at hr;obtain⟨e,he,hr⟩:=hr;obtain⟨E',e',es,v,w',ya,kR,rfl,ao,hb,dp,cJ⟩:=Zk h hC hg hq ho;rw[hT] at ya;cases ya;rw[he] at kR;cases kR;cases hr;refine bZ.value hd fun ρ' qt=>⟨_,_,ao,?_⟩
 have hρ:ρ'=ρ.setR dst (.list (PE.evs ρ es)):=by simp[PI.runs,PI.run,PE.ev] at qt;exact qt.symm
 subst hρ;have h1:=h.newO dst (.row E e) (.list (PE.evs ρ es)) v (fun k=>Nat.beq k w.heap.size) hb dp cJ;obtain⟨σ2,iu,_,h2⟩:=h1.fz dst;have CS:(S.newO dst (.row E e)).fz dst=(S.newO dst (.row E e)).setO dst (.fz (.slice e.rol)):=by
  have:(S.newO dst (.row E e)).o dst=.row E e:=aU _ _ _;unfold St.fz;rw[this]
 rw[CS] at h2;have bq:=h2.objs dst;have e1:((S.newO dst (.row E e)).setO dst (.fz (.slice e.rol))).o dst=.fz (.slice e.rol):=aU _ _ _;rw[e1] at bq;have bU:Rep C.cap σ2 (.slice e.rol) v (.list (PE.evs ρ es)):=by
  have:=bq.2
  rwa [aU,show(ρ.setO dst (.list (PE.evs ρ es))).o dst=.list (PE.evs ρ es) from aU _ _ _] at this
 have h3:Inv C (S.newO dst .dead) ρ σ2 iu (cf hv dst v) w0 σ0 A a w':=by
  refine h2.step (·=dst) rfl (.refl σ2) h2.ok (fun _ _ _ hx=>.inl hx) (fun _ _ hx=>.inl hx) (.refl _ _) ⟨fun i=>bk _,fun _ _=>rfl⟩ (fun i hi=>⟨?_,?_,rfl,fun k hk=>⟨hk,rfl⟩⟩) (fun i hi=>?_) h2.owns (fun _=>id) (fun t=>.inl ⟨rfl,rfl,rfl⟩) (fun _ _=>rfl) (fun _ _ _=>rfl) (fun k i hk=>.inl ⟨i,hk⟩) (fun i hi=>by subst hi;simp[St.newO,aU])
  ·simp[St.newO,St.setO,bz _ _ hi]
  ·simp[Env.setO,bz _ _ hi]
  ·subst hi;simp only[St.newO,aU];trivial
 have hh:holds gs (ρ.setR dst (.list (PE.evs ρ es)))=true:=by rw[C8 (t:=dst) fun g hm e=>ht (by rw[←e];exact dG g hm)];exact hg
 cases gs with
 |nil=>exact⟨_,_,_,h3.setReg ht (s:=.dat (.slice e.rol)) bU ah (fun _ _ e=>by cases e)⟩
 |cons g bM=>
  refine⟨_,_,_,h3.setReg ht (s:=.opt (g::bM) (.dat (.slice e.rol))) ⟨fun _=>bU,fun e=>absurd (hh.symm.trans e) (by decide)⟩ ah (fun gs s e=>?_)⟩;cases e;exact⟨dG,fun _ _ e=>by cases e⟩
end
end Cx
