/-
  Shared texts of this claim.
-/
import Derived.Test.YtepfoekldooaeaaGreatDoorKAB
import Derived.Laws.OwnMore
import Derived.Lib.ConvBytes
set_option linter.unusedSimpArgs false
set_option linter.unusedVariables false
namespace Cx
open Go Go.RowKit
def mkObj (S:St)(dst:Nat)(ob:Ob):St:=(S.newO dst ob).setR dst (.obj dst (S.ver dst+1))
def mkPtr (S:St)(dst:Nat)(ob:Ob):St:=(S.newO dst ob).setR dst (.ptr dst (S.ver dst+1) 0)
abbrev kV:=Option (St×List PI)
def Bk (C:Ctx)(S:St)(dst:Nat)(T:TypeId)(x:Operand):kV:=
 match use C S [] x,C.P.underlying T with
 |some (.nils _,_),some (.slice E)=>(nT C.P E).map fun e=>(mkObj S dst (.row E e),[.setO dst (.con (.list [])),.setR dst (.con .none)])
 |_,_=>Option.none
def Bc (C:Ctx)(S:St)(dst:Nat)(T:TypeId):kV:=
 match nT C.P T,C.P.info? T,oJ C.P T with
 |some t,some inf,some ag=>
  bif rZ inf t&&(t.rowT||t.one) then
   (nV t).map fun z=>(mkPtr S dst (.box ag (z.1.flat.map .dat)),[.setO dst (.con (.agg z.2.cells)),.setR dst (.con .none)])
  else Option.none
 |_,_,_=>Option.none
def Be (C:Ctx)(S:St)(dst:Nat)(T:TypeId)(x:Operand):kV:=
 match use C S [] x,oJ C.P T with
 |some (t,e),some ag=>
  bif t.rowT||t.one then some (mkPtr S dst (.box ag (t.flat.map .dat)),[.setO dst (.mk [e]),.setR dst (.con .none)]) else Option.none
 |_,_=>Option.none
def Bh (C:Ctx)(S:St)(dst:Nat)(T:TypeId)(r:Option Operand):kV:=
 match C.P.underlying T,r with
 |some (.map K E),Option.none=>
  (nT C.P K).bind fun kt=>(nT C.P E).map fun et=>(mkObj S dst (.mp kt et),[.setO dst (.con (.map [])),.setR dst (.con .none)])
 |_,_=>Option.none
def Bi (C:Ctx)(S:St)(dst:Nat)(T:TypeId)(l c:Operand):kV:=
 match C.P.underlying T,use C S [] l,use C S [] c with
 |some (.slice E),some (.int _,n),some (.int _,m)=>
  (nT C.P E).bind fun e=>
    bif pI C.P E e then
     (nV e).bind fun z=>
        bif Ty.sub z.1 e then some (mkObj S dst (.row E e),[.chk (Qr n),.chk (.ci .eql n m),.setO dst (.rep n (.con z.2)),.setR dst (.con .none)]) else Option.none
    else Option.none
 |_,_,_=>Option.none
def Bl (C:Ctx)(S:St)(dst:Nat)(T:TypeId)(x:Operand):kV:=
 match C.P.underlying T,fV S [] x with
 |some (.map _ _),.obj j ver=>
  bif Nat.beq ver (S.ver j)&& !Nat.beq j dst then
   match S.o j with
   |.mp kt et=>some (mkObj (S.mv j dst) dst (.it kt et),[.setO dst (.tup [.lst [],.o j]),.setR dst (.con .none)])
   |_=>Option.none
  else Option.none
 |_,_=>Option.none
def Bf (C:Ctx)(S:St)(dst:Nat)(s d:TypeId)(x:Operand):kV:=
 match use C S [] x,C.P.underlying s,C.P.underlying d with
 |some (.str,e),some .string,some (.slice E)=>
  (match C.P.underlying E with
   |some (.int .u8)=>some (S.setR dst (.dat (.slice (.int .u8))),[.chk (.ci .leq (.slen e) (.con (.int mN))),.setR dst (.bytes e)])
   |_=>Option.none)
 |_,_,_=>Option.none
section
variable {C:Ctx} {S:St} {ρ:Env} {σ:Im} {own:Nat→Option Nat} {hv:Nat→Value} {w0:World} {σ0:Base} {A:Nat→Prop} {a:Act} {w:World} {gs:List (Nat×Bool)} {Φ:aS} {dst:Nat}
def bR (C:Ctx)(w0:World)(σ0:Base)(Φ:aS)(S:St)(ρ:Env)(A:Nat→Prop)(a:Act)(w:World)(o:Oper)(r:St×List PI):Prop:=
 ∀ρ',PI.runs Φ r.2 ρ=some ρ'→∀(K:Act→World→Prop) (Q:Exit→Act→World→Prop),(∀a' w',Good C w0 σ0 r.1 ρ' (fun u=>A u∨o.dst=some u) a' w'→a'.tmps.size=a.tmps.size→K a' w')→o.wp C.P a w K Q
theorem size_put (a:Act)(d:Option Tmp)(v:Value):(a.put d v).tmps.size=a.tmps.size:=by
 cases d<;>simp[Act.put]
theorem bR.value {o:Oper}{r:St×List PI}(hd:o.dst=some dst)(hx:∀ρ',PI.runs Φ r.2 ρ=some ρ'→∃v w',(execOp a.eval o).run C.P w=.ok (.value v) w'∧Good C w0 σ0 r.1 ρ' (fun u=>A u∨u=dst) (a.put (some dst) v) w'):bR C w0 σ0 Φ S ρ A a w o r:=by
 intro ρ' ak K Q hK;obtain⟨v,w',h1,h2⟩:=hx ρ' ak;simp only[Oper.wp,h1,Oper.upon,hd];refine hK _ _ ?_ (size_put _ _ _)
 have:(fun u=>A u∨o.dst=some u)=(fun u=>A u∨u=dst):=by
  funext u;rw[hd];simp[eq_comm]
 rw[this];exact h2
theorem bR.skip {o:Oper}{r:St×List PI}(hd:o.dst=none)(hx:∀ρ',PI.runs Φ r.2 ρ=some ρ'→∃w',(execOp a.eval o).run C.P w=.ok .skip w'∧Good C w0 σ0 r.1 ρ' A a w'):bR C w0 σ0 Φ S ρ A a w o r:=by
 intro ρ' ak K Q hK;obtain⟨w',h1,h2⟩:=hx ρ' ak;simp only[Oper.wp,h1,Oper.upon,hd]
 have:(fun u=>A u∨o.dst=some u)=A:=by
  funext u;rw[hd];simp
 rw[this] at hK;exact hK _ _ h2 (size_put _ _ _)
theorem dV.eff (h:Inv C S ρ σ own hv w0 σ0 A a w)(ht:¬A dst)(af:dst<a.tmps.size){o:Oper}(hd:o.dst=some dst){s:Sh}{C8:List PI}(hq:dV C S ρ σ hv Φ dst a w o (s,C8)):bR C w0 σ0 Φ S ρ A a w o (S.setR dst s,C8):=by
 refine bR.value hd fun ρ' ak=>?_;obtain⟨v,d,rfl,h1,h2,h3⟩:=hq ρ' ak;exact⟨v,w,h1,σ,own,hv,h.setReg ht (aJ.mono' (.refl σ) (.refl S hv) h3 h2) af (fun gs s' e=>absurd e (h3 gs s'))⟩
theorem dV.effG (h:Inv C S ρ σ own hv w0 σ0 A a w)(ht:¬A dst)(af:dst<a.tmps.size)(dC:∀g,g∈gs→A g.1)(hg:holds gs ρ=true){o:Oper}(hd:o.dst=some dst){s:Sh}{C8:List PI}(hq:dV C S ρ σ hv Φ dst a w o (s,C8)):bR C w0 σ0 Φ S ρ A a w o (S.setR dst (.opt gs s),C8):=by
 refine bR.value hd fun ρ' ak=>?_;obtain⟨v,d,rfl,h1,h2,h3⟩:=hq ρ' ak;have hh:holds gs (ρ.setR dst d)=true:=by rw[Cf (t:=dst) (d:=d) fun g hm e=>ht (by rw[←e];exact dC g hm)];exact hg
 refine⟨v,w,h1,σ,own,hv,h.setReg ht ⟨fun _=>aJ.mono' (.refl σ) (.refl S hv) h3 h2,fun e=>absurd (hh.symm.trans e) (by decide)⟩ af (fun bB s' e=>?_)⟩;cases e;exact⟨dC,h3⟩
theorem Inv.passed (h:Inv C S ρ σ own hv w0 σ0 A a w)(ht:¬A dst)(af:dst<a.tmps.size)(dC:∀g,g∈gs→A g.1)(hg:holds gs ρ=false){s:Sh}(hs:∀bB s',s≠.opt bB s')(d:D):Inv C (S.setR dst (.opt gs s)) (ρ.setR dst d) σ own hv w0 σ0 (fun u=>A u∨u=dst) (a.put (some dst) undef) w:=by
 have hh:holds gs (ρ.setR dst d)=false:=by rw[Cf (t:=dst) (d:=d) fun g hm e=>ht (by rw[←e];exact dC g hm)];exact hg
 refine h.setReg ht (s:=.opt gs s) (v:=undef) (d:=d) ⟨fun e=>absurd (hh.symm.trans e) (by decide),fun _=>rfl⟩ af (fun bB s' e=>?_);cases e;exact⟨dC,hs⟩
theorem Inv.mkObj (h:Inv C S ρ σ own hv w0 σ0 A a w)(ht:¬A dst)(af:dst<a.tmps.size)(ob:Ob)(d:D)(v:Value)(nb:Nat→Bool){w':World}(hw:Below w.heap.size w w')(df:∀k,nb k=true→w.heap.size≤k∧k<w'.heap.size)
 (cE:cg C (S.newO dst ob) (ρ.setO dst d) σ (fD own dst nb) (bZ hv dst v) w' w0.heap.size dst ob) (mE:ob≠.tr:=by intro h;cases h):
 Good C w0 σ0 (Cx.mkObj S dst ob) ((ρ.setO dst d).setR dst .none) (fun u=>A u∨u=dst) (a.put (some dst) v) w':=by
 have h1:=h.newO dst ob d v nb hw df cE mE;have h2:=h1.setObj ht (j:=dst) (v:=v) (aQ _ _ _) af;have e:(S.newO dst ob).ver dst=S.ver dst+1:=aQ _ _ _;rw[e] at h2;exact⟨_,_,_,h2⟩
theorem Inv.mkPtr (h:Inv C S ρ σ own hv w0 σ0 A a w)(ht:¬A dst)(af:dst<a.tmps.size)(ob:Ob)(d:D)(k:Nat)(nb:Nat→Bool){w':World}(hw:Below w.heap.size w w')(df:∀k,nb k=true→w.heap.size≤k∧k<w'.heap.size)
 (cE:cg C (S.newO dst ob) (ρ.setO dst d) σ (fD own dst nb) (bZ hv dst (.pointer (some ⟨k,0,none⟩))) w' w0.heap.size dst ob) (mE:ob≠.tr:=by intro h;cases h):
 Good C w0 σ0 (Cx.mkPtr S dst ob) ((ρ.setO dst d).setR dst .none) (fun u=>A u∨u=dst) (a.put (some dst) (.pointer (some ⟨k,0,none⟩))) w':=by
 have h1:=h.newO dst ob d _ nb hw df cE mE;have e:(S.newO dst ob).ver dst=S.ver dst+1:=aQ _ _ _;have h2:=h1.setReg ht (s:=.ptr dst (S.ver dst+1) 0) (v:=.pointer (some ⟨k,0,none⟩)) (d:=.none) ⟨Nat.le_of_eq e.symm,fun _=>⟨k,aQ _ _ _,rfl⟩⟩ af (fun _ _ e=>by cases e);exact⟨_,_,_,h2⟩
theorem Ec {e:PE}{ρ':Env}(h:PI.runs Φ [.setO dst e,.setR dst (.con .none)] ρ=some ρ'):ρ'=(ρ.setO dst (e.ev ρ)).setR dst .none:=by
 simp[PI.runs,PI.run,PE.ev] at h;exact h.symm
theorem WJ (h:Inv C S ρ σ own hv w0 σ0 A a w){t:Ty}{v:Value}{d:D}(hr:Rep C.cap σ t v d)(ho:t.rowT=true∨t.one=true)(ag:Bool)(T:TypeId):
 cg C (S.newO dst (.box ag (t.flat.map .dat))) (ρ.setO dst (.agg d.cells)) σ (fD own dst (fun k=>Nat.beq k w.heap.size)) (bZ hv dst (.pointer (some ⟨w.heap.size,0,none⟩))) (w.alloc (.cells v.cells T)) w0.heap.size dst (.box ag (t.flat.map .dat)):=by
 obtain⟨f1,f2,f3⟩:=hr.flat ho;refine⟨w.heap.size,v.cells,T,d.cells,aQ _ _ _,by simp[fD],heap_alloc_new w _,by rw[hr.size];simp[f1],by simp[Env.setO,aQ],by simp[f1,f2],fun i s hi=>?_⟩;simp only[List.getElem?_map,Option.map_eq_some_iff] at hi;obtain⟨ti,P1,rfl⟩:=hi;exact⟨fun _ _ e=>(by cases e),(f3 i ti P1).2⟩
theorem aoo (h:Inv C S ρ σ own hv w0 σ0 A a w)(hC:CtxOK C σ0)(ht:¬A dst)(af:dst<a.tmps.size){T:TypeId}{x:Operand}{r:St×List PI}(hr:Bk C S dst T x=some r){o:Oper}(hd:o.dst=some dst)(ho:o.op=.assign x):bR C w0 σ0 Φ S ρ A a w o r:=by
 unfold Bk at hr;split at hr
 case h_2=>cases hr
 rename_i e0 e1 E hu hT;simp only[Option.map_eq_some_iff] at hr;obtain⟨e,he,rfl⟩:=hr;have hx:=cd h hC rfl hu;have bW:a.eval x=.slice none 0 0:=by
  generalize a.eval x=v at hx;generalize e1.ev ρ=d at hx;cases hx;rfl
 refine bR.value hd fun ρ' ak=>⟨.slice none 0 0,w,by simp[execOp,ho,bW],?_⟩
 rw[Ec ak];exact h.mkObj ht af (.row E e) _ _ (fun _=>false) (.refl _ _) (by simp) ⟨[],[],by simp[Env.setO,aQ,PE.ev],by rw[aQ];exact World.ownsRow_nil _ _ _ _,⟨fun _=>undef,by simp,by simp⟩,by rw[aQ];simp[Value.ownBlock]⟩
theorem anY (h:Inv C S ρ σ own hv w0 σ0 A a w)(ht:¬A dst)(af:dst<a.tmps.size){T:TypeId}{r:St×List PI}(hr:Bc C S dst T=some r){o:Oper}(hd:o.dst=some dst)(ho:o.op=.alloc T):bR C w0 σ0 Φ S ρ A a w o r:=by
 unfold Bc at hr;split at hr
 case h_2=>cases hr
 rename_i t inf ag P3 hi ha;cases hc:(rZ inf t&&(t.rowT||t.one))<;>simp only[hc,cond_true,cond_false] at hr
 ·cases hr
 simp only[Bool.and_eq_true,Bool.or_eq_true] at hc;simp only[Option.map_eq_some_iff] at hr;obtain⟨z,hz,rfl⟩:=hr;obtain⟨v0,jm,yi⟩:∃v0,inf.zero=some v0∧iT t v0=true:=by
  have:=hc.1;unfold rZ at this;split at this
  ·exact⟨_,by assumption,this⟩
  ·cases this
 obtain⟨k1,k2,k3⟩:=w7 (cap:=C.cap) (σ:=σ) hz yi;have Cp:z.1.rowT=true∨z.1.one=true:=by
  rcases hc.2 with e|e
  ·left;cases t<;>simp[Ty.rowT] at e;simp[nV] at hz;obtain⟨_,_,rfl⟩:=hz;rfl
  ·right;rw[k3];exact e
 refine bR.value hd fun ρ' ak=>⟨.pointer (some ⟨w.heap.size,0,none⟩),w.alloc (.cells v0.cells T),?_,?_⟩
 ·simp[execOp,ho,Instr.alloc,zeroValue,run_typeInfo w hi,jm,newVar,newRow]
 ·rw[Ec ak];exact h.mkPtr ht af _ _ _ (fun k=>Nat.beq k w.heap.size) ((Below.refl _ _).alloc (Nat.le_refl _) _) (fun k hk=>by simp at hk;simp;omega) (WJ h k1 Cp ag T)
theorem an2 (h:Inv C S ρ σ own hv w0 σ0 A a w)(hC:CtxOK C σ0)(ht:¬A dst)(af:dst<a.tmps.size){T:TypeId}{x:Operand}{r:St×List PI}(hr:Be C S dst T x=some r){o:Oper}(hd:o.dst=some dst)(ho:o.op=.box T x):bR C w0 σ0 Φ S ρ A a w o r:=by
 unfold Be at hr;split at hr
 case h_2=>cases hr
 rename_i t e ag hu ha;cases hc:(t.rowT||t.one)<;>simp only[hc,cond_true,cond_false] at hr
 ·cases hr
 cases hr;simp only[Bool.or_eq_true] at hc;have hx:=cd h hC rfl hu;refine bR.value hd fun ρ' ak=>⟨.pointer (some ⟨w.heap.size,0,none⟩),w.alloc (.cells (a.eval x).cells T),?_,?_⟩
 ·simp[execOp,ho,Instr.box,newVar,newRow]
 ·rw[Ec ak];have:(PE.mk [e]).ev ρ=.agg (e.ev ρ).cells:=by simp[PE.ev,PE.evc]
  rw[this];exact h.mkPtr ht af _ _ _ (fun k=>Nat.beq k w.heap.size) ((Below.refl _ _).alloc (Nat.le_refl _) _) (fun k hk=>by simp at hk;simp;omega) (WJ h hx hc ag T)
theorem aoi (h:Inv C S ρ σ own hv w0 σ0 A a w)(ht:¬A dst)(af:dst<a.tmps.size){T:TypeId}{m:Option Operand}{r:St×List PI}(hr:Bh C S dst T m=some r){o:Oper}(hd:o.dst=some dst)(ho:o.op=.makeMap T m):bR C w0 σ0 Φ S ρ A a w o r:=by
 unfold Bh at hr;split at hr
 case h_2=>cases hr
 rename_i K E hT;simp only[Option.bind_eq_some_iff,Option.map_eq_some_iff] at hr;obtain⟨kt,hk,et,he,rfl⟩:=hr;refine bR.value hd fun ρ' ak=>⟨.map (some w.heap.size),w.alloc (.map #[] 0),?_,?_⟩
 ·simp[execOp,ho,Instr.makeMap]
 ·rw[Ec ak]
  exact h.mkObj ht af (.mp kt et) _ _ (fun k=>Nat.beq k w.heap.size) ((Below.refl _ _).alloc (Nat.le_refl _) _) (fun k hk=>by simp at hk;simp;omega)
   ⟨w.heap.size,#[],0,[],aQ _ _ _,by simp[fD],heap_alloc_new w _,by simp[Env.setO,aQ,PE.ev],rfl,⟨by simp,by simp[lV]⟩,by simp⟩
theorem aoq (h:Inv C S ρ σ own hv w0 σ0 A a w)(ht:¬A dst)(af:dst<a.tmps.size){T:TypeId}{x:Operand}{r:St×List PI}(hr:Bl C S dst T x=some r){o:Oper}(hd:o.dst=some dst)(ho:o.op=.range T x):bR C w0 σ0 Φ S ρ A a w o r:=by
 unfold Bl at hr;split at hr
 case h_2=>cases hr
 rename_i K E j ver hT es;obtain⟨eh,_⟩:=wU h (gs:=[]) rfl x;rw[es] at eh;cases hb:(Nat.beq ver (S.ver j)&& !Nat.beq j dst)<;>simp only[hb,cond_true,cond_false] at hr
 ·cases hr
 simp only[Bool.and_eq_true,Bool.not_eq_true'] at hb;have bW:=eh.2 (Nat.eq_of_beq_eq_true hb.1);have aE:j≠dst:=fun e=>by subst e;simp at hb
 have be:=h.objs j;split at hr
 case h_2=>cases hr
 rename_i kt et eo;cases hr;rw[eo] at be;obtain⟨m,arr,clock,ds,h1,h2,h3,h4,h5,⟨h6,pS⟩,h7⟩:=be;have mB:=h.mv aE (by rw[eo];rfl);have rv:m<w.heap.size:=(Array.getElem?_eq_some_iff.1 h3).1;have Pk:w0.heap.size≤m:=(h.owns m j h2).1;refine bR.value hd fun ρ' ak=>⟨.pointer (some ⟨w.heap.size,0,none⟩),w.alloc (.mapIter (some m) clock #[] clock),?_,?_⟩
 ·simp[execOp,ho,Instr.range,bW,h1,run_underlying hT,getObj,Sem.run,h3]
 have hρ:ρ'=((ρ.setO dst (.tup [.list [],.map ds])).setR dst .none):=by
  simp[PI.runs,PI.run,PE.ev,PE.evs,h4] at ak;exact ak.symm
 subst hρ;have eO:Below w.heap.size w (w.alloc (.mapIter (some m) clock #[] clock)):=(Below.refl _ _).alloc (Nat.le_refl _) _;have PX:=mB.step (S':=(S.mv j dst).newO dst (.it kt et)) (ρ':=(ρ.setO dst (.tup [.list [],.map ds]))) (σ':=σ) (hv':=bZ (bZ hv dst (hv j)) dst (.pointer (some ⟨w.heap.size,0,none⟩)))
  (own':=fun k=>if k=w.heap.size then some dst else(if own k=some j then some dst else if own k=some dst then none else own k)) (a':=a) (A':=A) (w':=w.alloc (.mapIter (some m) clock #[] clock)) (fun i=>i=dst)
  rfl (.refl σ) (h.ok.below eO) (fun _ _ _ hx=>.inl hx) (fun _ _ hx=>.inl hx) (eO.mono h.below.size) ⟨fun i=>?_,fun i e=>?_⟩ (fun i hi=>⟨?_,?_,?_,fun k hk=>⟨?_,?_⟩⟩) (fun i hi=>?_) (fun k i hk=>?_) (fun _=>id) (fun t=>.inl ⟨rfl,rfl,rfl⟩) (fun _ _=>rfl) (fun k hk _=>eO.block k hk) (fun k i hk=>?_) (fun i hi=>by subst hi;simp[St.newO,aQ])
 ·have hZ:=PX.setObj ht (j:=dst) (v:=.pointer (some ⟨w.heap.size,0,none⟩)) (aQ _ _ _) af;have e:((S.mv j dst).newO dst (.it kt et)).ver dst=(S.mv j dst).ver dst+1:=aQ _ _ _;rw[e] at hZ;exact⟨_,_,_,hZ⟩
 ·simp only[St.newO,fI];split<;>rename_i e
  ·subst e;omega
  ·omega
 ·simp only[St.newO,fI] at e;split at e
  ·rename_i e';subst e';omega
  ·rename_i Pq;exact bk _ _ Pq
 ·simp[St.newO,bk _ _ hi]
 ·simp[Env.setO,bk _ _ hi]
 ·exact bk _ _ hi
 ·have aHJ:=(mB.owns k i hk).2.1;have bU:k≠w.heap.size:=by omega
  simp only[if_neg bU];exact hk
 ·exact eO.block k (mB.owns k i hk).2.1
 ·subst hi;simp only[St.newO,aQ];have eQ:m≠w.heap.size:=by omega
  refine⟨w.heap.size,m,arr,clock,ds,[],aQ _ _ _,by simp,by simp[eQ,h2],by omega,?_,heap_alloc_new w _,by simp[Env.setO,aQ,fU],List.nodup_nil,by simp,h5,pS,h7⟩;rw[eO.block m rv];exact h3
 ·split at hk
  ·rename_i e;subst e;refine⟨h.below.size,by simp,fun o=>?_,?_⟩
   ·cases hc:σ.c w.heap.size o with
    |none=>rfl
    |some u=>have:=h.lt hc;omega
   ·cases hc:σ.m w.heap.size with
    |none=>rfl
    |some u=>have:=h.ltm hc;omega
  ·obtain⟨g1,g2,g3,g4⟩:=mB.owns k i hk;exact⟨g1,by simp;omega,g3,g4⟩
 ·split at hk
  ·rename_i e;subst e;exact .inr (Nat.le_refl _)
  ·exact .inl ⟨i,hk⟩
theorem an6 (h:Inv C S ρ σ own hv w0 σ0 A a w)(hC:CtxOK C σ0)(ht:¬A dst)(af:dst<a.tmps.size){T U:TypeId}{x:Operand}{r:St×List PI}(hr:Bf C S dst T U x=some r){o:Oper}(hd:o.dst=some dst)(ho:o.op=.convert T U x):bR C w0 σ0 Φ S ρ A a w o r:=by
 unfold Bf at hr;split at hr
 case h_2=>cases hr
 rename_i e E hu hT hU;split at hr
 case h_2=>cases hr
 rename_i hE;cases hr;have hx:=cd h hC rfl hu;obtain⟨s,aP,bf,hs⟩:=hx.str_inv;have tc:=Lib.run_convert_string_bytes (P:=C.P) w T U E s hT hU hE;refine bR.value hd fun ρ' ak=>⟨.slice (some ⟨w.heap.size,0,none⟩) s.size (grownCap w s.size 0 E),Lib.bytesWorld w E s,by simp[execOp,ho,aP,tc],?_⟩
 simp only[PI.runs,PI.run,Option.bind_eq_some_iff] at ak;obtain⟨ρ1,g1,ρ2,g2,g3⟩:=ak;cases c1:((PE.ci BinOp.leq (.slen e) (.con (.int mN))).ev ρ).b<;>simp only[c1,cond_true,cond_false] at g1
 ·cases g1
 cases g1;cases g2;cases g3;have atx:s.size≤4294967296:=by
  simp[PE.ev,bf,D.s,D.i,D.b,gN,D.int,mN] at c1;omega
 have eO:Below w.heap.size w (Lib.bytesWorld w E s):=⟨rfl,rfl,rfl,by rw[Lib.bytesWorld_size];omega,fun k hk=>Lib.bytesWorld_at_old w E s k hk⟩
 have aK:(Lib.bytesWorld w E s).heap.size=w.heap.size+1:=Lib.bytesWorld_size w E s
 let σ':Im:={c:=fun k i=>if k=w.heap.size then(if i<s.size then some (.int .u8 (s.data.toList.getD i 0).toNat) else none) else σ.c k i,m:=σ.m}
 have hle:σ.le σ':=by
  refine⟨fun k o v hc=>?_,fun k es hc=>hc⟩;have:k≠w.heap.size:=by have:=h.lt hc;omega
  simp[σ',this,hc]
 have az:σ'.ok (Lib.bytesWorld w E s):=by
  refine⟨fun k i v hc=>?_,(h.ok.below eO).m⟩;simp only[σ'] at hc;split at hc
  ·rename_i ek;subst ek;split at hc
   ·rename_i hi;cases hc;exact Lib.bytesWorld_cell w E s i hi
   ·cases hc
  ·exact(h.ok.below eO).c k i v hc
 have h1:=h.step (S':=S) (ρ':=ρ) (σ':=σ') (own':=own) (hv':=hv) (A':=A) (a':=a) (w':=Lib.bytesWorld w E s) (fun _=>False) rfl hle az (fun k i v hc=>?_) (fun k es hc=>.inl hc) (eO.mono h.below.size) ⟨fun _=>Nat.le_refl _,fun _ _=>rfl⟩
  (fun j _=>⟨rfl,rfl,rfl,fun k hk=>⟨hk,eO.block k (h.owns k j hk).2.1⟩⟩) (fun j hj=>hj.elim) (fun k j hk=>?_) (fun _=>id) (fun t=>.inl ⟨rfl,rfl,rfl⟩) (fun _ _=>rfl) (fun k hk _=>eO.block k hk) (fun k i hk=>.inl ⟨i,hk⟩) (fun _ hf=>hf.elim)
 ·refine⟨_,_,_,h1.setReg ht (s:=.dat (.slice (.int .u8))) ?_ af (fun _ _ e=>by cases e)⟩;show Rep C.cap σ' _ _ _;simp only[PE.ev,bf,D.s];refine .slice (.int .u8) w.heap.size 0 s.size _ _ (fun i=>.int .u8 (s.data.toList.getD i 0).toNat) (by simp) (grownCap_ge w s.size 0 E) (grownCap_le_maxLen w s.size 0 E (by unfold maxLen;omega)) (fun i x hx=>?_) (fun i j u hi hu=>?_)
  ·simp only[List.getElem?_map,Option.map_eq_some_iff] at hx;obtain⟨b,hb,rfl⟩:=hx;have:s.data.toList.getD i 0=b:=by simp[List.getD_eq_getElem?_getD,hb]
   rw[this];have:=b.toNat_lt;exact .int .u8 _ (by show(0:Int)≤_;omega) (by show _≤(255:Int);omega)
  ·have hj:j=0:=by
        have:=(Array.getElem?_eq_some_iff.1 hu).1;simp[Value.cells] at this;exact this
   subst hj;simp[Value.cells] at hu;subst hu;simp[σ',Ty.size,hi]
 ·simp only[σ'] at hc;split at hc
  ·rename_i ek;exact .inr ⟨by have:=h.below.size;omega,.inr (by omega)⟩
  ·exact .inl hc
 ·obtain⟨g1,g2,g3,g4⟩:=h.owns k j hk;refine⟨g1,by omega,fun i=>?_,g4⟩;have:k≠w.heap.size:=by omega
  simp[σ',this,g3 i]
end
end Cx
namespace Cx
open Go Go.RowKit
def GK (C:Ctx)(S:St)(gs:List (Nat×Bool))(e:Ty)(z:D)(parts:List (Nat×Operand))(i:Nat):Option PE:=
 match parts.find? (fun p=>Nat.beq p.1 i) with
 |some p=>(use C S gs p.2).bind fun a=>bif Ty.sub a.1 e then some a.2 else Option.none
 |Option.none=>some (PE.con z)
def uP (C:Ctx)(S:St)(gs:List (Nat×Bool))(dst:Nat)(T:TypeId)(len:Nat)(parts:List (Nat×Operand)):kV:=
 match C.P.underlying T with
 |some (.slice E)=>
  (nT C.P E).bind fun e=>(nV e).bind fun z=>
    bif pI C.P E e&&Ty.sub z.1 e&&jo (parts.map (·.1))&&parts.all (fun p=>Nat.blt p.1 len)&&Nat.ble (len*e.size) 16777216 then
     ((List.range len).mapM (GK C S gs e z.2 parts)).map fun es=>(mkObj S dst (.row E e),[.setO dst (.lst es),.setR dst (.con .none)])
    else Option.none
 |_=>Option.none
def xt (C:Ctx)(S:St)(gs:List (Nat×Bool))(dst:Nat)(T:TypeId)(len:Nat)(parts:List (Nat×Operand)):kV:=
 match C.P.underlying T,uP C S gs dst T len parts with
 |some (.slice E),some r=>
  (nT C.P E).bind fun e=>
    match r.2 with
    |.setO _ x::_=>some ((S.newO dst .dead).setR dst (match gs with|[]=>.dat (.slice e.rol)|_=>.opt gs (.dat (.slice e.rol))),[.setR dst x])
    |_=>Option.none
 |_,_=>Option.none
def sB (C:Ctx)(S:St)(T:TypeId)(x v:Operand):kV:=
 match C.P.info? T with
 |some inf=>
  match fV S [] x with
  |.ptr j ver off=>
   bif Nat.beq ver (S.ver j) then
    match S.o j with
    |.box ag shs=>
     match use C S [] v with
     |some (t,e)=>
      bif Nat.beq inf.size t.size&&(t.rowT||t.one)&&Nat.ble (off+t.size) shs.length then
             some (S.setO j (.box ag (shs.take off++t.flat.map .dat++shs.drop (off+t.size))),[.setO j (.setc (.o j) off e)])
      else Option.none
     |Option.none=>
      match fV S [] v with
      |.obj j' nU=>
       bif Nat.beq nU (S.ver j')&&mK (S.o j')&&Nat.beq inf.size 1&&Nat.blt off shs.length then
              some (S.setO j (.box ag (shs.set off (.obj j' nU))),[.setO j (.setc (.o j) off (.con .none))])
       else Option.none
      |_=>Option.none
    |_=>Option.none
   else Option.none
  |.eptr j ver size off=>
   bif Nat.beq ver (S.ver j) then
    match S.o j,use C S [] v with
    |.row _ (.agg ts),some (t,e)=>
     bif Nat.beq inf.size t.size&&(t.rowT||t.one)&&Nat.beq size ts.length&&Nat.ble (off+t.size) ts.length&&Ty.subs t.flat ((ts.drop off).take t.size) then
         some (S,[.setO j (.setn (.o j) (tZ x) off e)])
     else Option.none
    |.row _ e0,some (t,e)=>
     bif Nat.beq inf.size 1&&Nat.beq size 1&&Nat.beq off 0&&e0.one&&Ty.sub t e0 then some (S,[.setO j (.setn (.o j) (tZ x) 0 e)]) else Option.none
    |_,_=>Option.none
   else Option.none
  |_=>Option.none
 |Option.none=>Option.none
def qW (C:Ctx)(S:St)(T:TypeId)(m k v:Operand):kV:=
 match C.P.underlying T,fV S [] m with
 |some (.map K _),.obj j ver=>
  bif Nat.beq ver (S.ver j) then
   match S.o j,use C S [] k,use C S [] v with
   |.mp kt et,some (tk,ek),some (tv,ev)=>
    bif Ty.beq tk kt&&tw C.P K kt&&Ty.sub tv et then some (S,[.chk (.ci .lss (.mlen (.o j)) (.con (.int mN))),.setO j (.put (.o j) ek ev)]) else Option.none
   |_,_,_=>Option.none
  else Option.none
 |_,_=>Option.none
def H4 (x y:PE):PE:=.ci .leq (.llen (.app x y)) (.con (.int mN))
def Mn:Ty→Ty→Bool
 |.slice e',e=>Ty.beq e'.unf e
 |.nils _,_=>true
 |_,_=>false
def Bd (C:Ctx)(S:St)(dst:Nat)(T:TypeId)(s x:Operand):kV:=
 match C.P.underlying T with
 |some (.slice E)=>
  (nT C.P E).bind fun e=>
    match view C S [] x with
    |some (tx,ex)=>
     bif pI C.P E e&&Mn tx e then
        match use C S [] s with
        |some (.nils _,_)=>some (mkObj S dst (.row E e),[.chk (H4 (.con (.list [])) ex),.setO dst (.app (.con (.list [])) ex),.setR dst (.con .none)])
        |some _=>Option.none
        |Option.none=>
         match fV S [] s with
         |.obj j ver=>
          bif Nat.beq ver (S.ver j) then
             match S.o j with
             |.row E' e'=>
              bif Nat.beq E' E&&Ty.beq e' e then
                some ((S.newO j (.row E e)).setR dst (.obj j (S.ver j+1)),[.chk (H4 (.o j) ex),.setO j (.app (.o j) ex),.setR dst (.con .none)])
              else Option.none
             |_=>Option.none
          else Option.none
         |_=>Option.none
     else Option.none
    |Option.none=>Option.none
 |_=>Option.none
theorem Oh {P:Program}{T:TypeId}{e:Ty}(h:pI P T e=true):∃inf z,P.info? T=some inf∧inf.size=e.size∧inf.bytes≤vP∧1≤e.size∧inf.zero=some z∧iT e z=true:=by
 unfold pI at h;split at h
 ·rename_i i hi;simp only[Bool.and_eq_true] at h;have h4:=h.2;unfold rZ at h4;split at h4
  ·rename_i z hz;exact⟨i,z,hi,Nat.eq_of_beq_eq_true h.1.1.1,Nat.le_of_ble_eq_true h.1.1.2,Nat.le_of_ble_eq_true h.1.2,hz,h4⟩
  ·cases h4
 ·cases h
theorem V0 {e:Ty}{z:Value}(h:iT e z=true):z.cells.size=e.size:=by
 cases e with
 |agg ts=>
  cases z with
  |agg vs=>simp only[iT] at h;have:=(V1 ts vs.toList h).1;simpa [Value.cells,Ty.size] using this
  |_=>simp[iT] at h
 |_=>cases z<;>simp_all [iT,w6,Value.cells,Ty.size]
theorem anl {ρ:Env}{x y:PE}(h:((PE.ci .lss x y).ev ρ).b=true):(x.ev ρ).i<(y.ev ρ).i:=by
 simpa [PE.ev,D.b_bool,gN] using h
theorem W4 {ρ:Env}{x y:PE}(h:((PE.ci .leq x y).ev ρ).b=true):(x.ev ρ).i≤(y.ev ρ).i:=by
 simpa [PE.ev,D.b_bool,gN] using h
theorem avw {n:Nat}(h:(n:Int)<mN):n<4294967296:=by unfold mN at h;omega
theorem aac {n:Nat}(h:(n:Int)≤mN):n≤4294967296:=by unfold mN at h;omega
theorem St.setO_self {S:St}{j:Nat}{ob:Ob}(h:S.o j=ob):S.setO j ob=S:=by
 have:bZ S.o j ob=S.o:=by
  funext i;rw[fI];split
  ·rename_i e;subst e;exact h.symm
  ·rfl
 cases S;simp only[St.setO] at this ⊢;rw[this]
section
variable {C:Ctx} {S:St} {ρ:Env} {σ:Im} {own:Nat→Option Nat} {hv:Nat→Value} {w0:World} {σ0:Base} {A:Nat→Prop} {a:Act} {w:World} {gs:List (Nat×Bool)} {Φ:aS} {dst:Nat}
theorem Inv.updO (h:Inv C S ρ σ own hv w0 σ0 A a w)(j:Nat)(ob:Ob)(d:D)(v:Value)(nb:Nat→Bool){w':World}(hw:Below w0.heap.size w w')
 (rl:∀k,k<w.heap.size→own k≠some j→w'.heap[k]?=w.heap[k]?) (df:∀k,nb k=true→(own k=some j∨w.heap.size≤k)∧k<w'.heap.size)
 (cE:cg C (S.newO j ob) (ρ.setO j d) σ (fD own j nb) (bZ hv j v) w' w0.heap.size j ob) (mE:ob≠.tr:=by intro h;cases h):Inv C (S.newO j ob) (ρ.setO j d) σ (fD own j nb) (bZ hv j v) w0 σ0 A a w':=by
 have aK:w0.heap.size≤w.heap.size:=h.below.size;have bM:∀k i,i≠j→own k=some i→fD own j nb k=some i:=by
  intro k i hi hk;have h1:=h.owns k i hk;have h2:nb k=false:=by
   cases hn:nb k with
   |false=>rfl
   |true=>
    rcases(df k hn).1 with e|e
    ·rw[hk] at e;simp at e;exact absurd e hi
    ·omega
  simp[fD,h2,hk,hi]
 have az:σ.ok w':=by
  refine⟨fun k o u hc=>?_,fun k es hc=>?_⟩
  ·have aE:own k≠some j:=fun e=>by rw[(h.owns k j e).2.2.1 o] at hc;cases hc
   rw[World.cell?_of_block (rl k (h.lt hc) aE)];exact h.ok.c k o u hc
  ·have aE:own k≠some j:=fun e=>by rw[(h.owns k j e).2.2.2] at hc;cases hc
   exact(h.ok.m k es hc).keep (rl k (h.ltm hc) aE)
 refine h.step (fun i=>i=j) rfl (.refl σ) az (fun _ _ _ hx=>.inl hx) (fun _ _ hx=>.inl hx) hw ⟨fun i=>?_,fun i e=>?_⟩ (fun i hi=>⟨?_,?_,?_,fun k hk=>⟨bM k i hi hk,?_⟩⟩) (fun i hi=>?_) (fun k i hk=>?_) (fun _=>id) (fun t=>.inl ⟨rfl,rfl,rfl⟩) (fun _ _=>rfl) (fun k hk e=>rl k hk (by rw[e];simp)) (fun k i hk=>by
  unfold fD at hk;split at hk
  ·rename_i hn;rcases(df k hn).1 with e|e
   ·exact .inl ⟨j,e⟩
   ·exact .inr e
  ·split at hk
   ·cases hk
   ·exact .inl ⟨i,hk⟩) (fun i hi=>by subst hi;simpa only[St.newO,aQ] using mE)
 ·simp only[St.newO,fI];split<;>rename_i e
  ·subst e;omega
  ·omega
 ·simp only[St.newO,fI] at e;split at e
  ·rename_i e';subst e';omega
  ·rename_i aE;exact bk _ _ aE
 ·simp[St.newO,bk _ _ hi]
 ·simp[Env.setO,bk _ _ hi]
 ·exact bk _ _ hi
 ·exact rl k (h.owns k i hk).2.1 (by rw[hk];simpa using hi)
 ·subst hi;simp only[St.newO,aQ];exact cE
 ·unfold fD at hk;split at hk
  ·rename_i hn;obtain⟨g1,g2⟩:=df k hn;rcases g1 with e|e
   ·obtain⟨f1,f2,f3,f4⟩:=h.owns k j e;exact⟨f1,g2,f3,f4⟩
   ·refine⟨by omega,g2,fun o=>?_,?_⟩
    ·cases hc:σ.c k o with
     |none=>rfl
     |some u=>have:=h.lt hc;omega
    ·cases hc:σ.m k with
     |none=>rfl
     |some u=>have:=h.ltm hc;omega
  ·split at hk
   ·cases hk
   ·obtain⟨g1,g2,g3,g4⟩:=h.owns k i hk;exact⟨g1,by have:=hw.size;omega,g3,g4⟩
theorem Inv.updB (h:Inv C S ρ σ own hv w0 σ0 A a w)(j:Nat)(ob:Ob)(d:D){w':World}(hw:Below w0.heap.size w w')
 (rl:∀k,k<w.heap.size→own k≠some j→w'.heap[k]?=w.heap[k]?)
 (cE:cg C (S.setO j ob) (ρ.setO j d) σ own hv w' w0.heap.size j ob) (mE:ob≠.tr:=by intro h;cases h):Inv C (S.setO j ob) (ρ.setO j d) σ own hv w0 σ0 A a w':=by
 have az:σ.ok w':=by
  refine⟨fun k o u hc=>?_,fun k es hc=>?_⟩
  ·have aE:own k≠some j:=fun e=>by rw[(h.owns k j e).2.2.1 o] at hc;cases hc
   rw[World.cell?_of_block (rl k (h.lt hc) aE)];exact h.ok.c k o u hc
  ·have aE:own k≠some j:=fun e=>by rw[(h.owns k j e).2.2.2] at hc;cases hc
   exact(h.ok.m k es hc).keep (rl k (h.ltm hc) aE)
 refine h.step (fun i=>i=j) rfl (.refl σ) az (fun _ _ _ hx=>.inl hx) (fun _ _ hx=>.inl hx) hw (Compat.setO _ _ _ _) (fun i hi=>⟨by simp[St.setO,bk _ _ hi],by simp[Env.setO,bk _ _ hi],rfl,fun k hk=>⟨hk,rl k (h.owns k i hk).2.1 (by rw[hk];simpa using hi)⟩⟩) (fun i hi=>?_) (fun k i hk=>?_) (fun _=>id) (fun t=>.inl ⟨rfl,rfl,rfl⟩) (fun _ _=>rfl) (fun k hk e=>rl k hk (by rw[e];simp)) (fun k i hk=>.inl ⟨i,hk⟩) (fun i hi=>by subst hi;rw[St.setO_o];exact mE)
 ·subst hi;rw[St.setO_o];exact cE
 ·obtain⟨g1,g2,g3,g4⟩:=h.owns k i hk;exact⟨g1,by have:=hw.size;omega,g3,g4⟩
theorem XY {B:Nat}{w w':World}{row:Option Nat}(hg:w.grownBy w' row)(hB:B≤w.heap.size)(hr:∀k,row=some k→B≤k):Below B w w':=(Below.refl B w).grown hg hB hr
theorem aas {z:Array Value}{n i q:Nat}(hz:0<z.size)(hi:i<n)(hq:q<z.size):(madeCells z (n*z.size))[i*z.size+q]?=z[q]?:=by
 have af:i*z.size+q<n*z.size:=by
  have:(i+1)*z.size≤n*z.size:=Nat.mul_le_mul_right _ hi;rw[Nat.add_mul] at this;omega
 have hm:(i*z.size+q)%z.size=q:=by rw[Nat.add_comm,Nat.add_mul_mod_self_right,Nat.mod_eq_of_lt hq]
 simp[madeCells,Array.getElem?_range,af,hm,hq]
theorem aok (h:Inv C S ρ σ own hv w0 σ0 A a w)(hC:CtxOK C σ0)(ht:¬A dst)(af:dst<a.tmps.size){T:TypeId}{l c:Operand}{r:St×List PI}(hr:Bi C S dst T l c=some r){o:Oper}(hd:o.dst=some dst)(ho:o.op=.makeSlice T l c):bR C w0 σ0 Φ S ρ A a w o r:=by
 unfold Bi at hr;split at hr
 case h_2=>cases hr
 rename_i E k1 n k2 m hT hl hc;simp only[Option.bind_eq_some_iff] at hr;obtain⟨e,he,hr⟩:=hr;cases hf:pI C.P E e<;>simp only[hf,cond_true,cond_false] at hr
 ·cases hr
 obtain⟨inf,z0,hi,hs,hb,h1,hz,lx⟩:=Oh hf;simp only[Option.bind_eq_some_iff] at hr;obtain⟨z,hzt,hr⟩:=hr;cases bV:Ty.sub z.1 e<;>simp only[bV,cond_true,cond_false] at hr
 ·cases hr
 cases hr;obtain⟨n1,aP,bf,b1,b2⟩:=(cd h hC rfl hl).int_inv;obtain⟨n2,gh,dt,b3,b4⟩:=(cd h hC rfl hc).int_inv;simp only at bf dt;have CC:=((w7 (cap:=C.cap) (σ:=σ) hzt lx).1).sub bV;refine bR.value hd fun ρ' ak=>?_;simp only[PI.runs,PI.run,Option.bind_eq_some_iff] at ak;obtain⟨ρ1,g1,ρ2,g2,ak⟩:=ak;cases c1:((Qr n).ev ρ).b<;>simp only[c1,cond_true,cond_false] at g1
 ·cases g1
 cases g1;cases c2:((PE.ci BinOp.eql n m).ev ρ).b<;>simp only[c2,cond_true,cond_false] at g2
 ·cases g2
 cases g2;have atN:n1=n2:=by simpa [PE.ev,bf,dt,D.i_int,D.b_bool,gN] using c2
 subst atN;have hb:0≤n1∧n1≤mN:=by simpa [Qr,PE.ev,bf,D.i_int,D.b_bool,gN,D.int] using c1
 obtain⟨nn,rfl⟩:=Int.eq_ofNat_of_zero_le hb.1;have Cb:nn≤4294967296:=by have:=hb.2;unfold mN at this;omega
 have rC:z0.cells.size=e.size:=V0 lx;obtain⟨w',r1,r2,r3⟩:=run_make_full (P:=C.P) w w0.heap.size T E inf z0 e.size hT hi hz hs k1 k2 nn (by
  have:inf.bytes*nn≤vP*4294967296:=Nat.mul_le_mul (by assumption) Cb;unfold vP at this;omega) (by unfold maxLen;omega) h.below.size
 refine⟨.slice (some ⟨w.heap.size,0,none⟩) nn nn,w',by simp[execOp,ho,aP,gh,r1],?_⟩;obtain⟨ρ3,g3,ρ4,g4,g5⟩:=ak;cases g3;cases g4;cases g5;simp only[PE.ev,bf,D.i_int,Int.toNat_natCast];have hlen:(List.replicate nn z.2).length=nn:=by simp
 refine h.mkObj ht af (.row E e) _ _ (fun k=>Nat.beq k w.heap.size) (XY r3 (Nat.le_refl _) (by simp)) (fun k hk=>?_) ⟨_,List.replicate nn z.2,by simp[Env.setO,aQ],by rw[aQ,hlen];exact r2,⟨fun _=>z0,fun i x hx=>?_,fun i j u hi hj=>?_⟩,fun k hk=>?_⟩
 ·have bU:k=w.heap.size:=Nat.eq_of_beq_eq_true hk;have:=(r2.lt _ rfl).2;subst bU;exact⟨Nat.le_refl _,this⟩
 ·have:=(List.getElem?_eq_some_iff.1 hx)
  obtain⟨q1,q2⟩:=this;simp at q2;subst q2;exact CC
 ·rw[hlen] at hi;have cN:j<z0.cells.size:=(Array.getElem?_eq_some_iff.1 hj).1;rw[Array.getElem?_toList,←rC];rw[aas (by omega) hi cN];exact hj
 ·rw[aQ] at hk;simp[Value.ownBlock] at hk;simp[fD,hk]
theorem lV.push {arr:Array MapEntry}{clock:Nat}(h:lV arr clock)(k v:Value):lV (arr.push {key:=k,val:=v,born:=clock}) (clock+1):=by
 have key:∀(i:Nat) (e:MapEntry),(arr.push {key:=k,val:=v,born:=clock})[i]?=some e→(arr[i]?=some e∧e.born<clock)∨(i=arr.size∧e.born=clock):=by
  intro i e he;rw[Array.getElem?_push] at he;split at he
  ·rename_i hi;cases he;exact .inr ⟨hi,rfl⟩
  ·exact .inl ⟨he,h.1 i e he⟩
 refine⟨fun i e he=>?_,fun i j e f he hf hb=>?_⟩
 ·rcases key i e he with⟨_,h1⟩|⟨_,h1⟩<;>omega
 ·rcases key i e he with⟨h1,h2⟩|⟨h1,h2⟩<;>rcases key j f hf with⟨h3,h4⟩|⟨h3,h4⟩
  ·exact h.2 i j e f h1 h3 hb
  ·omega
  ·omega
  ·omega
theorem lV.modify {arr:Array MapEntry}{clock:Nat}(h:lV arr clock)(i0:Nat)(k v:Value):lV (arr.modify i0 fun e=>{e with key:=k,val:=v}) clock:=by
 have key:∀(i:Nat) (e:MapEntry),(arr.modify i0 fun e=>{e with key:=k,val:=v})[i]?=some e→∃e',arr[i]?=some e'∧e'.born=e.born:=by
  intro i e he;rw[Array.getElem?_modify] at he;split at he
  ·simp only[Option.map_eq_some_iff] at he;obtain⟨e',h1,rfl⟩:=he;exact⟨e',h1,rfl⟩
  ·exact⟨e,he,rfl⟩
 refine⟨fun i e he=>?_,fun i j e f he hf hb=>?_⟩
 ·obtain⟨e',h1,h2⟩:=key i e he;rw[←h2];exact h.1 i e' h1
 ·obtain⟨e',h1,h2⟩:=key i e he;obtain⟨f',h3,h4⟩:=key j f hf;exact h.2 i j e' f' h1 h3 (by rw[h2,h4,hb])
theorem Xr (h:Inv C S ρ σ own hv w0 σ0 A a w)(hC:CtxOK C σ0){T:TypeId}{m k v:Operand}{r:St×List PI}(hr:qW C S T m k v=some r){o:Oper}(hd:o.dst=none)(ho:o.op=.mapUpdate T m k v∨o.op=.insert T m k v):bR C w0 σ0 Φ S ρ A a w o r:=by
 unfold qW at hr;split at hr
 case h_2=>cases hr
 rename_i K E j ver hT es;obtain⟨eh,_⟩:=wU h (gs:=[]) rfl m;rw[es] at eh;cases hb:Nat.beq ver (S.ver j)<;>simp only[hb,cond_true,cond_false] at hr
 ·cases hr
 have bW:=eh.2 (Nat.eq_of_beq_eq_true hb);have be:=h.objs j;split at hr
 case h_2=>cases hr
 rename_i kt et tk ek tv ev eo hk vD;rw[eo] at be;cases hc:(Ty.beq tk kt&&tw C.P K kt&&Ty.sub tv et)<;>simp only[hc,cond_true,cond_false] at hr
 ·cases hr
 cases hr;simp only[Bool.and_eq_true] at hc;obtain⟨⟨Hv,B5⟩,bV⟩:=hc;obtain⟨g,arr,clock,ds,h1,h2,h3,h4,h5,⟨h6,pS⟩,h7⟩:=be;have bU:=cd h hC rfl hk;rw[Ty.beq_eq _ _ Hv] at bU;have hv':=(cd h hC rfl vD).sub bV;refine bR.skip hd fun ρ' ak=>?_;simp only[PI.runs,PI.run,Option.bind_eq_some_iff] at ak;obtain⟨ρ1,g1,ρ2,g2,g3⟩:=ak;cases c1:((PE.ci BinOp.lss (.mlen (.o j)) (.con (.int mN))).ev ρ).b<;>simp only[c1,cond_true,cond_false] at g1
 ·cases g1
 cases g1;cases g2;cases g3;have atx:ds.length<4294967296:=by
  have h8:=anl c1;simp only[PE.ev,h4,D.m,D.i_int,D.int] at h8;exact avw h8
 have ff:(Instr.checkKey false 10000 K (a.eval k)).run C.P w=.ok () w:=W3 (cap:=C.cap) (σ:=σ) B5 bU;have kI:∃sl xl ds',(Instr.mapUpdate T (a.eval m) (a.eval k) (a.eval v)).run C.P w=.ok () {w with heap:=w.heap.setIfInBounds g (.map sl xl)}∧eF (ek.ev ρ) (ev.ev ρ) ds=ds'∧ds'.length=sl.size∧(ds'.length≤maxLen∧lV sl xl)∧
  ∀(i:Nat) (e:MapEntry) (p:D×D),sl[i]?=some e→ds'[i]?=some p→Rep C.cap σ kt e.key p.1∧Rep C.cap σ et e.val p.2:=by
  rcases run_findKey B5 bU arr ds h5 h7 w with⟨f1,f2,f3⟩|⟨i,e,p,f1,f2,f3,f4,f5,f6⟩
  ·refine⟨arr.push {key:=a.eval k,val:=a.eval v,born:=clock},clock+1,ds++[(ek.ev ρ,ev.ev ρ)],?_,f3 _,by simp[h5],⟨by simp;unfold maxLen;omega,pS.push _ _⟩,fun q e p he hp=>?_⟩
   ·rw[bW,h1];simp[Instr.mapUpdate,run_underlying hT,getObj,Sem.run,h3,ff,f1,setObj]
   ·rw[Array.getElem?_push] at he;rw[List.getElem?_append] at hp;by_cases hq:q=arr.size
    ·subst hq;simp at he;rw[if_neg (by omega)] at hp;simp[h5] at hp;subst he;subst hp;exact⟨bU,hv'⟩
    ·rw[if_neg hq] at he;have HH:q<arr.size:=(Array.getElem?_eq_some_iff.1 he).1;rw[if_pos (by omega)] at hp;exact h7 q e p he hp
  ·refine⟨arr.modify i fun e=>{e with key:=a.eval k,val:=a.eval v},clock,ds.set i (ek.ev ρ,ev.ev ρ),?_,f5 _,by simp[h5],⟨by simp;exact h6,pS.modify _ _ _⟩,fun q e' p' he hp=>?_⟩
   ·rw[bW,h1];have cA:(Instr.keyThatStays e.key (a.eval k)).run C.P w=.ok (a.eval k) w:=by simp[Instr.keyThatStays,f6]
    simp[Instr.mapUpdate,run_underlying hT,getObj,Sem.run,h3,ff,f3,f1,cA,setObj]
   ·rw[Array.getElem?_modify] at he;rw[List.getElem?_set] at hp;by_cases hq:i=q
    ·subst hq;simp only[if_true] at he hp;rw[f1] at he;simp at he;split at hp
     ·cases hp;subst he;exact⟨bU,hv'⟩
     ·cases hp
    ·rw[if_neg hq] at he hp;exact h7 q e' p' he hp
 obtain⟨sl,xl,ds',r1,r2,r3,r4,r5⟩:=kI;refine⟨{w with heap:=w.heap.setIfInBounds g (.map sl xl)},by rcases ho with ho|ho<;>simp[execOp,ho,r1],?_⟩;have YD:g<w.heap.size:=(Array.getElem?_eq_some_iff.1 h3).1;have hgB:w0.heap.size≤g:=(h.owns g j h2).1;have bE:(PE.put (.o j) ek ev).ev ρ=.map ds':=by simp only[PE.ev,h4,D.m,r2]
 rw[bE]
 have:=h.updB j (.mp kt et) (.map ds') (w':={w with heap:=w.heap.setIfInBounds g (.map sl xl)}) ⟨rfl,rfl,rfl,by simp,fun k hk=>by simp;rw[Array.getElem?_setIfInBounds_ne (by omega)]⟩
  (fun k hk aE=>by simp;rw[Array.getElem?_setIfInBounds_ne (fun e=>aE (by rw[←e];exact h2))])
  ⟨g,sl,xl,ds',h1,h2,by simp[YD],by simp[Env.setO,aQ],r3,r4,r5⟩
 have eS:S.setO j (.mp kt et)=S:=St.setO_self eo;rw[eS] at this;exact⟨_,_,_,this⟩
end
end Cx
namespace Cx
open Go Go.RowKit
theorem aCE {e:Ty}{z:Value}(h:iT e z=true):e.rowT=true∨e.one=true:=by
 cases e<;>first|exact .inl rfl|exact .inr rfl|(cases z<;>simp[iT,w6] at h)
theorem Rep.cellsOne {cap:Nat→Option CSig}{σ:Im}{t:Ty}{v:Value}{d:D}(h:Rep cap σ t v d)(ht:t.rowT=true∨t.one=true){m:Nat}{u:Value}(hu:v.cells[m]?=some u):u.oneCell'=true:=by
 obtain⟨f1,f2,f3⟩:=h.flat ht;have af:m<v.cells.size:=(Array.getElem?_eq_some_iff.1 hu).1;rw[h.size] at af;obtain⟨g1,g2⟩:=f3 m _ (List.getElem?_eq_getElem (by omega:m<t.flat.length));have:=(g2.oneCell g1).2;rw[Array.getD_eq_getD_getElem?,hu] at this;exact this
theorem aoJ {cap:Nat→Option CSig}{σ:Im}{e:Ty}{cells:List Value}{xs:List D}(h:gm cap σ e cells xs)(hl:cells.length=xs.length*e.size)(gy:e.rowT=true∨e.one=true):∀u∈cells,u.oneCell'=true:=by
 obtain⟨vs,h1,h2⟩:=h;intro u hu;obtain⟨p,hp,rfl⟩:=List.getElem_of_mem hu;rw[hl] at hp;have hs:0<e.size:=Nat.pos_of_ne_zero fun e0=>by rw[e0] at hp;simp at hp
 have hi:p/e.size<xs.length:=(Nat.div_lt_iff_lt_mul hs).2 hp;have hq:p%e.size<e.size:=Nat.mod_lt _ hs;have bN:=h1 _ _ (List.getElem?_eq_getElem hi);have aK:=bN.size;have oA:(vs (p/e.size)).cells[p%e.size]?=some (vs (p/e.size)).cells[p%e.size]:=Array.getElem?_eq_getElem (by omega);have:=h2 _ _ _ hi oA;rw[Nat.mul_comm,Nat.div_add_mod] at this;have h3:cells[p]=(vs (p/e.size)).cells[p%e.size]:=by
  have h4:=List.getElem?_eq_getElem (show p<cells.length by omega);rw[h4] at this;exact Option.some.inj this
 rw[h3];exact bN.cellsOne gy oA
theorem aoI {cap:Nat→Option CSig}{σ:Im}{e:Ty}{c1 c2:List Value}{xs ys:List D}(h:gm cap σ e c1 xs)(k:gm cap σ e c2 ys)(hl:c1.length=xs.length*e.size):gm cap σ e (c1++c2) (xs++ys):=by
 obtain⟨vs,h1,h2⟩:=h;obtain⟨us,k1,k2⟩:=k;refine⟨fun i=>if i<xs.length then vs i else us (i-xs.length),fun i x hx=>?_,fun i j u hi hj=>?_⟩
 ·rw[List.getElem?_append] at hx;split at hx
  ·rename_i af;simp only[af,if_true];exact h1 i x hx
  ·rename_i af;simp only[af,if_false];exact k1 _ x hx
 ·by_cases af:i<xs.length
  ·simp only[af,if_true] at hj;have:=h2 i j u af hj;rw[List.getElem?_append_left (List.getElem?_eq_some_iff.1 this).1];exact this
  ·simp only[af,if_false] at hj;have du:i-xs.length<ys.length:=by simp at hi;omega
   have:=k2 _ j u du hj;have e1:i*e.size=c1.length+(i-xs.length)*e.size:=by rw[hl,←Nat.add_mul];congr 1;omega
   rw[List.getElem?_append_right (by omega)];rw[show i*e.size+j-c1.length=(i-xs.length)*e.size+j by omega];exact this
section
variable {C:Ctx} {S:St} {ρ:Env} {σ:Im} {own:Nat→Option Nat} {hv:Nat→Value} {w0:World} {σ0:Base} {A:Nat→Prop} {a:Act} {w:World} {gs:List (Nat×Bool)} {Φ:aS} {dst:Nat}
theorem aCk (h:Inv C S ρ σ own hv w0 σ0 A a w){B:Nat}{e f:Ty}{v:Value}{d:D}(hs:0<e.size)(gy:e.rowT=true∨e.one=true)(hf:f.unf=e)(P8:M2 C σ w B (.slice f) v d):
 ∃ys,d=.list ys∧ys.length≤maxLen∧((v=.slice none 0 0∧ys=[])∨∃(ad:Addr) (c:Nat) (news:List Value),v=.slice (some ad) ys.length c∧news.length=ys.length*e.size∧
  (∀j u,news[j]?=some u→w.cell? (ad.add j)=some u)∧gm C.cap σ e news ys):=by
 rcases P8 with hr|⟨T,e',cells,xs,ht,hd,bM,ia⟩|⟨k,arr,clock,es,kt,et,ht,_⟩
 ·obtain⟨xs,hd,pU⟩:=hr.slice_inv;rw[←f.unf_size,hf] at pU;rcases pU with⟨⟨p0,aP⟩,rfl⟩|⟨k,o,c,aP,h1,h2,vs,h3,h4⟩
  ·cases p0 with
   |none=>exact⟨[],hd,by simp,.inl ⟨aP,rfl⟩⟩
   |some a0=>exact⟨[],hd,by simp,.inr ⟨a0,0,[],aP,by simp,fun j u hu=>by simp at hu,fun _=>undef,fun i x hx=>by simp at hx,fun i j u hi=>by simp at hi⟩⟩
  ·refine⟨xs,hd,by omega,.inr ⟨⟨k,o,none⟩,c,(List.range (xs.length*e.size)).map fun p=>(vs (p/e.size)).cells.getD (p%e.size) undef,aP,by simp,fun j u hu=>?_,vs,h3,fun i j u hi hj=>?_⟩⟩
   ·simp only[List.getElem?_map,Option.map_eq_some_iff] at hu;obtain⟨p,hp,rfl⟩:=hu;have eD:j<xs.length*e.size:=by have:=(List.getElem?_eq_some_iff.1 hp).1;simpa using this
    rw[List.getElem?_range eD] at hp;cases hp;have hi:j/e.size<xs.length:=(Nat.div_lt_iff_lt_mul hs).2 eD;have hq:j%e.size<e.size:=Nat.mod_lt _ hs;have bN:=h3 _ _ (List.getElem?_eq_getElem hi);have aK:=bN.size;have oA:(vs (j/e.size)).cells[j%e.size]?=some ((vs (j/e.size)).cells.getD (j%e.size) undef):=by
     rw[Array.getD_eq_getD_getElem?,Array.getElem?_eq_getElem (by omega)];rfl
    have:=h.cell (h4 _ _ _ hi oA);rw[sf]
    rwa [show o+j/e.size*e.size+j%e.size=o+j by rw[Nat.add_assoc,Nat.mul_comm,Nat.div_add_mod]] at this
   ·have bN:=h3 _ _ (List.getElem?_eq_getElem hi);have cN:j<e.size:=by rw[←bN.size];exact(Array.getElem?_eq_some_iff.1 hj).1
    have af:i*e.size+j<xs.length*e.size:=by
     have:(i+1)*e.size≤xs.length*e.size:=Nat.mul_le_mul_right _ hi;rw[Nat.add_mul] at this;omega
    have e1:(i*e.size+j)/e.size=i:=by rw[Nat.mul_comm,Nat.mul_add_div hs,Nat.div_eq_of_lt cN];omega
    have e2:(i*e.size+j)%e.size=j:=by rw[Nat.add_comm,Nat.add_mul_mod_self_right,Nat.mod_eq_of_lt cN]
    simp only[List.getElem?_map,List.getElem?_range af,Option.map_some,e1,e2];rw[Array.getD_eq_getD_getElem?,hj];rfl
 ·cases ht;rw[Ty.unf_rol] at hf;obtain⟨b,c,aP,hm,_⟩:=wj bM;have ia:gm C.cap σ e cells xs:=by
   obtain⟨us,u1,u2⟩:=ia;refine⟨us,fun i x hx=>hf▸(u1 i x hx).unf,fun i j u hi hu=>?_⟩;rw[←hf,Ty.unf_size];exact u2 i j u hi hu
  have bM:w.ownsRow B T e.size v xs.length cells:=by rw[←hf,Ty.unf_size];exact bM
  rcases bM.2 with⟨e1,e2⟩|⟨g,cap,cur,e1,e2⟩
  ·have:xs=[]:=List.eq_nil_of_length_eq_zero e2;subst this;exact⟨[],hd,by simp,.inl ⟨e1,rfl⟩⟩
  ·exact⟨xs,hd,hm,.inr ⟨⟨g,0,none⟩,cap,cells,e1,bM.1,bM.cells (by rw[e1];rfl),ia⟩⟩
 ·cases ht
theorem ay8 {P:Program}{B:Nat}{T E ty:TypeId}{inf:TypeInfo}{z:Value}{size:Nat}{v x:Value}{n m:Nat}{xs news:List Value}(hT:P.underlying T=some (.slice E))(hi:P.info? E=some inf)(hz:inf.zero=some z)
 (hs:inf.size=size) (rC:z.cells.size=size) (aK:0<size) (oz:inf.bytes≤vP) (bM:w.ownsRow B E size v n xs) (hB:B≤w.heap.size) (cW:n+m≤4294967296)
 (hx:(x=.slice none 0 0∧m=0∧news=[])∨∃(ad:Addr) (c:Nat),x=.slice (some ad) m c∧news.length=m*size∧(∀j u,news[j]?=some u→w.cell? (ad.add j)=some u)∧∀u∈news,u.oneCell'=true):
 ∃v' w',(Builtin.append_ #[T,T] ty #[v,x]).run P w=.ok v' w'∧w'.ownsRow B E size v' (n+m) (xs++news)∧w.grownBy w' v.ownBlock∧∀k,v'.ownBlock=some k→v.ownBlock=some k∨(w.heap.size≤k∧k<w'.heap.size):=by
 rcases hx with⟨rfl,rfl,rfl⟩|⟨ad,c,rfl,hl,HA,h1⟩
 ·refine⟨v,w,run_append_owned_none w B T ty E inf size hT hi v n xs bM,by simpa using bM,⟨rfl,rfl,rfl,Nat.le_refl _,fun _ _ _=>rfl⟩,fun k hk=>.inl hk⟩
 ·have OY:(n+m)*inf.bytes≤140737488355328:=by
   have:(n+m)*inf.bytes≤4294967296*vP:=Nat.mul_le_mul cW oz;unfold vP at this;omega
  obtain⟨v',w',r1,r2,r3,r4⟩:=run_append_own (P:=P) w B T ty E inf z size inf.bytes hT hi hz hs rfl rC aK v n xs bM ad m c news hl HA h1 (by unfold maxLen;omega) OY hB;refine⟨v',w',r1,r2,r3,fun k hk=>?_⟩;have af:=(r2.lt k hk).2;subst hs;rcases bM.2 with⟨rfl,rfl⟩|⟨g,cap,cur,rfl,hbg,hg,dg,mu,eP,Ct⟩
  ·by_cases hm:m=0
   ·subst hm;have:=r4.2 ⟨rfl,rfl⟩;subst this;simp[Value.ownBlock] at hk
   ·have hr:=run_append_nil (P:=P) w T ty E inf z hT hi hz ad m c news hl HA (by omega) (by omega) (by have hb:=OY;simp only[Nat.zero_add] at hb;omega);rw[hr] at r1;cases r1;simp[Value.ownBlock] at hk;subst hk;exact .inr ⟨Nat.le_refl _,af⟩
  ·by_cases Zn:n+m≤cap
   ·have Hn:n*inf.size+news.length≤cur.size:=by rw[hl,eP,←Nat.add_mul];exact Nat.mul_le_mul_right _ Zn
    have hr:=run_append_room (P:=P) w T ty E inf hT hi g n cap cur hg ad m c news hl HA h1 Zn Hn;rw[hr] at r1;cases r1;exact .inl hk
   ·have hr:=run_append_grow (P:=P) w T ty E inf z hT hi hz ⟨g,0,none⟩ n cap xs bM.1 (bM.cells (g:=g) rfl) ad m c news hl HA (by omega) (by omega) (growslice_fits (by omega) OY);rw[hr] at r1;cases r1;simp[Value.ownBlock] at hk;subst hk;exact .inr ⟨Nat.le_refl _,af⟩
theorem an0 (h:Inv C S ρ σ own hv w0 σ0 A a w)(hC:CtxOK C σ0)(ht:¬A dst)(af:dst<a.tmps.size){T:TypeId}{s x:Operand}{r:St×List PI}(hr:Bd C S dst T s x=some r){o:Oper}(hd:o.dst=some dst)
 (ho:o.op=.call {callee:=.builtin .append,args:=#[s,x],argTypes:=#[T,T]}):bR C w0 σ0 Φ S ρ A a w o r:=by
 unfold Bd at hr;split at hr
 case h_2=>cases hr
 rename_i E hT;simp only[Option.bind_eq_some_iff] at hr;obtain⟨e,he,hr⟩:=hr;split at hr
 case h_2=>cases hr
 rename_i tx ex P8;have hv':=VX h hC (gs:=[]) rfl P8;obtain⟨cs,ak⟩:=Tf (C:=C) (w:=w) (a:=a) ho;cases hc:(pI C.P E e&&Mn tx e)<;>simp only[hc,cond_true,cond_false] at hr
 ·cases hr
 simp only[Bool.and_eq_true] at hc;obtain⟨inf,z,hi,hs,oz,h1,hz,lx⟩:=Oh hc.1;have rC:=V0 lx;have gy:=aCE lx;have P9:∃f:Ty,f.unf=e∧M2 C σ w w0.heap.size (.slice f) (a.eval x) (ex.ev ρ):=by
  have cA:=hc.2;unfold Mn at cA;split at cA
  ·exact⟨_,Ty.beq_eq _ _ cA,hv'⟩
  ·refine⟨e,Ty.unf_ro gy,?_⟩;rcases hv' with hr|⟨_,_,_,_,ht,_⟩|⟨_,_,_,_,_,_,ht,_⟩
   ·exact .inl (hr.sub (by simp[Ty.sub]))
   ·cases ht
   ·cases ht
  ·cases cA
 obtain⟨fv,ei,P9⟩:=P9;obtain⟨ys,Hl,jO,auA⟩:=aCk h h1 gy ei P9;have hx:∃news,gm C.cap σ e news ys∧news.length=ys.length*e.size∧((a.eval x=.slice none 0 0∧ys.length=0∧news=[])∨∃(ad:Addr) (c:Nat),a.eval x=.slice (some ad) ys.length c∧news.length=ys.length*e.size∧(∀j u,news[j]?=some u→w.cell? (ad.add j)=some u)∧∀u∈news,u.oneCell'=true):=by
  rcases auA with⟨e1,rfl⟩|⟨ad,c,news,e1,e2,e3,e4⟩
  ·exact⟨[],⟨fun _=>undef,by simp,by simp⟩,by simp,.inl ⟨e1,rfl,rfl⟩⟩
  ·exact⟨news,e4,e2,.inr ⟨ad,c,e1,e2,e3,aoJ e4 e2 gy⟩⟩
 obtain⟨news,aE,Zc,hx⟩:=hx;have main:∀(j:Nat) (v:Value) (xs:List D) (cells:List Value),a.eval s=v→w.ownsRow w0.heap.size E e.size v xs.length cells→gm C.cap σ e cells xs→xs.length+ys.length≤4294967296→
  (∀k,v.ownBlock=some k→own k=some j)→
  ∃v' w',(execOp a.eval o).run C.P w=.ok (.value v') w'∧Good C w0 σ0 ((S.newO j (.row E e)).setR dst (.obj j (S.ver j+1))) ((ρ.setO j (.list (xs++ys))).setR dst .none) (fun u=>A u∨u=dst) (a.put (some dst) v') w':=by
  intro j v xs cells PY bM ia hlen cE;obtain⟨v',w',r1,r2,r3,r4⟩:=ay8 (P:=C.P) (ty:=o.type) hT hi hz hs rC h1 oz bM h.below.size hlen hx;refine⟨v',w',by rw[ak];simp[builtin,PY,r1],?_⟩
  have auT:=h.updO j (.row E e) (.list (xs++ys)) v' (fun k=>decide (v'.ownBlock=some k)) (w':=w') (XY r3 h.below.size (fun k hk=>(h.owns k j (cE k hk)).1)) (fun k hk aE=>r3.block k hk (fun e=>aE (cE k e.symm))) (fun k hk=>by
        have bU:v'.ownBlock=some k:=by simpa using hk
        rcases r4 k bU with e|e
        ·exact⟨.inl (cE k e),(r2.lt k bU).2⟩
        ·exact⟨.inr e.1,e.2⟩)
   ⟨cells++news,xs++ys,by simp[Env.setO,aQ],by rw[aQ,List.length_append];exact r2,aoI ia aE bM.1,fun k hk=>by rw[aQ] at hk;simp[fD,hk]⟩
  have h2:=auT.setObj ht (j:=j) (v:=v') (aQ _ _ _) af;have e:(S.newO j (.row E e)).ver j=S.ver j+1:=aQ _ _ _;rw[e] at h2;exact⟨_,_,_,h2⟩
 split at hr
 ·rename_i e0 pe0 hu;cases hr;refine bR.value hd fun ρ' p8=>?_;have PZ:=cd h hC rfl hu;have PY:a.eval s=.slice none 0 0:=by
   generalize a.eval s=v at PZ;generalize pe0.ev ρ=d at PZ;cases PZ;rfl
  simp only[PI.runs,PI.run,Option.bind_eq_some_iff] at p8;obtain⟨ρ1,g1,ρ2,g2,ρ3,g3,g4⟩:=p8;cases c1:((H4 (.con (.list [])) ex).ev ρ).b<;>simp only[c1,cond_true,cond_false] at g1
  ·cases g1
  cases g1;cases g2;cases g3;cases g4;have hlen:=W4 c1;simp only[PE.ev,D.l_list,Hl,List.nil_append,D.i_int,D.int] at hlen;have:=main dst (.slice none 0 0) [] [] PY (World.ownsRow_nil _ _ _ _) ⟨fun _=>undef,by simp,by simp⟩ (by simpa using aac hlen) (by simp[Value.ownBlock]);simpa [PE.ev,D.l_list,Hl,mkObj] using this
 ·cases hr
 ·obtain⟨eh,_⟩:=wU h (gs:=[]) rfl s;split at hr
  case h_2=>cases hr
  rename_i j ver es;rw[es] at eh;cases hb:Nat.beq ver (S.ver j)<;>simp only[hb,cond_true,cond_false] at hr
  ·cases hr
  have bW:=eh.2 (Nat.eq_of_beq_eq_true hb);have be:=h.objs j;split at hr
  case h_2=>cases hr
  rename_i E' e' eo;rw[eo] at be;cases jf:(Nat.beq E' E&&Ty.beq e' e)<;>simp only[jf,cond_true,cond_false] at hr
  ·cases hr
  cases hr;simp only[Bool.and_eq_true] at jf;have e1:=Nat.eq_of_beq_eq_true jf.1;have e2:=Ty.beq_eq _ _ jf.2;subst e1;subst e2;obtain⟨cells,xs,k1,k2,k3,k4⟩:=be;refine bR.value hd fun ρ' p8=>?_;simp only[PI.runs,PI.run,Option.bind_eq_some_iff] at p8;obtain⟨ρ1,g1,ρ2,g2,ρ3,g3,g4⟩:=p8;cases c1:((H4 (.o j) ex).ev ρ).b<;>simp only[c1,cond_true,cond_false] at g1
  ·cases g1
  cases g1;cases g2;cases g3;cases g4;have hlen:=W4 c1;simp only[PE.ev,D.l_list,Hl,k1,D.i_int,D.int] at hlen;have:=main j (hv j) xs cells bW k2 k3 (by have:=aac hlen;simpa using this) k4;simpa [PE.ev,D.l_list,Hl,k1] using this
end
end Cx
namespace Cx
open Go Go.RowKit
theorem Md {P:Program}{a:Act}{w:World}{o:Oper}{T:TypeId}{x v:Operand}{inf:TypeInfo}{k off:Nat}{cs:Array Value}{E:TypeId}(ho:o.op=.store T x v)(hi:P.info? T=some inf)(hx:a.eval x=.pointer (some ⟨k,off,none⟩))
 (hs:(a.eval v).cells.size=inf.size) (dY:∀u∈(a.eval v).cells.toList,u.oneCell'=true) (hb:w.heap[k]?=some (.cells cs E (0,0))) (hle:off+inf.size≤cs.size):
 (execOp a.eval o).run P w=.ok .skip (w.setRow k (cs.toList.take off++(a.eval v).cells.toList++cs.toList.drop (off+inf.size)).toArray):=by
 have:=run_storeCells_at P k off E (a.eval v).cells.toList 0 cs w hb (by simp[hs];exact hle) dY;simp only[Nat.add_zero,Array.length_toList,hs] at this;simp[execOp,ho,Instr.storeAt,hx,Instr.sureAddr,storeVar,Go.sizeOf,run_typeInfo w hi,hs,this]
theorem ago {w:World}{B k:Nat}{cs:Array Value}(hB:B≤k):Below B w (w.setRow k cs)∧∀i,i≠k→(w.setRow k cs).heap[i]?=w.heap[i]?:=
 ⟨⟨rfl,rfl,rfl,by simp[World.setRow],fun i hi=>setRow_other w k i cs (by omega)⟩,fun i hi=>setRow_other w k i cs hi⟩
theorem GW {α:Type}(xs ys:List α)(off:Nat)(d:α)(hle:off+ys.length≤xs.length)(i:Nat):(xs.take off++ys++xs.drop (off+ys.length)).getD i d=if off≤i∧i<off+ys.length then ys.getD (i-off) d else xs.getD i d:=by
 simp only[List.getD_eq_getElem?_getD,List.append_assoc];rw[List.getElem?_append,List.length_take,Nat.min_eq_left (by omega)];split
 ·rename_i h;rw[if_neg (by omega),List.getElem?_take,if_pos h]
 ·rename_i h;rw[List.getElem?_append];split
  ·rename_i h2;rw[if_pos (by omega)]
  ·rename_i h2;rw[if_neg (by omega),List.getElem?_drop];congr 2;omega
section
variable {C:Ctx} {S:St} {ρ:Env} {σ:Im} {own:Nat→Option Nat} {hv:Nat→Value} {w0:World} {σ0:Base} {A:Nat→Prop} {a:Act} {w:World} {gs:List (Nat×Bool)} {Φ:aS} {dst:Nat}
theorem Inv.storeBox (h:Inv C S ρ σ own hv w0 σ0 A a w){j k off:Nat}{ag:Bool}{shs news:List Sh}{cs:Array Value}{E:TypeId}{ds dn:List D}{vs:List Value}(eo:S.o j=.box ag shs)
 (h1:hv j=.pointer (some ⟨k,0,none⟩)) (h2:own k=some j) (h3:w.heap[k]?=some (.cells cs E (0,0))) (h4:cs.size=shs.length) (h5:ρ.o j=.agg ds) (h6:ds.length=shs.length)
 (h7:∀i s,shs[i]?=some s→(∀gs s',s≠.opt gs s')∧aJ C S ρ σ hv s (cs.getD i undef) (ds.getD i .none))
 (l1:news.length=vs.length) (l2:dn.length=vs.length) (hle:off+vs.length≤shs.length)
 (kH:∀i s,news[i]?=some s→(∀gs s',s≠.opt gs s')∧aJ C S ρ σ hv s (vs.getD i undef) (dn.getD i .none)):
 Inv C (S.setO j (.box ag (shs.take off++news++shs.drop (off+vs.length)))) (ρ.setO j (.agg (cH ds off dn))) σ own hv w0 σ0 A a (w.setRow k (cs.toList.take off++vs++cs.toList.drop (off+vs.length)).toArray):=by
 have hkB:w0.heap.size≤k:=(h.owns k j h2).1;obtain⟨b1,b2⟩:=ago (w:=w) (B:=w0.heap.size) (k:=k) (cs:=(cs.toList.take off++vs++cs.toList.drop (off+vs.length)).toArray) hkB;refine h.updB j _ _ b1 (fun i hi aE=>b2 i fun e=>aE (e▸h2)) ⟨k,_,E,cH ds off dn,h1,h2,setRow_heap w k cs _ E _ h3,?_,by simp[Env.setO,aQ],?_,fun i s hi=>?_⟩
 ·simp[l1];omega
 ·simp[cH,l2,l1];omega
 ·have eP:(cs.toList.take off++vs++cs.toList.drop (off+vs.length)).toArray.getD i undef=if off≤i∧i<off+vs.length then vs.getD (i-off) undef else cs.getD i undef:=by
   have e0:∀l:List Value,l.toArray.getD i undef=l.getD i undef:=fun l=>by simp[Array.getD_eq_getD_getElem?,List.getD_eq_getElem?_getD]
   rw[e0,GW cs.toList vs off undef (by simp;omega),xD cs i]
  have mw:(cH ds off dn).getD i .none=if off≤i∧i<off+vs.length then dn.getD (i-off) .none else ds.getD i .none:=by
   rw[cH,GW ds dn off .none (by omega),l2]
  rw[eP,mw];have YX:∀s v d,(∀gs s',s≠.opt gs s')→aJ C S ρ σ hv s v d→aJ C (S.setO j (.box ag (shs.take off++news++shs.drop (off+vs.length)))) (ρ.setO j (.agg (cH ds off dn))) σ hv s v d:=
   fun s v d hn hk=>aJ.mono' (.refl σ) (Compat.setO _ _ _ _) hn hk
  have kc:(shs.take off++news++shs.drop (off+vs.length))[i]?=if off≤i∧i<off+vs.length then news[i-off]? else shs[i]?:=by
   rw[List.append_assoc,List.getElem?_append,List.length_take,Nat.min_eq_left (by omega)];split
   ·rename_i h;rw[if_neg (by omega),List.getElem?_take,if_pos h]
   ·rename_i h;rw[List.getElem?_append,l1];split
    ·rename_i h2;rw[if_pos (by omega)]
    ·rename_i h2;rw[if_neg (by omega),List.getElem?_drop];congr 1;omega
  rw[kc] at hi;split
  ·rename_i hc;rw[if_pos hc] at hi;obtain⟨g1,g2⟩:=kH _ s hi;exact⟨g1,YX _ _ _ g1 g2⟩
  ·rename_i hc;rw[if_neg hc] at hi;obtain⟨g1,g2⟩:=h7 _ s hi;exact⟨g1,YX _ _ _ g1 g2⟩
theorem ay5 (h:Inv C S ρ σ own hv w0 σ0 A a w){j:Nat}(hr:mK (S.o j)=true):(hv j).cells=#[hv j]∧(hv j).oneCell'=true:=by
 have be:=h.objs j;cases cE:S.o j with
 |row T e=>
  rw[cE] at be;obtain⟨cells,xs,h1,h2,h3,h4⟩:=be;obtain⟨b,c,e1,_⟩:=wj h2;rw[e1];exact⟨rfl,rfl⟩
 |mp kt et=>
  rw[cE] at be;obtain⟨k0,arr,clock,es,h1,_⟩:=be;rw[h1];exact⟨rfl,rfl⟩
 |_=>rw[cE] at hr;simp[mK] at hr
theorem Inv.storeRow (h:Inv C S ρ σ own hv w0 σ0 A a w){j k n c i p:Nat}{T:TypeId}{e:Ty}{cells vs:List Value}{xs:List D}{v':Value}{d':D}(eo:S.o j=.row T e)(ej:hv j=.slice (some ⟨k,0,none⟩) n c)
 (h1:ρ.o j=.list xs) (h2:w.ownsRow w0.heap.size T e.size (hv j) xs.length cells) (h3:gm C.cap σ e cells xs) (h4:∀k,(hv j).ownBlock=some k→own k=some j) (hi:i<xs.length)
 (Ci:i*e.size≤p) (eR:p+vs.length≤i*e.size+e.size) (hr:Rep C.cap σ e v' d')
 (hv':∀q u,v'.cells[q]?=some u→(cells.take p++vs++cells.drop (p+vs.length))[i*e.size+q]?=some u):
 ∃cur,w.heap[k]?=some (.cells cur T (0,0))∧p+vs.length≤cur.size∧Inv C S (ρ.setO j (.list (xs.set i d'))) σ own hv w0 σ0 A a (w.setRow k (cur.toList.take p++vs++cur.toList.drop (p+vs.length)).toArray):=by
 have ba:=h2.1;rcases h2.2 with⟨e0,e1⟩|⟨g,cap,cur,e1,e2,e3,e4,e5,e6,e7⟩
 ·omega
 rw[ej] at e1;cases e1;have atr:i*e.size+e.size≤xs.length*e.size:=by
  have:(i+1)*e.size≤xs.length*e.size:=Nat.mul_le_mul_right _ hi;rw[Nat.add_mul] at this;omega
 have aHy:xs.length*e.size≤c*e.size:=Nat.mul_le_mul_right _ e4;have aue:p+vs.length≤cur.size:=by omega
 refine⟨cur,e3,aue,?_⟩;have bM:own k=some j:=h4 k (by rw[ej];rfl);obtain⟨b1,b2⟩:=ago (w:=w) (B:=w0.heap.size) (k:=k) (cs:=(cur.toList.take p++vs++cur.toList.drop (p+vs.length)).toArray) e2;have Ct:(cur.toList.take p++vs++cur.toList.drop (p+vs.length)).take (xs.length*e.size)=cells.take p++vs++cells.drop (p+vs.length):=by
  rw[←e7];apply List.ext_getElem?;intro q;simp only[List.append_assoc,List.getElem?_take,List.getElem?_append,List.length_take,List.getElem?_drop,Array.length_toList];by_cases hq:q<xs.length*e.size
  ·rw[if_pos hq];by_cases vu:q<p
   ·simp[vu,Nat.lt_min,show q<cur.size by omega,hq]
   ·by_cases eE:q-p<vs.length
    ·rw[if_neg (by omega),Nat.min_eq_left (by omega),if_pos eE,if_neg (by omega),Nat.min_eq_left (by omega),if_pos eE]
    ·rw[if_neg (by omega),Nat.min_eq_left (by omega),if_neg eE,if_neg (by omega),Nat.min_eq_left (by omega),if_neg eE,if_pos (by omega)]
  ·rw[if_neg hq];have:¬q<p:=by omega
   rw[if_neg (by omega),Nat.min_eq_left (by omega),if_neg (by omega),if_neg (by omega)]
 have:=h.updB j (.row T e) (.list (xs.set i d')) b1 (fun q hq aE=>b2 q fun e=>aE (e▸bM))
  ⟨cells.take p++vs++cells.drop (p+vs.length),xs.set i d',by simp[Env.setO,aQ],⟨by simp;omega,.inr ⟨k,c,_,by rw[ej];simp,e2,setRow_heap w k cur _ T _ e3,by simpa using e4,e5,by simp;omega,by simpa using Ct⟩⟩,?_,h4⟩
 ·rw[St.setO_self eo] at this;exact this
 ·obtain⟨us,u1,u2⟩:=h3;refine⟨fun q=>if q=i then v' else us q,fun q x hx=>?_,fun q m u hq hm=>?_⟩
  ·rw[List.getElem?_set] at hx;by_cases xW:i=q
   ·subst xW;simp only[if_true] at hx ⊢;rw[if_pos hi] at hx;cases hx;exact hr
   ·rw[if_neg xW] at hx;simp only[show ¬q=i from fun e=>xW e.symm,if_false];exact u1 q x hx
  ·by_cases xW:q=i
   ·subst xW;simp only[if_true] at hm;exact hv' m u hm
   ·simp only[xW,if_false] at hm;simp only[List.length_set] at hq;have h9:=u2 q m u hq hm;have aHO:m<e.size:=by rw[←(u1 q _ (List.getElem?_eq_getElem hq)).size];exact(Array.getElem?_eq_some_iff.1 hm).1
    have jL:q*e.size+m<p∨p+vs.length≤q*e.size+m:=by
     rcases Nat.lt_or_ge q i with af|gd
     ·left;have:(q+1)*e.size≤i*e.size:=Nat.mul_le_mul_right _ af;rw[Nat.add_mul] at this;omega
     ·right;have:(i+1)*e.size≤q*e.size:=Nat.mul_le_mul_right _ (by omega);rw[Nat.add_mul] at this;omega
    rw[List.append_assoc,List.getElem?_append,List.length_take,Nat.min_eq_left (by omega)];rcases jL with ho|ho
    ·rw[if_pos ho,List.getElem?_take,if_pos ho];exact h9
    ·rw[if_neg (by omega),List.getElem?_append_right (by omega),List.getElem?_drop];rw[show p+vs.length+(q*e.size+m-p-vs.length)=q*e.size+m by omega];exact h9
theorem aos (h:Inv C S ρ σ own hv w0 σ0 A a w)(hC:CtxOK C σ0){T:TypeId}{x v:Operand}{r:St×List PI}(hr:sB C S T x v=some r){o:Oper}(hd:o.dst=none)(ho:o.op=.store T x v):bR C w0 σ0 Φ S ρ A a w o r:=by
 unfold sB at hr;split at hr
 case h_2=>cases hr
 rename_i inf hi;obtain⟨eh,_⟩:=wU h (gs:=[]) rfl x;split at hr
 case h_3=>cases hr
 ·rename_i j ver off es;rw[es] at eh;cases hb:Nat.beq ver (S.ver j)<;>simp only[hb,cond_true,cond_false] at hr
  ·cases hr
  obtain⟨k,ej,fw⟩:=eh.2 (Nat.eq_of_beq_eq_true hb);have be:=h.objs j;split at hr
  case h_2=>cases hr
  rename_i ag shs eo;rw[eo] at be;obtain⟨k',cs,E,ds,h1,h2,h3,h4,h5,h6,h7⟩:=be;have cJ:=h1;rw[ej] at h1;cases h1;split at hr
  ·rename_i t e hu;have hv':=cd h hC rfl hu;cases hc:(Nat.beq inf.size t.size&&(t.rowT||t.one)&&Nat.ble (off+t.size) shs.length)<;>simp only[hc,cond_true,cond_false] at hr
   ·cases hr
   cases hr;simp only[Bool.and_eq_true,Bool.or_eq_true] at hc;obtain⟨⟨aK,gy⟩,hle⟩:=hc;have aK:=Nat.eq_of_beq_eq_true aK;have hle:=Nat.le_of_ble_eq_true hle;obtain⟨f1,f2,f3⟩:=hv'.flat gy;have gz:=hv'.size;refine bR.skip hd fun ρ' ak=>?_;rw[rW ak]
   refine⟨_,Md ho hi fw (by rw[gz,aK]) (fun u hu=>by
        obtain⟨m,hm,rfl⟩:=List.getElem_of_mem hu;exact hv'.cellsOne gy (m:=m) (by simp at hm ⊢)) h3 (by omega),?_⟩
   have cA:=h.storeBox (off:=off) (news:=t.flat.map .dat) (vs:=(a.eval v).cells.toList) (dn:=(e.ev ρ).cells) eo cJ h2 h3 h4 h5 h6 h7 (by simp[f1,gz]) (by simp[f2,gz]) (by simp[gz];omega) (fun i s hi=>by
        simp only[List.getElem?_map,Option.map_eq_some_iff] at hi;obtain⟨ti,P1,rfl⟩:=hi;refine⟨fun _ _ e=>(by cases e),?_⟩;rw[xD];exact(f3 i ti P1).2)
   have e1:(a.eval v).cells.toList.length=t.size:=by simp[gz]
   rw[e1] at cA;rw[aK];refine⟨σ,own,hv,?_⟩;simpa [PE.ev,h5,D.cells] using cA
  ·split at hr
   case h_2=>cases hr
   rename_i j' nU fM;obtain⟨PV,_⟩:=wU h (gs:=[]) rfl v;rw[fM] at PV;cases hc:(Nat.beq nU (S.ver j')&&mK (S.o j')&&Nat.beq inf.size 1&&Nat.blt off shs.length)<;>simp only[hc,cond_true,cond_false] at hr
   ·cases hr
   cases hr;simp only[Bool.and_eq_true] at hc;obtain⟨⟨⟨auZ,fQ⟩,aK⟩,af⟩:=hc;have aK:=Nat.eq_of_beq_eq_true aK;have af:off<shs.length:=by simpa [Nat.blt_eq] using af
   have bW:=PV.2 (Nat.eq_of_beq_eq_true auZ);obtain⟨c1,c2⟩:=ay5 h fQ;have j4:(a.eval v).cells=#[a.eval v]:=by rw[bW];exact c1
   refine bR.skip hd fun ρ' ak=>?_;rw[rW ak];refine⟨_,Md ho hi fw (by rw[j4,aK];rfl) (fun u hu=>by rw[j4] at hu;simp at hu;subst hu;rw[bW];exact c2) h3 (by omega),?_⟩
   have cA:=h.storeBox (off:=off) (news:=[.obj j' nU]) (vs:=[a.eval v]) (dn:=[.none]) eo cJ h2 h3 h4 h5 h6 h7 rfl rfl (by simp;omega) (fun i s hi=>by
        match i,hi with
        |0,hi=>simp at hi;subst hi;exact⟨fun _ _ e=>(by cases e),PV.1,fun _=>by simpa using bW⟩
        |i+1,hi=>simp at hi)
   rw[j4,aK];have e2:shs.take off++[Sh.obj j' nU]++shs.drop (off+[a.eval v].length)=shs.set off (.obj j' nU):=by
        rw[List.set_eq_take_append_cons_drop,if_pos af];simp
   rw[e2] at cA;refine⟨σ,own,hv,?_⟩;simpa [PE.ev,h5,D.cells] using cA
 ·rename_i j ver size off es;rw[es] at eh;cases hb:Nat.beq ver (S.ver j)<;>simp only[hb,cond_true,cond_false] at hr
  ·cases hr
  obtain⟨k,n,c,ik,i,ej,sN,bC,fw⟩:=eh.2 (Nat.eq_of_beq_eq_true hb);have be:=h.objs j;split at hr
  ·rename_i T' ts t e eo hu;rw[eo] at be;have hv':=cd h hC rfl hu;cases hc:(Nat.beq inf.size t.size&&(t.rowT||t.one)&&Nat.beq size ts.length&&Nat.ble (off+t.size) ts.length&&Ty.subs t.flat ((ts.drop off).take t.size))<;>simp only[hc,cond_true,cond_false] at hr
   ·cases hr
   cases hr;simp only[Bool.and_eq_true,Bool.or_eq_true] at hc;obtain⟨⟨⟨⟨aK,gy⟩,ry⟩,hle⟩,bV⟩:=hc;have aK:=Nat.eq_of_beq_eq_true aK;have ry:=Nat.eq_of_beq_eq_true ry;have hle:=Nat.le_of_ble_eq_true hle;obtain⟨f1,f2,f3⟩:=hv'.flat gy;have gz:=hv'.size;have f1:t.flat.length=t.size:=f1;have f2:(e.ev ρ).cells.length=t.size:=f2;have gz:(a.eval v).cells.size=t.size:=gz;obtain⟨cells,xs,k1,k2,k3,k4⟩:=be;obtain⟨b,c',e1,vn,vp⟩:=wj k2;rw[ej] at e1;cases e1;obtain⟨us,u1,u2⟩:=k3;obtain⟨y,hy⟩:∃y,xs[i]?=some y:=⟨_,List.getElem?_eq_getElem bC⟩
   obtain⟨os,ds,yb,hd0,l1,l2,aR,dY⟩:=(u1 i y hy).agg_inv;have Cv:(a.eval v).cells.toList.length=t.size:=by simp[gz]
   have kH:Rep C.cap σ (.agg ts) (.agg (os.take off++(a.eval v).cells.toList++os.drop (off+(a.eval v).cells.toList.length)).toArray) (.agg (cH ds off (e.ev ρ).cells)):=by
        refine .agg _ _ _ (by simp[gz];omega) (by simp[cH,f2];omega) (fun m tm hm=>?_) dY;rw[GW os _ off undef (by rw[Cv];omega),cH,GW ds _ off .none (by rw[f2];omega),Cv,f2];split
        ·rename_i hc;have auE:=Ty.subs_get _ _ bV (m-off) tm (by
          rw[List.getElem?_take,if_pos (by omega),List.getElem?_drop,show off+(m-off)=m by omega];exact hm)
         obtain⟨tf,htf,cA⟩:=auE;rw[xD];exact((f3 _ tf htf).2).sub cA
        ·exact aR m tm hm
   have ba:=k2.1;have atr:i*(Ty.agg ts).size+(Ty.agg ts).size≤xs.length*(Ty.agg ts).size:=by
        have:(i+1)*(Ty.agg ts).size≤xs.length*(Ty.agg ts).size:=Nat.mul_le_mul_right _ bC;rw[Nat.add_mul] at this;omega
   have Zs:(Ty.agg ts).size=ts.length:=rfl
   obtain⟨cur,q1,q2,q3⟩:=h.storeRow (i:=i) (p:=i*(Ty.agg ts).size+off) (vs:=(a.eval v).cells.toList) eo ej k1 k2 ⟨us,u1,u2⟩ k4 bC (by omega) (by rw[Cv];omega) kH (fun q u hq=>by
        have dh:(os.take off++(a.eval v).cells.toList++os.drop (off+(a.eval v).cells.toList.length))[q]?=some u:=by simpa [Value.cells] using hq
        have aHX:q<ts.length:=by have:=(List.getElem?_eq_some_iff.1 dh).1;simp[gz] at this;omega
        rw[List.append_assoc,List.getElem?_append,List.length_take,Nat.min_eq_left (by omega)] at dh;rw[List.append_assoc,List.getElem?_append,List.length_take,Nat.min_eq_left (by omega)];by_cases p6:q<off
        ·rw[if_pos p6,List.getElem?_take,if_pos p6] at dh;rw[if_pos (by omega),List.getElem?_take,if_pos (by omega)];exact u2 i q u bC (by rw[yb];simpa [Value.cells] using dh)
        ·rw[if_neg p6,List.getElem?_append] at dh;rw[if_neg (by omega),List.getElem?_append];rw[show i*(Ty.agg ts).size+q-(i*(Ty.agg ts).size+off)=q-off by omega];by_cases HI:q-off<(a.eval v).cells.toList.length
         ·rw[if_pos HI] at dh ⊢;exact dh
         ·rw[if_neg HI,List.getElem?_drop] at dh;rw[if_neg HI,List.getElem?_drop];rw[show off+(a.eval v).cells.toList.length+(q-off-(a.eval v).cells.toList.length)=q by omega] at dh;rw[show i*(Ty.agg ts).size+off+(a.eval v).cells.toList.length+(q-off-(a.eval v).cells.toList.length)=i*(Ty.agg ts).size+q by omega];exact u2 i q u bC (by rw[yb];simpa [Value.cells] using dh))
   refine bR.skip hd fun ρ' ak=>?_;rw[rW ak]
   refine⟨_,Md ho hi (cs:=cur) (by rw[fw,ry]) (by rw[gz,aK]) (fun u hu=>by
        obtain⟨m,hm,rfl⟩:=List.getElem_of_mem hu;exact hv'.cellsOne gy (m:=m) (by simp at hm ⊢)) q1 (by rw[Cv] at q2;rw[aK,←Zs];exact q2),σ,own,hv,?_⟩
   rw[Cv] at q3;simp only[PE.ev,k1,D.l_list,sN,D.i_int,Int.toNat_natCast,rh hy,hd0,uh];rw[aK,←Zs];exact q3
  ·rename_i T' e0 t e aE eo hu;rw[eo] at be;have hv':=cd h hC rfl hu;cases hc:(Nat.beq inf.size 1&&Nat.beq size 1&&Nat.beq off 0&&e0.one&&Ty.sub t e0)<;>simp only[hc,cond_true,cond_false] at hr
   ·cases hr
   cases hr;simp only[Bool.and_eq_true] at hc;obtain⟨⟨⟨⟨aK,ry⟩,ij⟩,dY⟩,bV⟩:=hc;have aK:=Nat.eq_of_beq_eq_true aK;have ry:=Nat.eq_of_beq_eq_true ry;have ij:=Nat.eq_of_beq_eq_true ij;subst ij;subst ry;have Zx:=hv'.sub bV;obtain⟨c1,c2⟩:=Zx.oneCell dY;have BW:e0.size=1:=by cases e0<;>simp_all [Ty.size,Ty.one]
   obtain⟨cells,xs,k1,k2,k3,k4⟩:=be;obtain⟨b,c',e1,vn,vp⟩:=wj k2;rw[ej] at e1;cases e1;obtain⟨y,hy⟩:∃y,xs[i]?=some y:=⟨_,List.getElem?_eq_getElem bC⟩
   have ba:=k2.1
   obtain⟨cur,q1,q2,q3⟩:=h.storeRow (i:=i) (p:=i*e0.size) (vs:=[a.eval v]) eo ej k1 k2 k3 k4 bC (Nat.le_refl _) (by rw[BW];simp) Zx (fun q u hq=>by
        rw[c1] at hq;have oG:q=0:=by have:=(Array.getElem?_eq_some_iff.1 hq).1;simpa using this
        subst oG;simp at hq;subst hq;have:i*e0.size≤cells.length:=by rw[ba];exact Nat.mul_le_mul_right _ (by omega)
        rw[List.append_assoc,List.getElem?_append_right (by simp;omega)];simp[Nat.min_eq_left this])
   refine bR.skip hd fun ρ' ak=>?_;rw[rW ak];refine⟨_,Md ho hi (cs:=cur) (by rw[fw]) (by rw[c1,aK];rfl) (fun u hu=>by rw[c1] at hu;simp at hu;subst hu;exact c2) q1 (by rw[BW] at q2;rw[aK];simpa using q2),σ,own,hv,?_⟩;rw[c1,aK];have CB:uh y 0 (e.ev ρ)=e.ev ρ:=by
        obtain⟨us,u1,u2⟩:=k3;have:=(u1 i y hy).dcells dY;cases y with
        |agg ds=>have h8:=u1 i _ hy;generalize us i=vv at h8;cases h8;simp[Ty.one] at dY
        |_=>rfl
   simp only[PE.ev,k1,D.l_list,sN,D.i_int,Int.toNat_natCast,rh hy,CB];rw[BW] at q3;simpa using q3
  ·cases hr
end
end Cx
namespace Cx
open Go Go.RowKit
section
variable {C:Ctx} {S:St} {ρ:Env} {σ:Im} {own:Nat→Option Nat} {hv:Nat→Value} {w0:World} {σ0:Base} {A:Nat→Prop} {a:Act} {w:World} {gs:List (Nat×Bool)} {Φ:aS} {dst:Nat}
theorem aoT {ρ:Env}{es:List PE}{i:Nat}{e:PE}(h:es[i]?=some e):(PE.evs ρ es)[i]?=some (e.ev ρ):=by
 rw[PE.evs_eq,List.getElem?_map,h];rfl
theorem Xl (h:Inv C S ρ σ own hv w0 σ0 A a w)(hC:CtxOK C σ0)(hg:holds gs ρ=true){T:TypeId}{len:Nat}{ps:Array (Nat×Operand)}{r:St×List PI}(hr:uP C S gs dst T len ps.toList=some r){o:Oper}
 (ho:o.op=.buildSlice T len ps):∃(E:TypeId) (e:Ty) (es:List PE) (v:Value) (w':World),C.P.underlying T=some (.slice E)∧nT C.P E=some e∧r=(mkObj S dst (.row E e),[.setO dst (.lst es),.setR dst (.con .none)])∧
   (execOp a.eval o).run C.P w=.ok (.value v) w'∧Below w.heap.size w w'∧(∀k,Nat.beq k w.heap.size=true→w.heap.size≤k∧k<w'.heap.size)∧
   cg C (S.newO dst (.row E e)) (ρ.setO dst (.list (PE.evs ρ es))) σ (fD own dst (fun k=>Nat.beq k w.heap.size)) (bZ hv dst v) w' w0.heap.size dst (.row E e):=by
 unfold uP at hr;split at hr
 case h_2=>cases hr
 rename_i E hT;simp only[Option.bind_eq_some_iff] at hr;obtain⟨e,he,z,hz,hr⟩:=hr;cases hc:(pI C.P E e&&Ty.sub z.1 e&&jo (ps.toList.map (·.1))&&ps.toList.all (fun p=>Nat.blt p.1 len)&&Nat.ble (len*e.size) 16777216)<;>simp only[hc,cond_true,cond_false] at hr
 ·cases hr
 simp only[Bool.and_eq_true] at hc;obtain⟨⟨⟨⟨hef,bV⟩,bu⟩,fh⟩,hle⟩:=hc;have hle:=Nat.le_of_ble_eq_true hle;obtain⟨inf,zv,hi,hs,oz,h1,hzv,lx⟩:=Oh hef;have rC:=V0 lx;have mD:=mQ bu;have CC:=((w7 (cap:=C.cap) (σ:=σ) hz lx).1).sub bV;simp only[Option.map_eq_some_iff] at hr;obtain⟨es,ib,rfl⟩:=hr;obtain⟨Xu,el2⟩:=mapM_some _ _ _ ib;simp only[List.length_range] at Xu;have Ys:∀i,i<len→∃pe,es[i]?=some pe∧GK C S gs e z.2 ps.toList i=some pe:=by
  intro i hi;obtain⟨y,ZF,mI⟩:=el2 i i (by rw[List.getElem?_range hi]);exact⟨y,ZF,mI⟩
 have pZ:∀x,x∈ps.toList→x.1<len∧∃t pe,use C S gs x.2=some (t,pe)∧Ty.sub t e=true∧es[x.1]?=some pe:=by
  intro x hx;have vE:x.1<len:=by
   have:=List.all_eq_true.1 fh x hx;simpa [Nat.blt_eq] using this
  refine⟨vE,?_⟩;obtain⟨pe,Ci,eR⟩:=Ys x.1 vE;have BY:=XI mD (i:=x.1) (x:=x.2) hx;simp only[GK,BY,Option.bind_eq_some_iff] at eR;obtain⟨y,hy,eR⟩:=eR;cases hs:Ty.sub y.1 e<;>simp only[hs,cond_true,cond_false] at eR
  ·cases eR
  cases eR;exact⟨y.1,y.2,hy,hs,Ci⟩
 let c0:Array Value:=madeCells zv.cells (len*e.size)
 have BR:c0.size=len*e.size:=size_madeCells _ _
 have ls:∀p,p∈(ps.toList.map fun(x:Nat×Operand)=>(x.1,a.eval x.2))→∃o,(fun i=>some (i*e.size,e.size)) p.1=some (o,p.2.cells.size)∧o+p.2.cells.size≤c0.size:=by
  intro p hp;obtain⟨x,hx,rfl⟩:=List.mem_map.1 hp;obtain⟨vE,t,pe,hu,cA,_⟩:=pZ x hx;have td:=((cd h hC hg hu).sub cA).size;simp only;refine⟨x.1*e.size,by rw[td],?_⟩;rw[td,BR];have:(x.1+1)*e.size≤len*e.size:=Nat.mul_le_mul_right _ vE;rw[Nat.add_mul] at this;omega
 have xJ:∀(i j oi si oj sj:Nat),i≠j→(fun i=>some (i*e.size,e.size)) i=some (oi,si)→(fun i=>some (i*e.size,e.size)) j=some (oj,sj)→oi+si≤oj∨oj+sj≤oi:=by
  intro i j oi si oj sj aE hi hj;simp only[Option.some.injEq,Prod.mk.injEq] at hi hj;obtain⟨rfl,rfl⟩:=hi;obtain⟨rfl,rfl⟩:=hj;rcases Nat.lt_or_ge i j with af|gd
  ·left;have:(i+1)*e.size≤j*e.size:=Nat.mul_le_mul_right _ af;rw[Nat.add_mul] at this;omega
  ·right;have:(j+1)*e.size≤i*e.size:=Nat.mul_le_mul_right _ (by omega);rw[Nat.add_mul] at this;omega
 obtain⟨eL,f1,f2,f3,f4⟩:=Oq (fun i=>some (i*e.size,e.size)) (ps.toList.map fun(x:Nat×Operand)=>(x.1,a.eval x.2)) c0 ls xJ (by simpa [Function.comp_def] using mD);have ak:(execOp a.eval o).run C.P w=.ok (.value (.slice (some ⟨w.heap.size,0,none⟩) len len)) (w.alloc (.cells eL E)):=by
  have n1:¬(len*inf.size>2^24):=by rw[hs];omega
  have GN:Instr.fill (fun i=>some (i*inf.size,inf.size)) c0 (ps.toList.map fun(x:Nat×Operand)=>(x.1,a.eval x.2))=some eL:=by rw[hs];exact f1
  by_cases h0:len*inf.size=0
  ·have OZ:c0=#[]:=by
        apply Array.eq_empty_of_size_eq_zero;rw[BR,←hs];exact h0
   rw[OZ] at GN
   have aoX:Instr.fill (fun i=>some (i*inf.size,inf.size)) (Array.map (fun _=>default) (Array.range 0)) (ps.toList.map fun(x:Nat×Operand)=>(x.1,a.eval x.2))=some eL:=by
        have:(Array.map (fun _=>(default:Value)) (Array.range 0))=#[]:=by simp
        rw[this];exact GN
   simp[execOp,ho,Instr.buildSlice,run_underlying hT,Go.sizeOf,run_typeInfo w hi,n1,h0,aoX,newRow]
  ·have OZ:c0=(Array.range (len*inf.size)).map (fun x=>zv.cells[x%zv.cells.size]!):=by simp only[c0,madeCells,hs]
   rw[OZ] at GN;have h00:¬(len=0∨inf.size=0):=by rw[←Nat.mul_eq_zero];exact h0
   simp[execOp,ho,Instr.buildSlice,run_underlying hT,Go.sizeOf,run_typeInfo w hi,n1,h0,h00,zeroValue,hzv,GN,newRow]
 refine⟨E,e,es,_,_,hT,he,rfl,ak,(Below.refl _ _).alloc (Nat.le_refl _) _,fun k hk=>by simp at hk;simp;omega,?_⟩;have ia:(PE.evs ρ es).length=len:=by rw[PE.evs_eq,List.length_map,Xu]
 have as8:∀(i:Nat) (x:D),(PE.evs ρ es)[i]?=some x→∃v,Rep C.cap σ e v x∧∀q u,v.cells[q]?=some u→eL.toList[i*e.size+q]?=some u:=by
  intro i x hx;have Hr:i<len:=by have:=(List.getElem?_eq_some_iff.1 hx).1;omega
  obtain⟨pe,Ci,eR⟩:=Ys i Hr;rw[aoT Ci] at hx;cases hx;unfold GK at eR;split at eR
  ·rename_i p hp;have Zi:=List.mem_of_find?_eq_some hp;have HG:p.1=i:=by have:=List.find?_some hp;simpa using this
   obtain⟨_,t,pe',hu,cA,sY⟩:=pZ p Zi;rw[HG,Ci] at sY;cases sY;have bN:=(cd h hC hg hu).sub cA;refine⟨_,bN,fun q u hq=>?_⟩;have HH:q<(a.eval p.2).cells.size:=(Array.getElem?_eq_some_iff.1 hq).1;have:=f3 p.1 (a.eval p.2) (p.1*e.size) (List.mem_map.2 ⟨p,Zi,rfl⟩) (by simp[bN.size]) q HH;rw[HG] at this;simp[this,hq]
  ·rename_i hp;cases eR;refine⟨zv,CC,fun q u hq=>?_⟩;have HH:q<zv.cells.size:=(Array.getElem?_eq_some_iff.1 hq).1
   have ns:i∉(ps.toList.map fun(x:Nat×Operand)=>(x.1,a.eval x.2)).map (·.1):=by
        intro cS;simp only[List.map_map,List.mem_map,Function.comp_def] at cS;obtain⟨x,yh,e⟩:=cS;have:=List.find?_eq_none.1 hp x yh;simp[e] at this
   have:=f4 i (i*e.size) e.size ns rfl q (by omega);have h9:c0[i*e.size+q]?=zv.cells[q]?:=by
        simp only[c0];rw[←rC];exact aas (by omega) Hr HH
   simp[this,h9,hq]
 have gz:∃vs:Nat→Value,∀(i:Nat) (x:D),(PE.evs ρ es)[i]?=some x→Rep C.cap σ e (vs i) x∧∀q u,(vs i).cells[q]?=some u→eL.toList[i*e.size+q]?=some u:=by
  have pV:∀i,∃v,∀x,(PE.evs ρ es)[i]?=some x→Rep C.cap σ e v x∧∀q u,v.cells[q]?=some u→eL.toList[i*e.size+q]?=some u:=by
   intro i;cases hx:(PE.evs ρ es)[i]? with
   |none=>exact⟨undef,fun x cX=>by cases cX⟩
   |some x=>
    obtain⟨v,hv⟩:=as8 i x hx;exact⟨v,fun y hy=>by cases hy;exact hv⟩
  exact⟨fun i=>Classical.choose (pV i),fun i x hx=>Classical.choose_spec (pV i) x hx⟩
 obtain⟨vs,gz⟩:=gz;have eP:eL.size=len*e.size:=by rw[f2,BR]
 refine⟨eL.toList,PE.evs ρ es,by simp[Env.setO,aQ],?_,⟨vs,fun i x hx=>(gz i x hx).1,fun i j u hi hj=>(gz i _ (List.getElem?_eq_getElem hi)).2 j u hj⟩,fun k hk=>by rw[aQ] at hk;simp[Value.ownBlock] at hk;simp[fD,hk]⟩;rw[aQ,ia];have Pg:len≤maxLen:=by
  have:len*1≤len*e.size:=Nat.mul_le_mul_left _ h1;unfold maxLen;omega
 exact⟨by simp[eP],.inr ⟨w.heap.size,len,eL,rfl,h.below.size,heap_alloc_new w _,Nat.le_refl _,Pg,eP,by rw[List.take_of_length_le (by simp[eP])]⟩⟩
theorem an4 (h:Inv C S ρ σ own hv w0 σ0 A a w)(hC:CtxOK C σ0)(ht:¬A dst)(af:dst<a.tmps.size){T:TypeId}{len:Nat}{ps:Array (Nat×Operand)}{r:St×List PI}(hr:uP C S [] dst T len ps.toList=some r){o:Oper}(hd:o.dst=some dst)
 (ho:o.op=.buildSlice T len ps):bR C w0 σ0 Φ S ρ A a w o r:=by
 obtain⟨E,e,es,v,w',_,_,rfl,ak,hb,df,cE⟩:=Xl h hC rfl hr ho;refine bR.value hd fun ρ' p8=>⟨_,_,ak,?_⟩
 rw[Ec p8];exact h.mkObj ht af (.row E e) _ _ (fun k=>Nat.beq k w.heap.size) hb df cE
theorem Inv.kill (h:Inv C S ρ σ own hv w0 σ0 A a w)(j:Nat):Inv C (S.newO j .dead) ρ σ own hv w0 σ0 A a w:=by
 have dN:∀i,S.ver i≤(S.newO j .dead).ver i:=by
  intro i;show S.ver i≤bZ S.ver j (S.ver j+1) i;rw[fI];by_cases e:i=j
  ·subst e;simp
  ·simp[e]
 have hc:Compat S hv (S.newO j .dead) hv:=⟨dN,fun _ _=>rfl⟩
 refine h.step (·=j) rfl (.refl σ) h.ok (fun _ _ _ hx=>.inl hx) (fun _ _ hx=>.inl hx) (.refl _ _) hc (fun i hi=>⟨by simp[St.newO,bk _ _ hi],rfl,rfl,fun k hk=>⟨hk,rfl⟩⟩) (fun i hi=>?_) h.owns (fun _=>id) (fun t=>.inl ⟨rfl,rfl,rfl⟩) (fun _ _=>rfl) (fun _ _ _=>rfl) (fun k i hk=>.inl ⟨i,hk⟩) (fun i hi=>by subst hi;simp[St.newO,aQ]);subst hi;simp only[St.newO,aQ];trivial
theorem aog (h:Inv C S ρ σ own hv w0 σ0 A a w)(hC:CtxOK C σ0)(ht:¬A dst)(af:dst<a.tmps.size)(dC:∀g,g∈gs→A g.1)(hg:holds gs ρ=true){T:TypeId}{len:Nat}{ps:Array (Nat×Operand)}{r:St×List PI}(hr:xt C S gs dst T len ps.toList=some r){o:Oper}(hd:o.dst=some dst)
 (ho:o.op=.buildSlice T len ps):bR C w0 σ0 Φ S ρ A a w o r:=by
 unfold xt at hr;split at hr
 case h_2=>cases hr
 rename_i E q hT hq;simp only[Option.bind_eq_some_iff] at hr;obtain⟨e,he,hr⟩:=hr;obtain⟨E',e',es,v,w',xG,kF,rfl,ak,hb,df,cE⟩:=Xl h hC hg hq ho;rw[hT] at xG;cases xG;rw[he] at kF;cases kF;cases hr;refine bR.value hd fun ρ' p8=>⟨_,_,ak,?_⟩
 have hρ:ρ'=ρ.setR dst (.list (PE.evs ρ es)):=by simp[PI.runs,PI.run,PE.ev] at p8;exact p8.symm
 subst hρ;have h1:=h.newO dst (.row E e) (.list (PE.evs ρ es)) v (fun k=>Nat.beq k w.heap.size) hb df cE;obtain⟨σ2,gV,_,h2⟩:=h1.fz dst;have B0:(S.newO dst (.row E e)).fz dst=(S.newO dst (.row E e)).setO dst (.fz (.slice e.rol)):=by
  have:(S.newO dst (.row E e)).o dst=.row E e:=aQ _ _ _;unfold St.fz;rw[this]
 rw[B0] at h2;have be:=h2.objs dst;have e1:((S.newO dst (.row E e)).setO dst (.fz (.slice e.rol))).o dst=.fz (.slice e.rol):=aQ _ _ _;rw[e1] at be;have bN:Rep C.cap σ2 (.slice e.rol) v (.list (PE.evs ρ es)):=by
  have:=be.2
  rwa [aQ,show(ρ.setO dst (.list (PE.evs ρ es))).o dst=.list (PE.evs ρ es) from aQ _ _ _] at this
 have h3:Inv C (S.newO dst .dead) ρ σ2 gV (bZ hv dst v) w0 σ0 A a w':=by
  refine h2.step (·=dst) rfl (.refl σ2) h2.ok (fun _ _ _ hx=>.inl hx) (fun _ _ hx=>.inl hx) (.refl _ _) ⟨fun i=>Nat.le_refl _,fun _ _=>rfl⟩ (fun i hi=>⟨?_,?_,rfl,fun k hk=>⟨hk,rfl⟩⟩) (fun i hi=>?_) h2.owns (fun _=>id) (fun t=>.inl ⟨rfl,rfl,rfl⟩) (fun _ _=>rfl) (fun _ _ _=>rfl) (fun k i hk=>.inl ⟨i,hk⟩) (fun i hi=>by subst hi;simp[St.newO,aQ])
  ·simp[St.newO,St.setO,bk _ _ hi]
  ·simp[Env.setO,bk _ _ hi]
  ·subst hi;simp only[St.newO,aQ];trivial
 have hh:holds gs (ρ.setR dst (.list (PE.evs ρ es)))=true:=by rw[Cf (t:=dst) fun g hm e=>ht (by rw[←e];exact dC g hm)];exact hg
 cases gs with
 |nil=>exact⟨_,_,_,h3.setReg ht (s:=.dat (.slice e.rol)) bN af (fun _ _ e=>by cases e)⟩
 |cons g bB=>
  refine⟨_,_,_,h3.setReg ht (s:=.opt (g::bB) (.dat (.slice e.rol))) ⟨fun _=>bN,fun e=>absurd (hh.symm.trans e) (by decide)⟩ af (fun gs s e=>?_)⟩;cases e;exact⟨dC,fun _ _ e=>by cases e⟩
end
end Cx
