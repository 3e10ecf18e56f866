/-
  Shared texts of this claim.
-/
import Derived.Test.YtodhjdbleiakeaaGreatDoorLAB
import Derived.Laws.OwnMore
import Derived.Lib.ConvBytes
set_option linter.unusedSimpArgs false
set_option linter.unusedVariables false
namespace Cx
open Go Go.RowKit
def mkObj (S:St)(dst:Nat)(ob:Ob):St:=(S.newO dst ob).setR dst (.obj dst (S.ver dst+1))
def mkPtr (S:St)(dst:Nat)(ob:Ob):St:=(S.newO dst ob).setR dst (.ptr dst (S.ver dst+1) 0)
abbrev jT:=Option (St×List PI)
def yV (C:Ctx)(S:St)(dst:Nat)(T:TypeId)(x:Operand):jT:=
 match use C S [] x,C.P.underlying T with
 |some (.nils _,_),some (.slice E)=>(l9 C.P E).map fun e=>(mkObj S dst (.row E e),[.setO dst (.con (.list [])),.setR dst (.con .none)])
 |_,_=>Option.none
def yN (C:Ctx)(S:St)(dst:Nat)(T:TypeId):jT:=
 match l9 C.P T,C.P.info? T,mO C.P T with
 |some t,some inf,some ag=>
  bif pZ inf t&&(t.rowT||t.one) then
   (mc t).map fun z=>(mkPtr S dst (.box ag (z.1.flat.map .dat)),[.setO dst (.con (.agg z.2.cells)),.setR dst (.con .none)])
  else Option.none
 |_,_,_=>Option.none
def yP (C:Ctx)(S:St)(dst:Nat)(T:TypeId)(x:Operand):jT:=
 match use C S [] x,mO C.P T with
 |some (t,e),some ag=>
  bif t.rowT||t.one then some (mkPtr S dst (.box ag (t.flat.map .dat)),[.setO dst (.mk [e]),.setR dst (.con .none)]) else Option.none
 |_,_=>Option.none
def yS (C:Ctx)(S:St)(dst:Nat)(T:TypeId)(r:Option Operand):jT:=
 match C.P.underlying T,r with
 |some (.map K E),Option.none=>
  (l9 C.P K).bind fun kt=>(l9 C.P E).map fun et=>(mkObj S dst (.mp kt et),[.setO dst (.con (.map [])),.setR dst (.con .none)])
 |_,_=>Option.none
def yT (C:Ctx)(S:St)(dst:Nat)(T:TypeId)(l c:Operand):jT:=
 match C.P.underlying T,use C S [] l,use C S [] c with
 |some (.slice E),some (.int _,n),some (.int _,m)=>
  (l9 C.P E).bind fun e=>
    bif nv C.P E e then
     (mc e).bind fun z=>
        bif Ty.sub z.1 e then some (mkObj S dst (.row E e),[.chk (MG n),.chk (.ci .eql n m),.setO dst (.rep n (.con z.2)),.setR dst (.con .none)]) else Option.none
    else Option.none
 |_,_,_=>Option.none
def yW (C:Ctx)(S:St)(dst:Nat)(T:TypeId)(x:Operand):jT:=
 match C.P.underlying T,fq S [] x with
 |some (.map _ _),.obj j ver=>
  bif Nat.beq ver (S.ver j)&& !Nat.beq j dst then
   match S.o j with
   |.mp kt et=>some (mkObj (S.mv j dst) dst (.it kt et),[.setO dst (.tup [.lst [],.o j]),.setR dst (.con .none)])
   |_=>Option.none
  else Option.none
 |_,_=>Option.none
def yQ (C:Ctx)(S:St)(dst:Nat)(s d:TypeId)(x:Operand):jT:=
 match use C S [] x,C.P.underlying s,C.P.underlying d with
 |some (.str,e),some .string,some (.slice E)=>
  (match C.P.underlying E with
   |some (.int .u8)=>some (S.setR dst (.dat (.slice (.int .u8))),[.chk (.ci .leq (.slen e) (.con (.int k9))),.setR dst (.bytes e)])
   |_=>Option.none)
 |_,_,_=>Option.none
section
variable {C:Ctx} {S:St} {ρ:Env} {σ:Im} {own:Nat→Option Nat} {hv:Nat→Value} {w0:World} {σ0:Base} {A:Nat→Prop} {a:Act} {w:World} {gs:List (Nat×Bool)} {Φ:aL} {dst:Nat}
def bJ (C:Ctx)(w0:World)(σ0:Base)(Φ:aL)(S:St)(ρ:Env)(A:Nat→Prop)(a:Act)(w:World)(o:Oper)(r:St×List PI):Prop:=
 ∀ρ',PI.runs Φ r.2 ρ=some ρ'→∀(K:Act→World→Prop) (Q:Exit→Act→World→Prop),(∀a' w',Good C w0 σ0 r.1 ρ' (fun u=>A u∨o.dst=some u) a' w'→a'.tmps.size=a.tmps.size→K a' w')→o.wp C.P a w K Q
theorem size_put (a:Act)(d:Option Tmp)(v:Value):(a.put d v).tmps.size=a.tmps.size:=by
 cases d<;>simp[Act.put]
theorem bJ.value {o:Oper}{r:St×List PI}(hd:o.dst=some dst)(hx:∀ρ',PI.runs Φ r.2 ρ=some ρ'→∃v w',(execOp a.eval o).run C.P w=.ok (.value v) w'∧Good C w0 σ0 r.1 ρ' (fun u=>A u∨u=dst) (a.put (some dst) v) w'):bJ C w0 σ0 Φ S ρ A a w o r:=by
 intro ρ' aj K Q hK;obtain⟨v,w',h1,h2⟩:=hx ρ' aj;simp only[Oper.wp,h1,Oper.upon,hd];refine hK _ _ ?_ (size_put _ _ _)
 have:(fun u=>A u∨o.dst=some u)=(fun u=>A u∨u=dst):=by
  funext u;rw[hd];simp[eq_comm]
 rw[this];exact h2
theorem bJ.skip {o:Oper}{r:St×List PI}(hd:o.dst=none)(hx:∀ρ',PI.runs Φ r.2 ρ=some ρ'→∃w',(execOp a.eval o).run C.P w=.ok .skip w'∧Good C w0 σ0 r.1 ρ' A a w'):bJ C w0 σ0 Φ S ρ A a w o r:=by
 intro ρ' aj K Q hK;obtain⟨w',h1,h2⟩:=hx ρ' aj;simp only[Oper.wp,h1,Oper.upon,hd]
 have:(fun u=>A u∨o.dst=some u)=A:=by
  funext u;rw[hd];simp
 rw[this] at hK;exact hK _ _ h2 (size_put _ _ _)
theorem dy.eff (h:Inv C S ρ σ own hv w0 σ0 A a w)(ht:¬A dst)(ah:dst<a.tmps.size){o:Oper}(hd:o.dst=some dst){s:Sh}{AI:List PI}(hq:dy C S ρ σ hv Φ dst a w o (s,AI)):bJ C w0 σ0 Φ S ρ A a w o (S.setR dst s,AI):=by
 refine bJ.value hd fun ρ' aj=>?_;obtain⟨v,d,rfl,h1,h2,h3⟩:=hq ρ' aj;exact⟨v,w,h1,σ,own,hv,h.setReg ht (aI.mono' (.refl σ) (.refl S hv) h3 h2) ah (fun gs s' e=>absurd e (h3 gs s'))⟩
theorem dy.effG (h:Inv C S ρ σ own hv w0 σ0 A a w)(ht:¬A dst)(ah:dst<a.tmps.size)(df:∀g,g∈gs→A g.1)(hg:holds gs ρ=true){o:Oper}(hd:o.dst=some dst){s:Sh}{AI:List PI}(hq:dy C S ρ σ hv Φ dst a w o (s,AI)):bJ C w0 σ0 Φ S ρ A a w o (S.setR dst (.opt gs s),AI):=by
 refine bJ.value hd fun ρ' aj=>?_;obtain⟨v,d,rfl,h1,h2,h3⟩:=hq ρ' aj;have hh:holds gs (ρ.setR dst d)=true:=by rw[zP (t:=dst) (d:=d) fun g hm e=>ht (by rw[←e];exact df g hm)];exact hg
 refine⟨v,w,h1,σ,own,hv,h.setReg ht ⟨fun _=>aI.mono' (.refl σ) (.refl S hv) h3 h2,fun e=>absurd (hh.symm.trans e) (by decide)⟩ ah (fun bA s' e=>?_)⟩;cases e;exact⟨df,h3⟩
theorem Inv.passed (h:Inv C S ρ σ own hv w0 σ0 A a w)(ht:¬A dst)(ah:dst<a.tmps.size)(df:∀g,g∈gs→A g.1)(hg:holds gs ρ=false){s:Sh}(hs:∀bA s',s≠.opt bA s')(d:D):Inv C (S.setR dst (.opt gs s)) (ρ.setR dst d) σ own hv w0 σ0 (fun u=>A u∨u=dst) (a.put (some dst) undef) w:=by
 have hh:holds gs (ρ.setR dst d)=false:=by rw[zP (t:=dst) (d:=d) fun g hm e=>ht (by rw[←e];exact df g hm)];exact hg
 refine h.setReg ht (s:=.opt gs s) (v:=undef) (d:=d) ⟨fun e=>absurd (hh.symm.trans e) (by decide),fun _=>rfl⟩ ah (fun bA s' e=>?_);cases e;exact⟨df,hs⟩
theorem Inv.mkObj (h:Inv C S ρ σ own hv w0 σ0 A a w)(ht:¬A dst)(ah:dst<a.tmps.size)(ob:Ob)(d:D)(v:Value)(nb:Nat→Bool){w':World}(hw:Below w.heap.size w w')(cP:∀k,nb k=true→w.heap.size≤k∧k<w'.heap.size)
 (cn:bQ C (S.newO dst ob) (ρ.setO dst d) σ (eU own dst nb) (bN hv dst v) w' w0.heap.size dst ob) (kR:ob≠.tr:=by intro h;cases h):
 Good C w0 σ0 (Cx.mkObj S dst ob) ((ρ.setO dst d).setR dst .none) (fun u=>A u∨u=dst) (a.put (some dst) v) w':=by
 have h1:=h.newO dst ob d v nb hw cP cn kR;have h2:=h1.setObj ht (j:=dst) (v:=v) (aP _ _ _) ah;have e:(S.newO dst ob).ver dst=S.ver dst+1:=aP _ _ _;rw[e] at h2;exact⟨_,_,_,h2⟩
theorem Inv.mkPtr (h:Inv C S ρ σ own hv w0 σ0 A a w)(ht:¬A dst)(ah:dst<a.tmps.size)(ob:Ob)(d:D)(k:Nat)(nb:Nat→Bool){w':World}(hw:Below w.heap.size w w')(cP:∀k,nb k=true→w.heap.size≤k∧k<w'.heap.size)
 (cn:bQ C (S.newO dst ob) (ρ.setO dst d) σ (eU own dst nb) (bN hv dst (.pointer (some ⟨k,0,none⟩))) w' w0.heap.size dst ob) (kR:ob≠.tr:=by intro h;cases h):
 Good C w0 σ0 (Cx.mkPtr S dst ob) ((ρ.setO dst d).setR dst .none) (fun u=>A u∨u=dst) (a.put (some dst) (.pointer (some ⟨k,0,none⟩))) w':=by
 have h1:=h.newO dst ob d _ nb hw cP cn kR;have e:(S.newO dst ob).ver dst=S.ver dst+1:=aP _ _ _;have h2:=h1.setReg ht (s:=.ptr dst (S.ver dst+1) 0) (v:=.pointer (some ⟨k,0,none⟩)) (d:=.none) ⟨Nat.le_of_eq e.symm,fun _=>⟨k,aP _ _ _,rfl⟩⟩ ah (fun _ _ e=>by cases e);exact⟨_,_,_,h2⟩
theorem BT {e:PE}{ρ':Env}(h:PI.runs Φ [.setO dst e,.setR dst (.con .none)] ρ=some ρ'):ρ'=(ρ.setO dst (e.ev ρ)).setR dst .none:=by
 simp[PI.runs,PI.run,PE.ev] at h;exact h.symm
theorem S8 (h:Inv C S ρ σ own hv w0 σ0 A a w){t:Ty}{v:Value}{d:D}(hr:Rep C.cap σ t v d)(ho:t.rowT=true∨t.one=true)(ag:Bool)(T:TypeId):
 bQ C (S.newO dst (.box ag (t.flat.map .dat))) (ρ.setO dst (.agg d.cells)) σ (eU own dst (fun k=>Nat.beq k w.heap.size)) (bN hv dst (.pointer (some ⟨w.heap.size,0,none⟩))) (w.alloc (.cells v.cells T)) w0.heap.size dst (.box ag (t.flat.map .dat)):=by
 obtain⟨f1,f2,f3⟩:=hr.flat ho;refine⟨w.heap.size,v.cells,T,d.cells,aP _ _ _,by simp[eU],heap_alloc_new w _,by rw[hr.size];simp[f1],by simp[Env.setO,aP],by simp[f1,f2],fun i s hi=>?_⟩;simp only[List.getElem?_map,Option.map_eq_some_iff] at hi;obtain⟨ti,LU,rfl⟩:=hi;exact⟨fun _ _ e=>(by cases e),(f3 i ti LU).2⟩
theorem aiN (h:Inv C S ρ σ own hv w0 σ0 A a w)(hC:CtxOK C σ0)(ht:¬A dst)(ah:dst<a.tmps.size){T:TypeId}{x:Operand}{r:St×List PI}(hr:yV C S dst T x=some r){o:Oper}(hd:o.dst=some dst)(ho:o.op=.assign x):bJ C w0 σ0 Φ S ρ A a w o r:=by
 unfold yV at hr;split at hr
 case h_2=>cases hr
 rename_i e0 e1 E hu hT;simp only[Option.map_eq_some_iff] at hr;obtain⟨e,he,rfl⟩:=hr;have hx:=bO h hC rfl hu;have cj:a.eval x=.slice none 0 0:=by
  generalize a.eval x=v at hx;generalize e1.ev ρ=d at hx;cases hx;rfl
 refine bJ.value hd fun ρ' aj=>⟨.slice none 0 0,w,by simp[execOp,ho,cj],?_⟩
 rw[BT aj];exact h.mkObj ht ah (.row E e) _ _ (fun _=>false) (.refl _ _) (by simp) ⟨[],[],by simp[Env.setO,aP,PE.ev],by rw[aP];exact World.ownsRow_nil _ _ _ _,⟨fun _=>undef,by simp,by simp⟩,by rw[aP];simp[Value.ownBlock]⟩
theorem ain (h:Inv C S ρ σ own hv w0 σ0 A a w)(ht:¬A dst)(ah:dst<a.tmps.size){T:TypeId}{r:St×List PI}(hr:yN C S dst T=some r){o:Oper}(hd:o.dst=some dst)(ho:o.op=.alloc T):bJ C w0 σ0 Φ S ρ A a w o r:=by
 unfold yN at hr;split at hr
 case h_2=>cases hr
 rename_i t inf ag LX hi ha;cases hc:(pZ inf t&&(t.rowT||t.one))<;>simp only[hc,cond_true,cond_false] at hr
 ·cases hr
 simp only[Bool.and_eq_true,Bool.or_eq_true] at hc;simp only[Option.map_eq_some_iff] at hr;obtain⟨z,hz,rfl⟩:=hr;obtain⟨v0,sI,vt⟩:∃v0,inf.zero=some v0∧gM t v0=true:=by
  have:=hc.1;unfold pZ at this;split at this
  ·exact⟨_,by assumption,this⟩
  ·cases this
 obtain⟨k1,k2,k3⟩:=tW (cap:=C.cap) (σ:=σ) hz vt;have z7:z.1.rowT=true∨z.1.one=true:=by
  rcases hc.2 with e|e
  ·left;cases t<;>simp[Ty.rowT] at e;simp[mc] at hz;obtain⟨_,_,rfl⟩:=hz;rfl
  ·right;rw[k3];exact e
 refine bJ.value hd fun ρ' aj=>⟨.pointer (some ⟨w.heap.size,0,none⟩),w.alloc (.cells v0.cells T),?_,?_⟩
 ·simp[execOp,ho,Instr.alloc,zeroValue,run_typeInfo w hi,sI,newVar,newRow]
 ·rw[BT aj];exact h.mkPtr ht ah _ _ _ (fun k=>Nat.beq k w.heap.size) ((Below.refl _ _).alloc (Nat.le_refl _) _) (fun k hk=>by simp at hk;simp;omega) (S8 h k1 z7 ag T)
theorem air (h:Inv C S ρ σ own hv w0 σ0 A a w)(hC:CtxOK C σ0)(ht:¬A dst)(ah:dst<a.tmps.size){T:TypeId}{x:Operand}{r:St×List PI}(hr:yP C S dst T x=some r){o:Oper}(hd:o.dst=some dst)(ho:o.op=.box T x):bJ C w0 σ0 Φ S ρ A a w o r:=by
 unfold yP at hr;split at hr
 case h_2=>cases hr
 rename_i t e ag hu ha;cases hc:(t.rowT||t.one)<;>simp only[hc,cond_true,cond_false] at hr
 ·cases hr
 cases hr;simp only[Bool.or_eq_true] at hc;have hx:=bO h hC rfl hu;refine bJ.value hd fun ρ' aj=>⟨.pointer (some ⟨w.heap.size,0,none⟩),w.alloc (.cells (a.eval x).cells T),?_,?_⟩
 ·simp[execOp,ho,Instr.box,newVar,newRow]
 ·rw[BT aj];have:(PE.mk [e]).ev ρ=.agg (e.ev ρ).cells:=by simp[PE.ev,PE.evc]
  rw[this];exact h.mkPtr ht ah _ _ _ (fun k=>Nat.beq k w.heap.size) ((Below.refl _ _).alloc (Nat.le_refl _) _) (fun k hk=>by simp at hk;simp;omega) (S8 h hx hc ag T)
theorem aiH (h:Inv C S ρ σ own hv w0 σ0 A a w)(ht:¬A dst)(ah:dst<a.tmps.size){T:TypeId}{m:Option Operand}{r:St×List PI}(hr:yS C S dst T m=some r){o:Oper}(hd:o.dst=some dst)(ho:o.op=.makeMap T m):bJ C w0 σ0 Φ S ρ A a w o r:=by
 unfold yS at hr;split at hr
 case h_2=>cases hr
 rename_i K E hT;simp only[Option.bind_eq_some_iff,Option.map_eq_some_iff] at hr;obtain⟨kt,hk,et,he,rfl⟩:=hr;refine bJ.value hd fun ρ' aj=>⟨.map (some w.heap.size),w.alloc (.map #[] 0),?_,?_⟩
 ·simp[execOp,ho,Instr.makeMap]
 ·rw[BT aj]
  exact h.mkObj ht ah (.mp kt et) _ _ (fun k=>Nat.beq k w.heap.size) ((Below.refl _ _).alloc (Nat.le_refl _) _) (fun k hk=>by simp at hk;simp;omega)
   ⟨w.heap.size,#[],0,[],aP _ _ _,by simp[eU],heap_alloc_new w _,by simp[Env.setO,aP,PE.ev],rfl,⟨by simp,by simp[kE]⟩,by simp⟩
theorem aiP (h:Inv C S ρ σ own hv w0 σ0 A a w)(ht:¬A dst)(ah:dst<a.tmps.size){T:TypeId}{x:Operand}{r:St×List PI}(hr:yW C S dst T x=some r){o:Oper}(hd:o.dst=some dst)(ho:o.op=.range T x):bJ C w0 σ0 Φ S ρ A a w o r:=by
 unfold yW at hr;split at hr
 case h_2=>cases hr
 rename_i K E j ver hT es;obtain⟨dK,_⟩:=tP h (gs:=[]) rfl x;rw[es] at dK;cases hb:(Nat.beq ver (S.ver j)&& !Nat.beq j dst)<;>simp only[hb,cond_true,cond_false] at hr
 ·cases hr
 simp only[Bool.and_eq_true,Bool.not_eq_true'] at hb;have cj:=dK.2 (Nat.eq_of_beq_eq_true hb.1);have aB:j≠dst:=fun e=>by subst e;simp at hb
 have ba:=h.objs j;split at hr
 case h_2=>cases hr
 rename_i kt et eo;cases hr;rw[eo] at ba;obtain⟨m,arr,clock,ds,h1,h2,h3,h4,h5,⟨h6,nC⟩,h7⟩:=ba;have kQ:=h.mv aB (by rw[eo];rfl);have ph:m<w.heap.size:=(Array.getElem?_eq_some_iff.1 h3).1;have La:w0.heap.size≤m:=(h.owns m j h2).1;refine bJ.value hd fun ρ' aj=>⟨.pointer (some ⟨w.heap.size,0,none⟩),w.alloc (.mapIter (some m) clock #[] clock),?_,?_⟩
 ·simp[execOp,ho,Instr.range,cj,h1,run_underlying hT,getObj,Sem.run,h3]
 have hρ:ρ'=((ρ.setO dst (.tup [.list [],.map ds])).setR dst .none):=by
  simp[PI.runs,PI.run,PE.ev,PE.evs,h4] at aj;exact aj.symm
 subst hρ;have fj:Below w.heap.size w (w.alloc (.mapIter (some m) clock #[] clock)):=(Below.refl _ _).alloc (Nat.le_refl _) _;have LP:=kQ.step (S':=(S.mv j dst).newO dst (.it kt et)) (ρ':=(ρ.setO dst (.tup [.list [],.map ds]))) (σ':=σ) (hv':=bN (bN hv dst (hv j)) dst (.pointer (some ⟨w.heap.size,0,none⟩)))
  (own':=fun k=>if k=w.heap.size then some dst else(if own k=some j then some dst else if own k=some dst then none else own k)) (a':=a) (A':=A) (w':=w.alloc (.mapIter (some m) clock #[] clock)) (fun i=>i=dst)
  rfl (.refl σ) (h.ok.below fj) (fun _ _ _ hx=>.inl hx) (fun _ _ hx=>.inl hx) (fj.mono h.below.size) ⟨fun i=>?_,fun i e=>?_⟩ (fun i hi=>⟨?_,?_,?_,fun k hk=>⟨?_,?_⟩⟩) (fun i hi=>?_) (fun k i hk=>?_) (fun _=>id) (fun t=>.inl ⟨rfl,rfl,rfl⟩) (fun _ _=>rfl) (fun k hk _=>fj.block k hk) (fun k i hk=>?_) (fun i hi=>by subst hi;simp[St.newO,aP])
 ·have jA:=LP.setObj ht (j:=dst) (v:=.pointer (some ⟨w.heap.size,0,none⟩)) (aP _ _ _) ah;have e:((S.mv j dst).newO dst (.it kt et)).ver dst=(S.mv j dst).ver dst+1:=aP _ _ _;rw[e] at jA;exact⟨_,_,_,jA⟩
 ·simp only[St.newO,fb];split<;>rename_i e
  ·subst e;omega
  ·omega
 ·simp only[St.newO,fb] at e;split at e
  ·rename_i e';subst e';omega
  ·rename_i Li;exact bl _ _ Li
 ·simp[St.newO,bl _ _ hi]
 ·simp[Env.setO,bl _ _ hi]
 ·exact bl _ _ hi
 ·have aBK:=(kQ.owns k i hk).2.1;have bn:k≠w.heap.size:=by omega
  simp only[if_neg bn];exact hk
 ·exact fj.block k (kQ.owns k i hk).2.1
 ·subst hi;simp only[St.newO,aP];have dZ:m≠w.heap.size:=by omega
  refine⟨w.heap.size,m,arr,clock,ds,[],aP _ _ _,by simp,by simp[dZ,h2],by omega,?_,heap_alloc_new w _,by simp[Env.setO,aP,fp],List.nodup_nil,by simp,h5,nC,h7⟩;rw[fj.block m ph];exact h3
 ·split at hk
  ·rename_i e;subst e;refine⟨h.below.size,by simp,fun o=>?_,?_⟩
   ·cases hc:σ.c w.heap.size o with
    |none=>rfl
    |some u=>have:=h.lt hc;omega
   ·cases hc:σ.m w.heap.size with
    |none=>rfl
    |some u=>have:=h.ltm hc;omega
  ·obtain⟨g1,g2,g3,g4⟩:=kQ.owns k i hk;exact⟨g1,by simp;omega,g3,g4⟩
 ·split at hk
  ·rename_i e;subst e;exact .inr (Nat.le_refl _)
  ·exact .inl ⟨i,hk⟩
theorem aiv (h:Inv C S ρ σ own hv w0 σ0 A a w)(hC:CtxOK C σ0)(ht:¬A dst)(ah:dst<a.tmps.size){T U:TypeId}{x:Operand}{r:St×List PI}(hr:yQ C S dst T U x=some r){o:Oper}(hd:o.dst=some dst)(ho:o.op=.convert T U x):bJ C w0 σ0 Φ S ρ A a w o r:=by
 unfold yQ at hr;split at hr
 case h_2=>cases hr
 rename_i e E hu hT hU;split at hr
 case h_2=>cases hr
 rename_i hE;cases hr;have hx:=bO h hC rfl hu;obtain⟨s,aR,bj,hs⟩:=hx.str_inv;have qE:=Lib.run_convert_string_bytes (P:=C.P) w T U E s hT hU hE;refine bJ.value hd fun ρ' aj=>⟨.slice (some ⟨w.heap.size,0,none⟩) s.size (grownCap w s.size 0 E),Lib.bytesWorld w E s,by simp[execOp,ho,aR,qE],?_⟩
 simp only[PI.runs,PI.run,Option.bind_eq_some_iff] at aj;obtain⟨ρ1,g1,ρ2,g2,g3⟩:=aj;cases c1:((PE.ci BinOp.leq (.slen e) (.con (.int k9))).ev ρ).b<;>simp only[c1,cond_true,cond_false] at g1
 ·cases g1
 cases g1;cases g2;cases g3;have anw:s.size≤4294967296:=by
  simp[PE.ev,bj,D.s,D.i,D.b,ga,D.int,k9] at c1;omega
 have fj:Below w.heap.size w (Lib.bytesWorld w E s):=⟨rfl,rfl,rfl,by rw[Lib.bytesWorld_size];omega,fun k hk=>Lib.bytesWorld_at_old w E s k hk⟩
 have aK:(Lib.bytesWorld w E s).heap.size=w.heap.size+1:=Lib.bytesWorld_size w E s
 let σ':Im:={c:=fun k i=>if k=w.heap.size then(if i<s.size then some (.int .u8 (s.data.toList.getD i 0).toNat) else none) else σ.c k i,m:=σ.m}
 have hle:σ.le σ':=by
  refine⟨fun k o v hc=>?_,fun k es hc=>hc⟩;have:k≠w.heap.size:=by have:=h.lt hc;omega
  simp[σ',this,hc]
 have ax:σ'.ok (Lib.bytesWorld w E s):=by
  refine⟨fun k i v hc=>?_,(h.ok.below fj).m⟩;simp only[σ'] at hc;split at hc
  ·rename_i ek;subst ek;split at hc
   ·rename_i hi;cases hc;exact Lib.bytesWorld_cell w E s i hi
   ·cases hc
  ·exact(h.ok.below fj).c k i v hc
 have h1:=h.step (S':=S) (ρ':=ρ) (σ':=σ') (own':=own) (hv':=hv) (A':=A) (a':=a) (w':=Lib.bytesWorld w E s) (fun _=>False) rfl hle ax (fun k i v hc=>?_) (fun k es hc=>.inl hc) (fj.mono h.below.size) ⟨fun _=>Nat.le_refl _,fun _ _=>rfl⟩
  (fun j _=>⟨rfl,rfl,rfl,fun k hk=>⟨hk,fj.block k (h.owns k j hk).2.1⟩⟩) (fun j hj=>hj.elim) (fun k j hk=>?_) (fun _=>id) (fun t=>.inl ⟨rfl,rfl,rfl⟩) (fun _ _=>rfl) (fun k hk _=>fj.block k hk) (fun k i hk=>.inl ⟨i,hk⟩) (fun _ hf=>hf.elim)
 ·refine⟨_,_,_,h1.setReg ht (s:=.dat (.slice (.int .u8))) ?_ ah (fun _ _ e=>by cases e)⟩;show Rep C.cap σ' _ _ _;simp only[PE.ev,bj,D.s];refine .slice (.int .u8) w.heap.size 0 s.size _ _ (fun i=>.int .u8 (s.data.toList.getD i 0).toNat) (by simp) (grownCap_ge w s.size 0 E) (grownCap_le_maxLen w s.size 0 E (by unfold maxLen;omega)) (fun i x hx=>?_) (fun i j u hi hu=>?_)
  ·simp only[List.getElem?_map,Option.map_eq_some_iff] at hx;obtain⟨b,hb,rfl⟩:=hx;have:s.data.toList.getD i 0=b:=by simp[List.getD_eq_getElem?_getD,hb]
   rw[this];have:=b.toNat_lt;exact .int .u8 _ (by show(0:Int)≤_;omega) (by show _≤(255:Int);omega)
  ·have hj:j=0:=by
        have:=(Array.getElem?_eq_some_iff.1 hu).1;simp[Value.cells] at this;exact this
   subst hj;simp[Value.cells] at hu;subst hu;simp[σ',Ty.size,hi]
 ·simp only[σ'] at hc;split at hc
  ·rename_i ek;exact .inr ⟨by have:=h.below.size;omega,.inr (by omega)⟩
  ·exact .inl hc
 ·obtain⟨g1,g2,g3,g4⟩:=h.owns k j hk;refine⟨g1,by omega,fun i=>?_,g4⟩;have:k≠w.heap.size:=by omega
  simp[σ',this,g3 i]
end
end Cx
namespace Cx
open Go Go.RowKit
def Dy (C:Ctx)(S:St)(gs:List (Nat×Bool))(e:Ty)(z:D)(parts:List (Nat×Operand))(i:Nat):Option PE:=
 match parts.find? (fun p=>Nat.beq p.1 i) with
 |some p=>(use C S gs p.2).bind fun a=>bif Ty.sub a.1 e then some a.2 else Option.none
 |Option.none=>some (PE.con z)
def rQ (C:Ctx)(S:St)(gs:List (Nat×Bool))(dst:Nat)(T:TypeId)(len:Nat)(parts:List (Nat×Operand)):jT:=
 match C.P.underlying T with
 |some (.slice E)=>
  (l9 C.P E).bind fun e=>(mc e).bind fun z=>
    bif nv C.P E e&&Ty.sub z.1 e&&gX (parts.map (·.1))&&parts.all (fun p=>Nat.blt p.1 len)&&Nat.ble (len*e.size) 16777216 then
     ((List.range len).mapM (Dy C S gs e z.2 parts)).map fun es=>(mkObj S dst (.row E e),[.setO dst (.lst es),.setR dst (.con .none)])
    else Option.none
 |_=>Option.none
def uA (C:Ctx)(S:St)(gs:List (Nat×Bool))(dst:Nat)(T:TypeId)(len:Nat)(parts:List (Nat×Operand)):jT:=
 match C.P.underlying T,rQ C S gs dst T len parts with
 |some (.slice E),some r=>
  (l9 C.P E).bind fun e=>
    match r.2 with
    |.setO _ x::_=>some ((S.newO dst .dead).setR dst (match gs with|[]=>.dat (.slice e.rol)|_=>.opt gs (.dat (.slice e.rol))),[.setR dst x])
    |_=>Option.none
 |_,_=>Option.none
def qg (C:Ctx)(S:St)(T:TypeId)(x v:Operand):jT:=
 match C.P.info? T with
 |some inf=>
  match fq S [] x with
  |.ptr j ver off=>
   bif Nat.beq ver (S.ver j) then
    match S.o j with
    |.box ag shs=>
     match use C S [] v with
     |some (t,e)=>
      bif Nat.beq inf.size t.size&&(t.rowT||t.one)&&Nat.ble (off+t.size) shs.length then
             some (S.setO j (.box ag (shs.take off++t.flat.map .dat++shs.drop (off+t.size))),[.setO j (.setc (.o j) off e)])
      else Option.none
     |Option.none=>
      match fq S [] v with
      |.obj j' ma=>
       bif Nat.beq ma (S.ver j')&&kX (S.o j')&&Nat.beq inf.size 1&&Nat.blt off shs.length then
              some (S.setO j (.box ag (shs.set off (.obj j' ma))),[.setO j (.setc (.o j) off (.con .none))])
       else Option.none
      |_=>Option.none
    |_=>Option.none
   else Option.none
  |.eptr j ver size off=>
   bif Nat.beq ver (S.ver j) then
    match S.o j,use C S [] v with
    |.row _ (.agg ts),some (t,e)=>
     bif Nat.beq inf.size t.size&&(t.rowT||t.one)&&Nat.beq size ts.length&&Nat.ble (off+t.size) ts.length&&Ty.subs t.flat ((ts.drop off).take t.size) then
         some (S,[.setO j (.setn (.o j) (rf x) off e)])
     else Option.none
    |.row _ e0,some (t,e)=>
     bif Nat.beq inf.size 1&&Nat.beq size 1&&Nat.beq off 0&&e0.one&&Ty.sub t e0 then some (S,[.setO j (.setn (.o j) (rf x) 0 e)]) else Option.none
    |_,_=>Option.none
   else Option.none
  |_=>Option.none
 |Option.none=>Option.none
def oJ (C:Ctx)(S:St)(T:TypeId)(m k v:Operand):jT:=
 match C.P.underlying T,fq S [] m with
 |some (.map K _),.obj j ver=>
  bif Nat.beq ver (S.ver j) then
   match S.o j,use C S [] k,use C S [] v with
   |.mp kt et,some (tk,ek),some (tv,ev)=>
    bif Ty.beq tk kt&&qN C.P K kt&&Ty.sub tv et then some (S,[.chk (.ci .lss (.mlen (.o j)) (.con (.int k9))),.setO j (.put (.o j) ek ev)]) else Option.none
   |_,_,_=>Option.none
  else Option.none
 |_,_=>Option.none
def EP (x y:PE):PE:=.ci .leq (.llen (.app x y)) (.con (.int k9))
def Ir:Ty→Ty→Bool
 |.slice e',e=>Ty.beq e'.unf e
 |.nils _,_=>true
 |_,_=>false
def yO (C:Ctx)(S:St)(dst:Nat)(T:TypeId)(s x:Operand):jT:=
 match C.P.underlying T with
 |some (.slice E)=>
  (l9 C.P E).bind fun e=>
    match view C S [] x with
    |some (tx,ex)=>
     bif nv C.P E e&&Ir tx e then
        match use C S [] s with
        |some (.nils _,_)=>some (mkObj S dst (.row E e),[.chk (EP (.con (.list [])) ex),.setO dst (.app (.con (.list [])) ex),.setR dst (.con .none)])
        |some _=>Option.none
        |Option.none=>
         match fq S [] s with
         |.obj j ver=>
          bif Nat.beq ver (S.ver j) then
             match S.o j with
             |.row E' e'=>
              bif Nat.beq E' E&&Ty.beq e' e then
                some ((S.newO j (.row E e)).setR dst (.obj j (S.ver j+1)),[.chk (EP (.o j) ex),.setO j (.app (.o j) ex),.setR dst (.con .none)])
              else Option.none
             |_=>Option.none
          else Option.none
         |_=>Option.none
     else Option.none
    |Option.none=>Option.none
 |_=>Option.none
theorem Ke {P:Program}{T:TypeId}{e:Ty}(h:nv P T e=true):∃inf z,P.info? T=some inf∧inf.size=e.size∧inf.bytes≤sT∧1≤e.size∧inf.zero=some z∧gM e z=true:=by
 unfold nv at h;split at h
 ·rename_i i hi;simp only[Bool.and_eq_true] at h;have h4:=h.2;unfold pZ at h4;split at h4
  ·rename_i z hz;exact⟨i,z,hi,Nat.eq_of_beq_eq_true h.1.1.1,Nat.le_of_ble_eq_true h.1.1.2,Nat.le_of_ble_eq_true h.1.2,hz,h4⟩
  ·cases h4
 ·cases h
theorem Sc {e:Ty}{z:Value}(h:gM e z=true):z.cells.size=e.size:=by
 cases e with
 |agg ts=>
  cases z with
  |agg vs=>simp only[gM] at h;have:=(Sd ts vs.toList h).1;simpa [Value.cells,Ty.size] using this
  |_=>simp[gM] at h
 |_=>cases z<;>simp_all [gM,tV,Value.cells,Ty.size]
theorem ahN {ρ:Env}{x y:PE}(h:((PE.ci .lss x y).ev ρ).b=true):(x.ev ρ).i<(y.ev ρ).i:=by
 simpa [PE.ev,D.b_bool,ga] using h
theorem TO {ρ:Env}{x y:PE}(h:((PE.ci .leq x y).ev ρ).b=true):(x.ev ρ).i≤(y.ev ρ).i:=by
 simpa [PE.ev,D.b_bool,ga] using h
theorem apm {n:Nat}(h:(n:Int)<k9):n<4294967296:=by unfold k9 at h;omega
theorem Wv {n:Nat}(h:(n:Int)≤k9):n≤4294967296:=by unfold k9 at h;omega
theorem St.setO_self {S:St}{j:Nat}{ob:Ob}(h:S.o j=ob):S.setO j ob=S:=by
 have:bN S.o j ob=S.o:=by
  funext i;rw[fb];split
  ·rename_i e;subst e;exact h.symm
  ·rfl
 cases S;simp only[St.setO] at this ⊢;rw[this]
section
variable {C:Ctx} {S:St} {ρ:Env} {σ:Im} {own:Nat→Option Nat} {hv:Nat→Value} {w0:World} {σ0:Base} {A:Nat→Prop} {a:Act} {w:World} {gs:List (Nat×Bool)} {Φ:aL} {dst:Nat}
theorem Inv.updO (h:Inv C S ρ σ own hv w0 σ0 A a w)(j:Nat)(ob:Ob)(d:D)(v:Value)(nb:Nat→Bool){w':World}(hw:Below w0.heap.size w w')
 (oX:∀k,k<w.heap.size→own k≠some j→w'.heap[k]?=w.heap[k]?) (cP:∀k,nb k=true→(own k=some j∨w.heap.size≤k)∧k<w'.heap.size)
 (cn:bQ C (S.newO j ob) (ρ.setO j d) σ (eU own j nb) (bN hv j v) w' w0.heap.size j ob) (kR:ob≠.tr:=by intro h;cases h):Inv C (S.newO j ob) (ρ.setO j d) σ (eU own j nb) (bN hv j v) w0 σ0 A a w':=by
 have aK:w0.heap.size≤w.heap.size:=h.below.size;have bI:∀k i,i≠j→own k=some i→eU own j nb k=some i:=by
  intro k i hi hk;have h1:=h.owns k i hk;have h2:nb k=false:=by
   cases hn:nb k with
   |false=>rfl
   |true=>
    rcases(cP k hn).1 with e|e
    ·rw[hk] at e;simp at e;exact absurd e hi
    ·omega
  simp[eU,h2,hk,hi]
 have ax:σ.ok w':=by
  refine⟨fun k o u hc=>?_,fun k es hc=>?_⟩
  ·have aB:own k≠some j:=fun e=>by rw[(h.owns k j e).2.2.1 o] at hc;cases hc
   rw[World.cell?_of_block (oX k (h.lt hc) aB)];exact h.ok.c k o u hc
  ·have aB:own k≠some j:=fun e=>by rw[(h.owns k j e).2.2.2] at hc;cases hc
   exact(h.ok.m k es hc).keep (oX k (h.ltm hc) aB)
 refine h.step (fun i=>i=j) rfl (.refl σ) ax (fun _ _ _ hx=>.inl hx) (fun _ _ hx=>.inl hx) hw ⟨fun i=>?_,fun i e=>?_⟩ (fun i hi=>⟨?_,?_,?_,fun k hk=>⟨bI k i hi hk,?_⟩⟩) (fun i hi=>?_) (fun k i hk=>?_) (fun _=>id) (fun t=>.inl ⟨rfl,rfl,rfl⟩) (fun _ _=>rfl) (fun k hk e=>oX k hk (by rw[e];simp)) (fun k i hk=>by
  unfold eU at hk;split at hk
  ·rename_i hn;rcases(cP k hn).1 with e|e
   ·exact .inl ⟨j,e⟩
   ·exact .inr e
  ·split at hk
   ·cases hk
   ·exact .inl ⟨i,hk⟩) (fun i hi=>by subst hi;simpa only[St.newO,aP] using kR)
 ·simp only[St.newO,fb];split<;>rename_i e
  ·subst e;omega
  ·omega
 ·simp only[St.newO,fb] at e;split at e
  ·rename_i e';subst e';omega
  ·rename_i aB;exact bl _ _ aB
 ·simp[St.newO,bl _ _ hi]
 ·simp[Env.setO,bl _ _ hi]
 ·exact bl _ _ hi
 ·exact oX k (h.owns k i hk).2.1 (by rw[hk];simpa using hi)
 ·subst hi;simp only[St.newO,aP];exact cn
 ·unfold eU at hk;split at hk
  ·rename_i hn;obtain⟨g1,g2⟩:=cP k hn;rcases g1 with e|e
   ·obtain⟨f1,f2,f3,f4⟩:=h.owns k j e;exact⟨f1,g2,f3,f4⟩
   ·refine⟨by omega,g2,fun o=>?_,?_⟩
    ·cases hc:σ.c k o with
     |none=>rfl
     |some u=>have:=h.lt hc;omega
    ·cases hc:σ.m k with
     |none=>rfl
     |some u=>have:=h.ltm hc;omega
  ·split at hk
   ·cases hk
   ·obtain⟨g1,g2,g3,g4⟩:=h.owns k i hk;exact⟨g1,by have:=hw.size;omega,g3,g4⟩
theorem Inv.updB (h:Inv C S ρ σ own hv w0 σ0 A a w)(j:Nat)(ob:Ob)(d:D){w':World}(hw:Below w0.heap.size w w')
 (oX:∀k,k<w.heap.size→own k≠some j→w'.heap[k]?=w.heap[k]?)
 (cn:bQ C (S.setO j ob) (ρ.setO j d) σ own hv w' w0.heap.size j ob) (kR:ob≠.tr:=by intro h;cases h):Inv C (S.setO j ob) (ρ.setO j d) σ own hv w0 σ0 A a w':=by
 have ax:σ.ok w':=by
  refine⟨fun k o u hc=>?_,fun k es hc=>?_⟩
  ·have aB:own k≠some j:=fun e=>by rw[(h.owns k j e).2.2.1 o] at hc;cases hc
   rw[World.cell?_of_block (oX k (h.lt hc) aB)];exact h.ok.c k o u hc
  ·have aB:own k≠some j:=fun e=>by rw[(h.owns k j e).2.2.2] at hc;cases hc
   exact(h.ok.m k es hc).keep (oX k (h.ltm hc) aB)
 refine h.step (fun i=>i=j) rfl (.refl σ) ax (fun _ _ _ hx=>.inl hx) (fun _ _ hx=>.inl hx) hw (Compat.setO _ _ _ _) (fun i hi=>⟨by simp[St.setO,bl _ _ hi],by simp[Env.setO,bl _ _ hi],rfl,fun k hk=>⟨hk,oX k (h.owns k i hk).2.1 (by rw[hk];simpa using hi)⟩⟩) (fun i hi=>?_) (fun k i hk=>?_) (fun _=>id) (fun t=>.inl ⟨rfl,rfl,rfl⟩) (fun _ _=>rfl) (fun k hk e=>oX k hk (by rw[e];simp)) (fun k i hk=>.inl ⟨i,hk⟩) (fun i hi=>by subst hi;rw[St.setO_o];exact kR)
 ·subst hi;rw[St.setO_o];exact cn
 ·obtain⟨g1,g2,g3,g4⟩:=h.owns k i hk;exact⟨g1,by have:=hw.size;omega,g3,g4⟩
theorem UF {B:Nat}{w w':World}{row:Option Nat}(hg:w.grownBy w' row)(hB:B≤w.heap.size)(hr:∀k,row=some k→B≤k):Below B w w':=(Below.refl B w).grown hg hB hr
theorem WL {z:Array Value}{n i q:Nat}(hz:0<z.size)(hi:i<n)(hq:q<z.size):(madeCells z (n*z.size))[i*z.size+q]?=z[q]?:=by
 have ah:i*z.size+q<n*z.size:=by
  have:(i+1)*z.size≤n*z.size:=Nat.mul_le_mul_right _ hi;rw[Nat.add_mul] at this;omega
 have hm:(i*z.size+q)%z.size=q:=by rw[Nat.add_comm,Nat.add_mul_mod_self_right,Nat.mod_eq_of_lt hq]
 simp[madeCells,Array.getElem?_range,ah,hm,hq]
theorem aiJ (h:Inv C S ρ σ own hv w0 σ0 A a w)(hC:CtxOK C σ0)(ht:¬A dst)(ah:dst<a.tmps.size){T:TypeId}{l c:Operand}{r:St×List PI}(hr:yT C S dst T l c=some r){o:Oper}(hd:o.dst=some dst)(ho:o.op=.makeSlice T l c):bJ C w0 σ0 Φ S ρ A a w o r:=by
 unfold yT at hr;split at hr
 case h_2=>cases hr
 rename_i E k1 n k2 m hT hl hc;simp only[Option.bind_eq_some_iff] at hr;obtain⟨e,he,hr⟩:=hr;cases hf:nv C.P E e<;>simp only[hf,cond_true,cond_false] at hr
 ·cases hr
 obtain⟨inf,z0,hi,hs,hb,h1,hz,ke⟩:=Ke hf;simp only[Option.bind_eq_some_iff] at hr;obtain⟨z,hzt,hr⟩:=hr;cases bV:Ty.sub z.1 e<;>simp only[bV,cond_true,cond_false] at hr
 ·cases hr
 cases hr;obtain⟨n1,aR,bj,b1,b2⟩:=(bO h hC rfl hl).int_inv;obtain⟨n2,fS,dk,b3,b4⟩:=(bO h hC rfl hc).int_inv;simp only at bj dk;have Ag:=((tW (cap:=C.cap) (σ:=σ) hzt ke).1).sub bV;refine bJ.value hd fun ρ' aj=>?_;simp only[PI.runs,PI.run,Option.bind_eq_some_iff] at aj;obtain⟨ρ1,g1,ρ2,g2,aj⟩:=aj;cases c1:((MG n).ev ρ).b<;>simp only[c1,cond_true,cond_false] at g1
 ·cases g1
 cases g1;cases c2:((PE.ci BinOp.eql n m).ev ρ).b<;>simp only[c2,cond_true,cond_false] at g2
 ·cases g2
 cases g2;have anL:n1=n2:=by simpa [PE.ev,bj,dk,D.i_int,D.b_bool,ga] using c2
 subst anL;have hb:0≤n1∧n1≤k9:=by simpa [MG,PE.ev,bj,D.i_int,D.b_bool,ga,D.int] using c1
 obtain⟨nn,rfl⟩:=Int.eq_ofNat_of_zero_le hb.1;have zM:nn≤4294967296:=by have:=hb.2;unfold k9 at this;omega
 have pw:z0.cells.size=e.size:=Sc ke;obtain⟨w',r1,r2,r3⟩:=run_make_full (P:=C.P) w w0.heap.size T E inf z0 e.size hT hi hz hs k1 k2 nn (by
  have:inf.bytes*nn≤sT*4294967296:=Nat.mul_le_mul (by assumption) zM;unfold sT at this;omega) (by unfold maxLen;omega) h.below.size
 refine⟨.slice (some ⟨w.heap.size,0,none⟩) nn nn,w',by simp[execOp,ho,aR,fS,r1],?_⟩;obtain⟨ρ3,g3,ρ4,g4,g5⟩:=aj;cases g3;cases g4;cases g5;simp only[PE.ev,bj,D.i_int,Int.toNat_natCast];have hlen:(List.replicate nn z.2).length=nn:=by simp
 refine h.mkObj ht ah (.row E e) _ _ (fun k=>Nat.beq k w.heap.size) (UF r3 (Nat.le_refl _) (by simp)) (fun k hk=>?_) ⟨_,List.replicate nn z.2,by simp[Env.setO,aP],by rw[aP,hlen];exact r2,⟨fun _=>z0,fun i x hx=>?_,fun i j u hi hj=>?_⟩,fun k hk=>?_⟩
 ·have bn:k=w.heap.size:=Nat.eq_of_beq_eq_true hk;have:=(r2.lt _ rfl).2;subst bn;exact⟨Nat.le_refl _,this⟩
 ·have:=(List.getElem?_eq_some_iff.1 hx)
  obtain⟨q1,q2⟩:=this;simp at q2;subst q2;exact Ag
 ·rw[hlen] at hi;have bR:j<z0.cells.size:=(Array.getElem?_eq_some_iff.1 hj).1;rw[Array.getElem?_toList,←pw];rw[WL (by omega) hi bR];exact hj
 ·rw[aP] at hk;simp[Value.ownBlock] at hk;simp[eU,hk]
theorem kE.push {arr:Array MapEntry}{clock:Nat}(h:kE arr clock)(k v:Value):kE (arr.push {key:=k,val:=v,born:=clock}) (clock+1):=by
 have key:∀(i:Nat) (e:MapEntry),(arr.push {key:=k,val:=v,born:=clock})[i]?=some e→(arr[i]?=some e∧e.born<clock)∨(i=arr.size∧e.born=clock):=by
  intro i e he;rw[Array.getElem?_push] at he;split at he
  ·rename_i hi;cases he;exact .inr ⟨hi,rfl⟩
  ·exact .inl ⟨he,h.1 i e he⟩
 refine⟨fun i e he=>?_,fun i j e f he hf hb=>?_⟩
 ·rcases key i e he with⟨_,h1⟩|⟨_,h1⟩<;>omega
 ·rcases key i e he with⟨h1,h2⟩|⟨h1,h2⟩<;>rcases key j f hf with⟨h3,h4⟩|⟨h3,h4⟩
  ·exact h.2 i j e f h1 h3 hb
  ·omega
  ·omega
  ·omega
theorem kE.modify {arr:Array MapEntry}{clock:Nat}(h:kE arr clock)(i0:Nat)(k v:Value):kE (arr.modify i0 fun e=>{e with key:=k,val:=v}) clock:=by
 have key:∀(i:Nat) (e:MapEntry),(arr.modify i0 fun e=>{e with key:=k,val:=v})[i]?=some e→∃e',arr[i]?=some e'∧e'.born=e.born:=by
  intro i e he;rw[Array.getElem?_modify] at he;split at he
  ·simp only[Option.map_eq_some_iff] at he;obtain⟨e',h1,rfl⟩:=he;exact⟨e',h1,rfl⟩
  ·exact⟨e,he,rfl⟩
 refine⟨fun i e he=>?_,fun i j e f he hf hb=>?_⟩
 ·obtain⟨e',h1,h2⟩:=key i e he;rw[←h2];exact h.1 i e' h1
 ·obtain⟨e',h1,h2⟩:=key i e he;obtain⟨f',h3,h4⟩:=key j f hf;exact h.2 i j e' f' h1 h3 (by rw[h2,h4,hb])
theorem T7 (h:Inv C S ρ σ own hv w0 σ0 A a w)(hC:CtxOK C σ0){T:TypeId}{m k v:Operand}{r:St×List PI}(hr:oJ C S T m k v=some r){o:Oper}(hd:o.dst=none)(ho:o.op=.mapUpdate T m k v∨o.op=.insert T m k v):bJ C w0 σ0 Φ S ρ A a w o r:=by
 unfold oJ at hr;split at hr
 case h_2=>cases hr
 rename_i K E j ver hT es;obtain⟨dK,_⟩:=tP h (gs:=[]) rfl m;rw[es] at dK;cases hb:Nat.beq ver (S.ver j)<;>simp only[hb,cond_true,cond_false] at hr
 ·cases hr
 have cj:=dK.2 (Nat.eq_of_beq_eq_true hb);have ba:=h.objs j;split at hr
 case h_2=>cases hr
 rename_i kt et tk ek tv ev eo hk sJ;rw[eo] at ba;cases hc:(Ty.beq tk kt&&qN C.P K kt&&Ty.sub tv et)<;>simp only[hc,cond_true,cond_false] at hr
 ·cases hr
 cases hr;simp only[Bool.and_eq_true] at hc;obtain⟨⟨Ej,zE⟩,bV⟩:=hc;obtain⟨g,arr,clock,ds,h1,h2,h3,h4,h5,⟨h6,nC⟩,h7⟩:=ba;have bn:=bO h hC rfl hk;rw[Ty.beq_eq _ _ Ej] at bn;have hv':=(bO h hC rfl sJ).sub bV;refine bJ.skip hd fun ρ' aj=>?_;simp only[PI.runs,PI.run,Option.bind_eq_some_iff] at aj;obtain⟨ρ1,g1,ρ2,g2,g3⟩:=aj;cases c1:((PE.ci BinOp.lss (.mlen (.o j)) (.con (.int k9))).ev ρ).b<;>simp only[c1,cond_true,cond_false] at g1
 ·cases g1
 cases g1;cases g2;cases g3;have anw:ds.length<4294967296:=by
  have h8:=ahN c1;simp only[PE.ev,h4,D.m,D.i_int,D.int] at h8;exact apm h8
 have iW:(Instr.checkKey false 10000 K (a.eval k)).run C.P w=.ok () w:=TN (cap:=C.cap) (σ:=σ) zE bn;have jE:∃p9 uu ds',(Instr.mapUpdate T (a.eval m) (a.eval k) (a.eval v)).run C.P w=.ok () {w with heap:=w.heap.setIfInBounds g (.map p9 uu)}∧jm (ek.ev ρ) (ev.ev ρ) ds=ds'∧ds'.length=p9.size∧(ds'.length≤maxLen∧kE p9 uu)∧
  ∀(i:Nat) (e:MapEntry) (p:D×D),p9[i]?=some e→ds'[i]?=some p→Rep C.cap σ kt e.key p.1∧Rep C.cap σ et e.val p.2:=by
  rcases run_findKey zE bn arr ds h5 h7 w with⟨f1,f2,f3⟩|⟨i,e,p,f1,f2,f3,f4,f5,f6⟩
  ·refine⟨arr.push {key:=a.eval k,val:=a.eval v,born:=clock},clock+1,ds++[(ek.ev ρ,ev.ev ρ)],?_,f3 _,by simp[h5],⟨by simp;unfold maxLen;omega,nC.push _ _⟩,fun q e p he hp=>?_⟩
   ·rw[cj,h1];simp[Instr.mapUpdate,run_underlying hT,getObj,Sem.run,h3,iW,f1,setObj]
   ·rw[Array.getElem?_push] at he;rw[List.getElem?_append] at hp;by_cases hq:q=arr.size
    ·subst hq;simp at he;rw[if_neg (by omega)] at hp;simp[h5] at hp;subst he;subst hp;exact⟨bn,hv'⟩
    ·rw[if_neg hq] at he;have EB:q<arr.size:=(Array.getElem?_eq_some_iff.1 he).1;rw[if_pos (by omega)] at hp;exact h7 q e p he hp
  ·refine⟨arr.modify i fun e=>{e with key:=a.eval k,val:=a.eval v},clock,ds.set i (ek.ev ρ,ev.ev ρ),?_,f5 _,by simp[h5],⟨by simp;exact h6,nC.modify _ _ _⟩,fun q e' p' he hp=>?_⟩
   ·rw[cj,h1];have cF:(Instr.keyThatStays e.key (a.eval k)).run C.P w=.ok (a.eval k) w:=by simp[Instr.keyThatStays,f6]
    simp[Instr.mapUpdate,run_underlying hT,getObj,Sem.run,h3,iW,f3,f1,cF,setObj]
   ·rw[Array.getElem?_modify] at he;rw[List.getElem?_set] at hp;by_cases hq:i=q
    ·subst hq;simp only[if_true] at he hp;rw[f1] at he;simp at he;split at hp
     ·cases hp;subst he;exact⟨bn,hv'⟩
     ·cases hp
    ·rw[if_neg hq] at he hp;exact h7 q e' p' he hp
 obtain⟨p9,uu,ds',r1,r2,r3,r4,r5⟩:=jE;refine⟨{w with heap:=w.heap.setIfInBounds g (.map p9 uu)},by rcases ho with ho|ho<;>simp[execOp,ho,r1],?_⟩;have hgl:g<w.heap.size:=(Array.getElem?_eq_some_iff.1 h3).1;have hgB:w0.heap.size≤g:=(h.owns g j h2).1;have bD:(PE.put (.o j) ek ev).ev ρ=.map ds':=by simp only[PE.ev,h4,D.m,r2]
 rw[bD]
 have:=h.updB j (.mp kt et) (.map ds') (w':={w with heap:=w.heap.setIfInBounds g (.map p9 uu)}) ⟨rfl,rfl,rfl,by simp,fun k hk=>by simp;rw[Array.getElem?_setIfInBounds_ne (by omega)]⟩
  (fun k hk aB=>by simp;rw[Array.getElem?_setIfInBounds_ne (fun e=>aB (by rw[←e];exact h2))])
  ⟨g,p9,uu,ds',h1,h2,by simp[hgl],by simp[Env.setO,aP],r3,r4,r5⟩
 have eS:S.setO j (.mp kt et)=S:=St.setO_self eo;rw[eS] at this;exact⟨_,_,_,this⟩
end
end Cx
namespace Cx
open Go Go.RowKit
theorem axI {e:Ty}{z:Value}(h:gM e z=true):e.rowT=true∨e.one=true:=by
 cases e<;>first|exact .inl rfl|exact .inr rfl|(cases z<;>simp[gM,tV] at h)
theorem Rep.cellsOne {cap:Nat→Option CSig}{σ:Im}{t:Ty}{v:Value}{d:D}(h:Rep cap σ t v d)(ht:t.rowT=true∨t.one=true){m:Nat}{u:Value}(hu:v.cells[m]?=some u):u.oneCell'=true:=by
 obtain⟨f1,f2,f3⟩:=h.flat ht;have ah:m<v.cells.size:=(Array.getElem?_eq_some_iff.1 hu).1;rw[h.size] at ah;obtain⟨g1,g2⟩:=f3 m _ (List.getElem?_eq_getElem (by omega:m<t.flat.length));have:=(g2.oneCell g1).2;rw[Array.getD_eq_getD_getElem?,hu] at this;exact this
theorem ai4 {cap:Nat→Option CSig}{σ:Im}{e:Ty}{cells:List Value}{xs:List D}(h:fI cap σ e cells xs)(hl:cells.length=xs.length*e.size)(fR:e.rowT=true∨e.one=true):∀u∈cells,u.oneCell'=true:=by
 obtain⟨vs,h1,h2⟩:=h;intro u hu;obtain⟨p,hp,rfl⟩:=List.getElem_of_mem hu;rw[hl] at hp;have hs:0<e.size:=Nat.pos_of_ne_zero fun e0=>by rw[e0] at hp;simp at hp
 have hi:p/e.size<xs.length:=(Nat.div_lt_iff_lt_mul hs).2 hp;have hq:p%e.size<e.size:=Nat.mod_lt _ hs;have bH:=h1 _ _ (List.getElem?_eq_getElem hi);have aK:=bH.size;have mI:(vs (p/e.size)).cells[p%e.size]?=some (vs (p/e.size)).cells[p%e.size]:=Array.getElem?_eq_getElem (by omega);have:=h2 _ _ _ hi mI;rw[Nat.mul_comm,Nat.div_add_mod] at this;have h3:cells[p]=(vs (p/e.size)).cells[p%e.size]:=by
  have h4:=List.getElem?_eq_getElem (show p<cells.length by omega);rw[h4] at this;exact Option.some.inj this
 rw[h3];exact bH.cellsOne fR mI
theorem ai3 {cap:Nat→Option CSig}{σ:Im}{e:Ty}{c1 c2:List Value}{xs ys:List D}(h:fI cap σ e c1 xs)(k:fI cap σ e c2 ys)(hl:c1.length=xs.length*e.size):fI cap σ e (c1++c2) (xs++ys):=by
 obtain⟨vs,h1,h2⟩:=h;obtain⟨us,k1,k2⟩:=k;refine⟨fun i=>if i<xs.length then vs i else us (i-xs.length),fun i x hx=>?_,fun i j u hi hj=>?_⟩
 ·rw[List.getElem?_append] at hx;split at hx
  ·rename_i ah;simp only[ah,if_true];exact h1 i x hx
  ·rename_i ah;simp only[ah,if_false];exact k1 _ x hx
 ·by_cases ah:i<xs.length
  ·simp only[ah,if_true] at hj;have:=h2 i j u ah hj;rw[List.getElem?_append_left (List.getElem?_eq_some_iff.1 this).1];exact this
  ·simp only[ah,if_false] at hj;have cV:i-xs.length<ys.length:=by simp at hi;omega
   have:=k2 _ j u cV hj;have e1:i*e.size=c1.length+(i-xs.length)*e.size:=by rw[hl,←Nat.add_mul];congr 1;omega
   rw[List.getElem?_append_right (by omega)];rw[show i*e.size+j-c1.length=(i-xs.length)*e.size+j by omega];exact this
section
variable {C:Ctx} {S:St} {ρ:Env} {σ:Im} {own:Nat→Option Nat} {hv:Nat→Value} {w0:World} {σ0:Base} {A:Nat→Prop} {a:Act} {w:World} {gs:List (Nat×Bool)} {Φ:aL} {dst:Nat}
theorem axm (h:Inv C S ρ σ own hv w0 σ0 A a w){B:Nat}{e f:Ty}{v:Value}{d:D}(hs:0<e.size)(fR:e.rowT=true∨e.one=true)(hf:f.unf=e)(L1:I2 C σ w B (.slice f) v d):
 ∃ys,d=.list ys∧ys.length≤maxLen∧((v=.slice none 0 0∧ys=[])∨∃(ad:Addr) (c:Nat) (news:List Value),v=.slice (some ad) ys.length c∧news.length=ys.length*e.size∧
  (∀j u,news[j]?=some u→w.cell? (ad.add j)=some u)∧fI C.cap σ e news ys):=by
 rcases L1 with hr|⟨T,e',cells,xs,ht,hd,bI,gy⟩|⟨k,arr,clock,es,kt,et,ht,_⟩
 ·obtain⟨xs,hd,mH⟩:=hr.slice_inv;rw[←f.unf_size,hf] at mH;rcases mH with⟨⟨p0,aR⟩,rfl⟩|⟨k,o,c,aR,h1,h2,vs,h3,h4⟩
  ·cases p0 with
   |none=>exact⟨[],hd,by simp,.inl ⟨aR,rfl⟩⟩
   |some a0=>exact⟨[],hd,by simp,.inr ⟨a0,0,[],aR,by simp,fun j u hu=>by simp at hu,fun _=>undef,fun i x hx=>by simp at hx,fun i j u hi=>by simp at hi⟩⟩
  ·refine⟨xs,hd,by omega,.inr ⟨⟨k,o,none⟩,c,(List.range (xs.length*e.size)).map fun p=>(vs (p/e.size)).cells.getD (p%e.size) undef,aR,by simp,fun j u hu=>?_,vs,h3,fun i j u hi hj=>?_⟩⟩
   ·simp only[List.getElem?_map,Option.map_eq_some_iff] at hu;obtain⟨p,hp,rfl⟩:=hu;have eR:j<xs.length*e.size:=by have:=(List.getElem?_eq_some_iff.1 hp).1;simpa using this
    rw[List.getElem?_range eR] at hp;cases hp;have hi:j/e.size<xs.length:=(Nat.div_lt_iff_lt_mul hs).2 eR;have hq:j%e.size<e.size:=Nat.mod_lt _ hs;have bH:=h3 _ _ (List.getElem?_eq_getElem hi);have aK:=bH.size;have mI:(vs (j/e.size)).cells[j%e.size]?=some ((vs (j/e.size)).cells.getD (j%e.size) undef):=by
     rw[Array.getD_eq_getD_getElem?,Array.getElem?_eq_getElem (by omega)];rfl
    have:=h.cell (h4 _ _ _ hi mI);rw[p7]
    rwa [show o+j/e.size*e.size+j%e.size=o+j by rw[Nat.add_assoc,Nat.mul_comm,Nat.div_add_mod]] at this
   ·have bH:=h3 _ _ (List.getElem?_eq_getElem hi);have bR:j<e.size:=by rw[←bH.size];exact(Array.getElem?_eq_some_iff.1 hj).1
    have ah:i*e.size+j<xs.length*e.size:=by
     have:(i+1)*e.size≤xs.length*e.size:=Nat.mul_le_mul_right _ hi;rw[Nat.add_mul] at this;omega
    have e1:(i*e.size+j)/e.size=i:=by rw[Nat.mul_comm,Nat.mul_add_div hs,Nat.div_eq_of_lt bR];omega
    have e2:(i*e.size+j)%e.size=j:=by rw[Nat.add_comm,Nat.add_mul_mod_self_right,Nat.mod_eq_of_lt bR]
    simp only[List.getElem?_map,List.getElem?_range ah,Option.map_some,e1,e2];rw[Array.getD_eq_getD_getElem?,hj];rfl
 ·cases ht;rw[Ty.unf_rol] at hf;obtain⟨b,c,aR,hm,_⟩:=tq bI;have gy:fI C.cap σ e cells xs:=by
   obtain⟨us,u1,u2⟩:=gy;refine⟨us,fun i x hx=>hf▸(u1 i x hx).unf,fun i j u hi hu=>?_⟩;rw[←hf,Ty.unf_size];exact u2 i j u hi hu
  have bI:w.ownsRow B T e.size v xs.length cells:=by rw[←hf,Ty.unf_size];exact bI
  rcases bI.2 with⟨e1,e2⟩|⟨g,cap,cur,e1,e2⟩
  ·have:xs=[]:=List.eq_nil_of_length_eq_zero e2;subst this;exact⟨[],hd,by simp,.inl ⟨e1,rfl⟩⟩
  ·exact⟨xs,hd,hm,.inr ⟨⟨g,0,none⟩,cap,cells,e1,bI.1,bI.cells (by rw[e1];rfl),gy⟩⟩
 ·cases ht
theorem aut {P:Program}{B:Nat}{T E ty:TypeId}{inf:TypeInfo}{z:Value}{size:Nat}{v x:Value}{n m:Nat}{xs news:List Value}(hT:P.underlying T=some (.slice E))(hi:P.info? E=some inf)(hz:inf.zero=some z)
 (hs:inf.size=size) (pw:z.cells.size=size) (aK:0<size) (mG:inf.bytes≤sT) (bI:w.ownsRow B E size v n xs) (hB:B≤w.heap.size) (cK:n+m≤4294967296)
 (hx:(x=.slice none 0 0∧m=0∧news=[])∨∃(ad:Addr) (c:Nat),x=.slice (some ad) m c∧news.length=m*size∧(∀j u,news[j]?=some u→w.cell? (ad.add j)=some u)∧∀u∈news,u.oneCell'=true):
 ∃v' w',(Builtin.append_ #[T,T] ty #[v,x]).run P w=.ok v' w'∧w'.ownsRow B E size v' (n+m) (xs++news)∧w.grownBy w' v.ownBlock∧∀k,v'.ownBlock=some k→v.ownBlock=some k∨(w.heap.size≤k∧k<w'.heap.size):=by
 rcases hx with⟨rfl,rfl,rfl⟩|⟨ad,c,rfl,hl,Et,h1⟩
 ·refine⟨v,w,run_append_owned_none w B T ty E inf size hT hi v n xs bI,by simpa using bI,⟨rfl,rfl,rfl,Nat.le_refl _,fun _ _ _=>rfl⟩,fun k hk=>.inl hk⟩
 ·have KN:(n+m)*inf.bytes≤140737488355328:=by
   have:(n+m)*inf.bytes≤4294967296*sT:=Nat.mul_le_mul cK mG;unfold sT at this;omega
  obtain⟨v',w',r1,r2,r3,r4⟩:=run_append_own (P:=P) w B T ty E inf z size inf.bytes hT hi hz hs rfl pw aK v n xs bI ad m c news hl Et h1 (by unfold maxLen;omega) KN hB;refine⟨v',w',r1,r2,r3,fun k hk=>?_⟩;have ah:=(r2.lt k hk).2;subst hs;rcases bI.2 with⟨rfl,rfl⟩|⟨g,cap,cur,rfl,hbg,hg,cQ,kM,dX,Ab⟩
  ·by_cases hm:m=0
   ·subst hm;have:=r4.2 ⟨rfl,rfl⟩;subst this;simp[Value.ownBlock] at hk
   ·have hr:=run_append_nil (P:=P) w T ty E inf z hT hi hz ad m c news hl Et (by omega) (by omega) (by have hb:=KN;simp only[Nat.zero_add] at hb;omega);rw[hr] at r1;cases r1;simp[Value.ownBlock] at hk;subst hk;exact .inr ⟨Nat.le_refl _,ah⟩
  ·by_cases VT:n+m≤cap
   ·have Ea:n*inf.size+news.length≤cur.size:=by rw[hl,dX,←Nat.add_mul];exact Nat.mul_le_mul_right _ VT
    have hr:=run_append_room (P:=P) w T ty E inf hT hi g n cap cur hg ad m c news hl Et h1 VT Ea;rw[hr] at r1;cases r1;exact .inl hk
   ·have hr:=run_append_grow (P:=P) w T ty E inf z hT hi hz ⟨g,0,none⟩ n cap xs bI.1 (bI.cells (g:=g) rfl) ad m c news hl Et (by omega) (by omega) (growslice_fits (by omega) KN);rw[hr] at r1;cases r1;simp[Value.ownBlock] at hk;subst hk;exact .inr ⟨Nat.le_refl _,ah⟩
theorem aip (h:Inv C S ρ σ own hv w0 σ0 A a w)(hC:CtxOK C σ0)(ht:¬A dst)(ah:dst<a.tmps.size){T:TypeId}{s x:Operand}{r:St×List PI}(hr:yO C S dst T s x=some r){o:Oper}(hd:o.dst=some dst)
 (ho:o.op=.call {callee:=.builtin .append,args:=#[s,x],argTypes:=#[T,T]}):bJ C w0 σ0 Φ S ρ A a w o r:=by
 unfold yO at hr;split at hr
 case h_2=>cases hr
 rename_i E hT;simp only[Option.bind_eq_some_iff] at hr;obtain⟨e,he,hr⟩:=hr;split at hr
 case h_2=>cases hr
 rename_i tx ex L1;have hv':=R6 h hC (gs:=[]) rfl L1;obtain⟨cs,aj⟩:=PN (C:=C) (w:=w) (a:=a) ho;cases hc:(nv C.P E e&&Ir tx e)<;>simp only[hc,cond_true,cond_false] at hr
 ·cases hr
 simp only[Bool.and_eq_true] at hc;obtain⟨inf,z,hi,hs,mG,h1,hz,ke⟩:=Ke hc.1;have pw:=Sc ke;have fR:=axI ke;have L2:∃f:Ty,f.unf=e∧I2 C σ w w0.heap.size (.slice f) (a.eval x) (ex.ev ρ):=by
  have cF:=hc.2;unfold Ir at cF;split at cF
  ·exact⟨_,Ty.beq_eq _ _ cF,hv'⟩
  ·refine⟨e,Ty.unf_ro fR,?_⟩;rcases hv' with hr|⟨_,_,_,_,ht,_⟩|⟨_,_,_,_,_,_,ht,_⟩
   ·exact .inl (hr.sub (by simp[Ty.sub]))
   ·cases ht
   ·cases ht
  ·cases cF
 obtain⟨fv,dL,L2⟩:=L2;obtain⟨ys,D8,ix,aow⟩:=axm h h1 fR dL L2;have hx:∃news,fI C.cap σ e news ys∧news.length=ys.length*e.size∧((a.eval x=.slice none 0 0∧ys.length=0∧news=[])∨∃(ad:Addr) (c:Nat),a.eval x=.slice (some ad) ys.length c∧news.length=ys.length*e.size∧(∀j u,news[j]?=some u→w.cell? (ad.add j)=some u)∧∀u∈news,u.oneCell'=true):=by
  rcases aow with⟨e1,rfl⟩|⟨ad,c,news,e1,e2,e3,e4⟩
  ·exact⟨[],⟨fun _=>undef,by simp,by simp⟩,by simp,.inl ⟨e1,rfl,rfl⟩⟩
  ·exact⟨news,e4,e2,.inr ⟨ad,c,e1,e2,e3,ai4 e4 e2 fR⟩⟩
 obtain⟨news,aB,VH,hx⟩:=hx;have main:∀(j:Nat) (v:Value) (xs:List D) (cells:List Value),a.eval s=v→w.ownsRow w0.heap.size E e.size v xs.length cells→fI C.cap σ e cells xs→xs.length+ys.length≤4294967296→
  (∀k,v.ownBlock=some k→own k=some j)→
  ∃v' w',(execOp a.eval o).run C.P w=.ok (.value v') w'∧Good C w0 σ0 ((S.newO j (.row E e)).setR dst (.obj j (S.ver j+1))) ((ρ.setO j (.list (xs++ys))).setR dst .none) (fun u=>A u∨u=dst) (a.put (some dst) v') w':=by
  intro j v xs cells LQ bI gy hlen cn;obtain⟨v',w',r1,r2,r3,r4⟩:=aut (P:=C.P) (ty:=o.type) hT hi hz hs pw h1 mG bI h.below.size hlen hx;refine⟨v',w',by rw[aj];simp[builtin,LQ,r1],?_⟩
  have aoN:=h.updO j (.row E e) (.list (xs++ys)) v' (fun k=>decide (v'.ownBlock=some k)) (w':=w') (UF r3 h.below.size (fun k hk=>(h.owns k j (cn k hk)).1)) (fun k hk aB=>r3.block k hk (fun e=>aB (cn k e.symm))) (fun k hk=>by
        have bn:v'.ownBlock=some k:=by simpa using hk
        rcases r4 k bn with e|e
        ·exact⟨.inl (cn k e),(r2.lt k bn).2⟩
        ·exact⟨.inr e.1,e.2⟩)
   ⟨cells++news,xs++ys,by simp[Env.setO,aP],by rw[aP,List.length_append];exact r2,ai3 gy aB bI.1,fun k hk=>by rw[aP] at hk;simp[eU,hk]⟩
  have h2:=aoN.setObj ht (j:=j) (v:=v') (aP _ _ _) ah;have e:(S.newO j (.row E e)).ver j=S.ver j+1:=aP _ _ _;rw[e] at h2;exact⟨_,_,_,h2⟩
 split at hr
 ·rename_i e0 pe0 hu;cases hr;refine bJ.value hd fun ρ' nK=>?_;have LR:=bO h hC rfl hu;have LQ:a.eval s=.slice none 0 0:=by
   generalize a.eval s=v at LR;generalize pe0.ev ρ=d at LR;cases LR;rfl
  simp only[PI.runs,PI.run,Option.bind_eq_some_iff] at nK;obtain⟨ρ1,g1,ρ2,g2,ρ3,g3,g4⟩:=nK;cases c1:((EP (.con (.list [])) ex).ev ρ).b<;>simp only[c1,cond_true,cond_false] at g1
  ·cases g1
  cases g1;cases g2;cases g3;cases g4;have hlen:=TO c1;simp only[PE.ev,D.l_list,D8,List.nil_append,D.i_int,D.int] at hlen;have:=main dst (.slice none 0 0) [] [] LQ (World.ownsRow_nil _ _ _ _) ⟨fun _=>undef,by simp,by simp⟩ (by simpa using Wv hlen) (by simp[Value.ownBlock]);simpa [PE.ev,D.l_list,D8,mkObj] using this
 ·cases hr
 ·obtain⟨dK,_⟩:=tP h (gs:=[]) rfl s;split at hr
  case h_2=>cases hr
  rename_i j ver es;rw[es] at dK;cases hb:Nat.beq ver (S.ver j)<;>simp only[hb,cond_true,cond_false] at hr
  ·cases hr
  have cj:=dK.2 (Nat.eq_of_beq_eq_true hb);have ba:=h.objs j;split at hr
  case h_2=>cases hr
  rename_i E' e' eo;rw[eo] at ba;cases gQ:(Nat.beq E' E&&Ty.beq e' e)<;>simp only[gQ,cond_true,cond_false] at hr
  ·cases hr
  cases hr;simp only[Bool.and_eq_true] at gQ;have e1:=Nat.eq_of_beq_eq_true gQ.1;have e2:=Ty.beq_eq _ _ gQ.2;subst e1;subst e2;obtain⟨cells,xs,k1,k2,k3,k4⟩:=ba;refine bJ.value hd fun ρ' nK=>?_;simp only[PI.runs,PI.run,Option.bind_eq_some_iff] at nK;obtain⟨ρ1,g1,ρ2,g2,ρ3,g3,g4⟩:=nK;cases c1:((EP (.o j) ex).ev ρ).b<;>simp only[c1,cond_true,cond_false] at g1
  ·cases g1
  cases g1;cases g2;cases g3;cases g4;have hlen:=TO c1;simp only[PE.ev,D.l_list,D8,k1,D.i_int,D.int] at hlen;have:=main j (hv j) xs cells cj k2 k3 (by have:=Wv hlen;simpa using this) k4;simpa [PE.ev,D.l_list,D8,k1] using this
end
end Cx
namespace Cx
open Go Go.RowKit
theorem Ih {P:Program}{a:Act}{w:World}{o:Oper}{T:TypeId}{x v:Operand}{inf:TypeInfo}{k off:Nat}{cs:Array Value}{E:TypeId}(ho:o.op=.store T x v)(hi:P.info? T=some inf)(hx:a.eval x=.pointer (some ⟨k,off,none⟩))
 (hs:(a.eval v).cells.size=inf.size) (dA:∀u∈(a.eval v).cells.toList,u.oneCell'=true) (hb:w.heap[k]?=some (.cells cs E (0,0))) (hle:off+inf.size≤cs.size):
 (execOp a.eval o).run P w=.ok .skip (w.setRow k (cs.toList.take off++(a.eval v).cells.toList++cs.toList.drop (off+inf.size)).toArray):=by
 have:=run_storeCells_at P k off E (a.eval v).cells.toList 0 cs w hb (by simp[hs];exact hle) dA;simp only[Nat.add_zero,Array.length_toList,hs] at this;simp[execOp,ho,Instr.storeAt,hx,Instr.sureAddr,storeVar,Go.sizeOf,run_typeInfo w hi,hs,this]
theorem abG {w:World}{B k:Nat}{cs:Array Value}(hB:B≤k):Below B w (w.setRow k cs)∧∀i,i≠k→(w.setRow k cs).heap[i]?=w.heap[i]?:=
 ⟨⟨rfl,rfl,rfl,by simp[World.setRow],fun i hi=>setRow_other w k i cs (by omega)⟩,fun i hi=>setRow_other w k i cs hi⟩
theorem DL {α:Type}(xs ys:List α)(off:Nat)(d:α)(hle:off+ys.length≤xs.length)(i:Nat):(xs.take off++ys++xs.drop (off+ys.length)).getD i d=if off≤i∧i<off+ys.length then ys.getD (i-off) d else xs.getD i d:=by
 simp only[List.getD_eq_getElem?_getD,List.append_assoc];rw[List.getElem?_append,List.length_take,Nat.min_eq_left (by omega)];split
 ·rename_i h;rw[if_neg (by omega),List.getElem?_take,if_pos h]
 ·rename_i h;rw[List.getElem?_append];split
  ·rename_i h2;rw[if_pos (by omega)]
  ·rename_i h2;rw[if_neg (by omega),List.getElem?_drop];congr 2;omega
section
variable {C:Ctx} {S:St} {ρ:Env} {σ:Im} {own:Nat→Option Nat} {hv:Nat→Value} {w0:World} {σ0:Base} {A:Nat→Prop} {a:Act} {w:World} {gs:List (Nat×Bool)} {Φ:aL} {dst:Nat}
theorem Inv.storeBox (h:Inv C S ρ σ own hv w0 σ0 A a w){j k off:Nat}{ag:Bool}{shs news:List Sh}{cs:Array Value}{E:TypeId}{ds dn:List D}{vs:List Value}(eo:S.o j=.box ag shs)
 (h1:hv j=.pointer (some ⟨k,0,none⟩)) (h2:own k=some j) (h3:w.heap[k]?=some (.cells cs E (0,0))) (h4:cs.size=shs.length) (h5:ρ.o j=.agg ds) (h6:ds.length=shs.length)
 (h7:∀i s,shs[i]?=some s→(∀gs s',s≠.opt gs s')∧aI C S ρ σ hv s (cs.getD i undef) (ds.getD i .none))
 (l1:news.length=vs.length) (l2:dn.length=vs.length) (hle:off+vs.length≤shs.length)
 (jD:∀i s,news[i]?=some s→(∀gs s',s≠.opt gs s')∧aI C S ρ σ hv s (vs.getD i undef) (dn.getD i .none)):
 Inv C (S.setO j (.box ag (shs.take off++news++shs.drop (off+vs.length)))) (ρ.setO j (.agg (dF ds off dn))) σ own hv w0 σ0 A a (w.setRow k (cs.toList.take off++vs++cs.toList.drop (off+vs.length)).toArray):=by
 have hkB:w0.heap.size≤k:=(h.owns k j h2).1;obtain⟨b1,b2⟩:=abG (w:=w) (B:=w0.heap.size) (k:=k) (cs:=(cs.toList.take off++vs++cs.toList.drop (off+vs.length)).toArray) hkB;refine h.updB j _ _ b1 (fun i hi aB=>b2 i fun e=>aB (e▸h2)) ⟨k,_,E,dF ds off dn,h1,h2,setRow_heap w k cs _ E _ h3,?_,by simp[Env.setO,aP],?_,fun i s hi=>?_⟩
 ·simp[l1];omega
 ·simp[dF,l2,l1];omega
 ·have dX:(cs.toList.take off++vs++cs.toList.drop (off+vs.length)).toArray.getD i undef=if off≤i∧i<off+vs.length then vs.getD (i-off) undef else cs.getD i undef:=by
   have e0:∀l:List Value,l.toArray.getD i undef=l.getD i undef:=fun l=>by simp[Array.getD_eq_getD_getElem?,List.getD_eq_getElem?_getD]
   rw[e0,DL cs.toList vs off undef (by simp;omega),uJ cs i]
  have sk:(dF ds off dn).getD i .none=if off≤i∧i<off+vs.length then dn.getD (i-off) .none else ds.getD i .none:=by
   rw[dF,DL ds dn off .none (by omega),l2]
  rw[dX,sk];have VC:∀s v d,(∀gs s',s≠.opt gs s')→aI C S ρ σ hv s v d→aI C (S.setO j (.box ag (shs.take off++news++shs.drop (off+vs.length)))) (ρ.setO j (.agg (dF ds off dn))) σ hv s v d:=
   fun s v d hn hk=>aI.mono' (.refl σ) (Compat.setO _ _ _ _) hn hk
  have jd:(shs.take off++news++shs.drop (off+vs.length))[i]?=if off≤i∧i<off+vs.length then news[i-off]? else shs[i]?:=by
   rw[List.append_assoc,List.getElem?_append,List.length_take,Nat.min_eq_left (by omega)];split
   ·rename_i h;rw[if_neg (by omega),List.getElem?_take,if_pos h]
   ·rename_i h;rw[List.getElem?_append,l1];split
    ·rename_i h2;rw[if_pos (by omega)]
    ·rename_i h2;rw[if_neg (by omega),List.getElem?_drop];congr 1;omega
  rw[jd] at hi;split
  ·rename_i hc;rw[if_pos hc] at hi;obtain⟨g1,g2⟩:=jD _ s hi;exact⟨g1,VC _ _ _ g1 g2⟩
  ·rename_i hc;rw[if_neg hc] at hi;obtain⟨g1,g2⟩:=h7 _ s hi;exact⟨g1,VC _ _ _ g1 g2⟩
theorem auq (h:Inv C S ρ σ own hv w0 σ0 A a w){j:Nat}(hr:kX (S.o j)=true):(hv j).cells=#[hv j]∧(hv j).oneCell'=true:=by
 have ba:=h.objs j;cases cn:S.o j with
 |row T e=>
  rw[cn] at ba;obtain⟨cells,xs,h1,h2,h3,h4⟩:=ba;obtain⟨b,c,e1,_⟩:=tq h2;rw[e1];exact⟨rfl,rfl⟩
 |mp kt et=>
  rw[cn] at ba;obtain⟨k0,arr,clock,es,h1,_⟩:=ba;rw[h1];exact⟨rfl,rfl⟩
 |_=>rw[cn] at hr;simp[kX] at hr
theorem Inv.storeRow (h:Inv C S ρ σ own hv w0 σ0 A a w){j k n c i p:Nat}{T:TypeId}{e:Ty}{cells vs:List Value}{xs:List D}{v':Value}{d':D}(eo:S.o j=.row T e)(dM:hv j=.slice (some ⟨k,0,none⟩) n c)
 (h1:ρ.o j=.list xs) (h2:w.ownsRow w0.heap.size T e.size (hv j) xs.length cells) (h3:fI C.cap σ e cells xs) (h4:∀k,(hv j).ownBlock=some k→own k=some j) (hi:i<xs.length)
 (zS:i*e.size≤p) (fm:p+vs.length≤i*e.size+e.size) (hr:Rep C.cap σ e v' d')
 (hv':∀q u,v'.cells[q]?=some u→(cells.take p++vs++cells.drop (p+vs.length))[i*e.size+q]?=some u):
 ∃cur,w.heap[k]?=some (.cells cur T (0,0))∧p+vs.length≤cur.size∧Inv C S (ρ.setO j (.list (xs.set i d'))) σ own hv w0 σ0 A a (w.setRow k (cur.toList.take p++vs++cur.toList.drop (p+vs.length)).toArray):=by
 have aX:=h2.1;rcases h2.2 with⟨e0,e1⟩|⟨g,cap,cur,e1,e2,e3,e4,e5,e6,e7⟩
 ·omega
 rw[dM] at e1;cases e1;have anp:i*e.size+e.size≤xs.length*e.size:=by
  have:(i+1)*e.size≤xs.length*e.size:=Nat.mul_le_mul_right _ hi;rw[Nat.add_mul] at this;omega
 have aBC:xs.length*e.size≤c*e.size:=Nat.mul_le_mul_right _ e4;have an6:p+vs.length≤cur.size:=by omega
 refine⟨cur,e3,an6,?_⟩;have bI:own k=some j:=h4 k (by rw[dM];rfl);obtain⟨b1,b2⟩:=abG (w:=w) (B:=w0.heap.size) (k:=k) (cs:=(cur.toList.take p++vs++cur.toList.drop (p+vs.length)).toArray) e2;have Ab:(cur.toList.take p++vs++cur.toList.drop (p+vs.length)).take (xs.length*e.size)=cells.take p++vs++cells.drop (p+vs.length):=by
  rw[←e7];apply List.ext_getElem?;intro q;simp only[List.append_assoc,List.getElem?_take,List.getElem?_append,List.length_take,List.getElem?_drop,Array.length_toList];by_cases hq:q<xs.length*e.size
  ·rw[if_pos hq];by_cases hq1:q<p
   ·simp[hq1,Nat.lt_min,show q<cur.size by omega,hq]
   ·by_cases gC:q-p<vs.length
    ·rw[if_neg (by omega),Nat.min_eq_left (by omega),if_pos gC,if_neg (by omega),Nat.min_eq_left (by omega),if_pos gC]
    ·rw[if_neg (by omega),Nat.min_eq_left (by omega),if_neg gC,if_neg (by omega),Nat.min_eq_left (by omega),if_neg gC,if_pos (by omega)]
  ·rw[if_neg hq];have:¬q<p:=by omega
   rw[if_neg (by omega),Nat.min_eq_left (by omega),if_neg (by omega),if_neg (by omega)]
 have:=h.updB j (.row T e) (.list (xs.set i d')) b1 (fun q hq aB=>b2 q fun e=>aB (e▸bI))
  ⟨cells.take p++vs++cells.drop (p+vs.length),xs.set i d',by simp[Env.setO,aP],⟨by simp;omega,.inr ⟨k,c,_,by rw[dM];simp,e2,setRow_heap w k cur _ T _ e3,by simpa using e4,e5,by simp;omega,by simpa using Ab⟩⟩,?_,h4⟩
 ·rw[St.setO_self eo] at this;exact this
 ·obtain⟨us,u1,u2⟩:=h3;refine⟨fun q=>if q=i then v' else us q,fun q x hx=>?_,fun q m u hq hm=>?_⟩
  ·rw[List.getElem?_set] at hx;by_cases vg:i=q
   ·subst vg;simp only[if_true] at hx ⊢;rw[if_pos hi] at hx;cases hx;exact hr
   ·rw[if_neg vg] at hx;simp only[show ¬q=i from fun e=>vg e.symm,if_false];exact u1 q x hx
  ·by_cases vg:q=i
   ·subst vg;simp only[if_true] at hm;exact hv' m u hm
   ·simp only[vg,if_false] at hm;simp only[List.length_set] at hq;have h9:=u2 q m u hq hm;have aBP:m<e.size:=by rw[←(u1 q _ (List.getElem?_eq_getElem hq)).size];exact(Array.getElem?_eq_some_iff.1 hm).1
    have ir:q*e.size+m<p∨p+vs.length≤q*e.size+m:=by
     rcases Nat.lt_or_ge q i with ah|dY
     ·left;have:(q+1)*e.size≤i*e.size:=Nat.mul_le_mul_right _ ah;rw[Nat.add_mul] at this;omega
     ·right;have:(i+1)*e.size≤q*e.size:=Nat.mul_le_mul_right _ (by omega);rw[Nat.add_mul] at this;omega
    rw[List.append_assoc,List.getElem?_append,List.length_take,Nat.min_eq_left (by omega)];rcases ir with ho|ho
    ·rw[if_pos ho,List.getElem?_take,if_pos ho];exact h9
    ·rw[if_neg (by omega),List.getElem?_append_right (by omega),List.getElem?_drop];rw[show p+vs.length+(q*e.size+m-p-vs.length)=q*e.size+m by omega];exact h9
theorem aiR (h:Inv C S ρ σ own hv w0 σ0 A a w)(hC:CtxOK C σ0){T:TypeId}{x v:Operand}{r:St×List PI}(hr:qg C S T x v=some r){o:Oper}(hd:o.dst=none)(ho:o.op=.store T x v):bJ C w0 σ0 Φ S ρ A a w o r:=by
 unfold qg at hr;split at hr
 case h_2=>cases hr
 rename_i inf hi;obtain⟨dK,_⟩:=tP h (gs:=[]) rfl x;split at hr
 case h_3=>cases hr
 ·rename_i j ver off es;rw[es] at dK;cases hb:Nat.beq ver (S.ver j)<;>simp only[hb,cond_true,cond_false] at hr
  ·cases hr
  obtain⟨k,dM,eP⟩:=dK.2 (Nat.eq_of_beq_eq_true hb);have ba:=h.objs j;split at hr
  case h_2=>cases hr
  rename_i ag shs eo;rw[eo] at ba;obtain⟨k',cs,E,ds,h1,h2,h3,h4,h5,h6,h7⟩:=ba;have cB:=h1;rw[dM] at h1;cases h1;split at hr
  ·rename_i t e hu;have hv':=bO h hC rfl hu;cases hc:(Nat.beq inf.size t.size&&(t.rowT||t.one)&&Nat.ble (off+t.size) shs.length)<;>simp only[hc,cond_true,cond_false] at hr
   ·cases hr
   cases hr;simp only[Bool.and_eq_true,Bool.or_eq_true] at hc;obtain⟨⟨aK,fR⟩,hle⟩:=hc;have aK:=Nat.eq_of_beq_eq_true aK;have hle:=Nat.le_of_ble_eq_true hle;obtain⟨f1,f2,f3⟩:=hv'.flat fR;have fT:=hv'.size;refine bJ.skip hd fun ρ' aj=>?_;rw[pW aj]
   refine⟨_,Ih ho hi eP (by rw[fT,aK]) (fun u hu=>by
        obtain⟨m,hm,rfl⟩:=List.getElem_of_mem hu;exact hv'.cellsOne fR (m:=m) (by simp at hm ⊢)) h3 (by omega),?_⟩
   have cF:=h.storeBox (off:=off) (news:=t.flat.map .dat) (vs:=(a.eval v).cells.toList) (dn:=(e.ev ρ).cells) eo cB h2 h3 h4 h5 h6 h7 (by simp[f1,fT]) (by simp[f2,fT]) (by simp[fT];omega) (fun i s hi=>by
        simp only[List.getElem?_map,Option.map_eq_some_iff] at hi;obtain⟨ti,LU,rfl⟩:=hi;refine⟨fun _ _ e=>(by cases e),?_⟩;rw[uJ];exact(f3 i ti LU).2)
   have e1:(a.eval v).cells.toList.length=t.size:=by simp[fT]
   rw[e1] at cF;rw[aK];refine⟨σ,own,hv,?_⟩;simpa [PE.ev,h5,D.cells] using cF
  ·split at hr
   case h_2=>cases hr
   rename_i j' ma fi;obtain⟨LN,_⟩:=tP h (gs:=[]) rfl v;rw[fi] at LN;cases hc:(Nat.beq ma (S.ver j')&&kX (S.o j')&&Nat.beq inf.size 1&&Nat.blt off shs.length)<;>simp only[hc,cond_true,cond_false] at hr
   ·cases hr
   cases hr;simp only[Bool.and_eq_true] at hc;obtain⟨⟨⟨aoS,fo⟩,aK⟩,ah⟩:=hc;have aK:=Nat.eq_of_beq_eq_true aK;have ah:off<shs.length:=by simpa [Nat.blt_eq] using ah
   have cj:=LN.2 (Nat.eq_of_beq_eq_true aoS);obtain⟨c1,c2⟩:=auq h fo;have iV:(a.eval v).cells=#[a.eval v]:=by rw[cj];exact c1
   refine bJ.skip hd fun ρ' aj=>?_;rw[pW aj];refine⟨_,Ih ho hi eP (by rw[iV,aK];rfl) (fun u hu=>by rw[iV] at hu;simp at hu;subst hu;rw[cj];exact c2) h3 (by omega),?_⟩
   have cF:=h.storeBox (off:=off) (news:=[.obj j' ma]) (vs:=[a.eval v]) (dn:=[.none]) eo cB h2 h3 h4 h5 h6 h7 rfl rfl (by simp;omega) (fun i s hi=>by
        match i,hi with
        |0,hi=>simp at hi;subst hi;exact⟨fun _ _ e=>(by cases e),LN.1,fun _=>by simpa using cj⟩
        |i+1,hi=>simp at hi)
   rw[iV,aK];have e2:shs.take off++[Sh.obj j' ma]++shs.drop (off+[a.eval v].length)=shs.set off (.obj j' ma):=by
        rw[List.set_eq_take_append_cons_drop,if_pos ah];simp
   rw[e2] at cF;refine⟨σ,own,hv,?_⟩;simpa [PE.ev,h5,D.cells] using cF
 ·rename_i j ver size off es;rw[es] at dK;cases hb:Nat.beq ver (S.ver j)<;>simp only[hb,cond_true,cond_false] at hr
  ·cases hr
  obtain⟨k,n,c,ik,i,dM,qs,bx,eP⟩:=dK.2 (Nat.eq_of_beq_eq_true hb);have ba:=h.objs j;split at hr
  ·rename_i T' ts t e eo hu;rw[eo] at ba;have hv':=bO h hC rfl hu;cases hc:(Nat.beq inf.size t.size&&(t.rowT||t.one)&&Nat.beq size ts.length&&Nat.ble (off+t.size) ts.length&&Ty.subs t.flat ((ts.drop off).take t.size))<;>simp only[hc,cond_true,cond_false] at hr
   ·cases hr
   cases hr;simp only[Bool.and_eq_true,Bool.or_eq_true] at hc;obtain⟨⟨⟨⟨aK,fR⟩,sG⟩,hle⟩,bV⟩:=hc;have aK:=Nat.eq_of_beq_eq_true aK;have sG:=Nat.eq_of_beq_eq_true sG;have hle:=Nat.le_of_ble_eq_true hle;obtain⟨f1,f2,f3⟩:=hv'.flat fR;have fT:=hv'.size;have f1:t.flat.length=t.size:=f1;have f2:(e.ev ρ).cells.length=t.size:=f2;have fT:(a.eval v).cells.size=t.size:=fT;obtain⟨cells,xs,k1,k2,k3,k4⟩:=ba;obtain⟨b,c',e1,zH,zI⟩:=tq k2;rw[dM] at e1;cases e1;obtain⟨us,u1,u2⟩:=k3;obtain⟨y,hy⟩:∃y,xs[i]?=some y:=⟨_,List.getElem?_eq_getElem bx⟩
   obtain⟨os,ds,vk,hd0,l1,l2,aQ,dA⟩:=(u1 i y hy).agg_inv;have Ad:(a.eval v).cells.toList.length=t.size:=by simp[fT]
   have jD:Rep C.cap σ (.agg ts) (.agg (os.take off++(a.eval v).cells.toList++os.drop (off+(a.eval v).cells.toList.length)).toArray) (.agg (dF ds off (e.ev ρ).cells)):=by
        refine .agg _ _ _ (by simp[fT];omega) (by simp[dF,f2];omega) (fun m tm hm=>?_) dA;rw[DL os _ off undef (by rw[Ad];omega),dF,DL ds _ off .none (by rw[f2];omega),Ad,f2];split
        ·rename_i hc;have aoA:=Ty.subs_get _ _ bV (m-off) tm (by
          rw[List.getElem?_take,if_pos (by omega),List.getElem?_drop,show off+(m-off)=m by omega];exact hm)
         obtain⟨tf,htf,cF⟩:=aoA;rw[uJ];exact((f3 _ tf htf).2).sub cF
        ·exact aQ m tm hm
   have aX:=k2.1;have anp:i*(Ty.agg ts).size+(Ty.agg ts).size≤xs.length*(Ty.agg ts).size:=by
        have:(i+1)*(Ty.agg ts).size≤xs.length*(Ty.agg ts).size:=Nat.mul_le_mul_right _ bx;rw[Nat.add_mul] at this;omega
   have VY:(Ty.agg ts).size=ts.length:=rfl
   obtain⟨cur,q1,q2,q3⟩:=h.storeRow (i:=i) (p:=i*(Ty.agg ts).size+off) (vs:=(a.eval v).cells.toList) eo dM k1 k2 ⟨us,u1,u2⟩ k4 bx (by omega) (by rw[Ad];omega) jD (fun q u hq=>by
        have cY:(os.take off++(a.eval v).cells.toList++os.drop (off+(a.eval v).cells.toList.length))[q]?=some u:=by simpa [Value.cells] using hq
        have aBV:q<ts.length:=by have:=(List.getElem?_eq_some_iff.1 cY).1;simp[fT] at this;omega
        rw[List.append_assoc,List.getElem?_append,List.length_take,Nat.min_eq_left (by omega)] at cY;rw[List.append_assoc,List.getElem?_append,List.length_take,Nat.min_eq_left (by omega)];by_cases nI:q<off
        ·rw[if_pos nI,List.getElem?_take,if_pos nI] at cY;rw[if_pos (by omega),List.getElem?_take,if_pos (by omega)];exact u2 i q u bx (by rw[vk];simpa [Value.cells] using cY)
        ·rw[if_neg nI,List.getElem?_append] at cY;rw[if_neg (by omega),List.getElem?_append];rw[show i*(Ty.agg ts).size+q-(i*(Ty.agg ts).size+off)=q-off by omega];by_cases LI:q-off<(a.eval v).cells.toList.length
         ·rw[if_pos LI] at cY ⊢;exact cY
         ·rw[if_neg LI,List.getElem?_drop] at cY;rw[if_neg LI,List.getElem?_drop];rw[show off+(a.eval v).cells.toList.length+(q-off-(a.eval v).cells.toList.length)=q by omega] at cY;rw[show i*(Ty.agg ts).size+off+(a.eval v).cells.toList.length+(q-off-(a.eval v).cells.toList.length)=i*(Ty.agg ts).size+q by omega];exact u2 i q u bx (by rw[vk];simpa [Value.cells] using cY))
   refine bJ.skip hd fun ρ' aj=>?_;rw[pW aj]
   refine⟨_,Ih ho hi (cs:=cur) (by rw[eP,sG]) (by rw[fT,aK]) (fun u hu=>by
        obtain⟨m,hm,rfl⟩:=List.getElem_of_mem hu;exact hv'.cellsOne fR (m:=m) (by simp at hm ⊢)) q1 (by rw[Ad] at q2;rw[aK,←VY];exact q2),σ,own,hv,?_⟩
   rw[Ad] at q3;simp only[PE.ev,k1,D.l_list,qs,D.i_int,Int.toNat_natCast,oT hy,hd0,ru];rw[aK,←VY];exact q3
  ·rename_i T' e0 t e aB eo hu;rw[eo] at ba;have hv':=bO h hC rfl hu;cases hc:(Nat.beq inf.size 1&&Nat.beq size 1&&Nat.beq off 0&&e0.one&&Ty.sub t e0)<;>simp only[hc,cond_true,cond_false] at hr
   ·cases hr
   cases hr;simp only[Bool.and_eq_true] at hc;obtain⟨⟨⟨⟨aK,sG⟩,gB⟩,dA⟩,bV⟩:=hc;have aK:=Nat.eq_of_beq_eq_true aK;have sG:=Nat.eq_of_beq_eq_true sG;have gB:=Nat.eq_of_beq_eq_true gB;subst gB;subst sG;have V1:=hv'.sub bV;obtain⟨c1,c2⟩:=V1.oneCell dA;have zu:e0.size=1:=by cases e0<;>simp_all [Ty.size,Ty.one]
   obtain⟨cells,xs,k1,k2,k3,k4⟩:=ba;obtain⟨b,c',e1,zH,zI⟩:=tq k2;rw[dM] at e1;cases e1;obtain⟨y,hy⟩:∃y,xs[i]?=some y:=⟨_,List.getElem?_eq_getElem bx⟩
   have aX:=k2.1
   obtain⟨cur,q1,q2,q3⟩:=h.storeRow (i:=i) (p:=i*e0.size) (vs:=[a.eval v]) eo dM k1 k2 k3 k4 bx (Nat.le_refl _) (by rw[zu];simp) V1 (fun q u hq=>by
        rw[c1] at hq;have sC:q=0:=by have:=(Array.getElem?_eq_some_iff.1 hq).1;simpa using this
        subst sC;simp at hq;subst hq;have:i*e0.size≤cells.length:=by rw[aX];exact Nat.mul_le_mul_right _ (by omega)
        rw[List.append_assoc,List.getElem?_append_right (by simp;omega)];simp[Nat.min_eq_left this])
   refine bJ.skip hd fun ρ' aj=>?_;rw[pW aj];refine⟨_,Ih ho hi (cs:=cur) (by rw[eP]) (by rw[c1,aK];rfl) (fun u hu=>by rw[c1] at hu;simp at hu;subst hu;exact c2) q1 (by rw[zu] at q2;rw[aK];simpa using q2),σ,own,hv,?_⟩;rw[c1,aK];have Af:ru y 0 (e.ev ρ)=e.ev ρ:=by
        obtain⟨us,u1,u2⟩:=k3;have:=(u1 i y hy).dcells dA;cases y with
        |agg ds=>have h8:=u1 i _ hy;generalize us i=vv at h8;cases h8;simp[Ty.one] at dA
        |_=>rfl
   simp only[PE.ev,k1,D.l_list,qs,D.i_int,Int.toNat_natCast,oT hy,Af];rw[zu] at q3;simpa using q3
  ·cases hr
end
end Cx
namespace Cx
open Go Go.RowKit
section
variable {C:Ctx} {S:St} {ρ:Env} {σ:Im} {own:Nat→Option Nat} {hv:Nat→Value} {w0:World} {σ0:Base} {A:Nat→Prop} {a:Act} {w:World} {gs:List (Nat×Bool)} {Φ:aL} {dst:Nat}
theorem aje {ρ:Env}{es:List PE}{i:Nat}{e:PE}(h:es[i]?=some e):(PE.evs ρ es)[i]?=some (e.ev ρ):=by
 rw[PE.evs_eq,List.getElem?_map,h];rfl
theorem TZ (h:Inv C S ρ σ own hv w0 σ0 A a w)(hC:CtxOK C σ0)(hg:holds gs ρ=true){T:TypeId}{len:Nat}{ps:Array (Nat×Operand)}{r:St×List PI}(hr:rQ C S gs dst T len ps.toList=some r){o:Oper}
 (ho:o.op=.buildSlice T len ps):∃(E:TypeId) (e:Ty) (es:List PE) (v:Value) (w':World),C.P.underlying T=some (.slice E)∧l9 C.P E=some e∧r=(mkObj S dst (.row E e),[.setO dst (.lst es),.setR dst (.con .none)])∧
   (execOp a.eval o).run C.P w=.ok (.value v) w'∧Below w.heap.size w w'∧(∀k,Nat.beq k w.heap.size=true→w.heap.size≤k∧k<w'.heap.size)∧
   bQ C (S.newO dst (.row E e)) (ρ.setO dst (.list (PE.evs ρ es))) σ (eU own dst (fun k=>Nat.beq k w.heap.size)) (bN hv dst v) w' w0.heap.size dst (.row E e):=by
 unfold rQ at hr;split at hr
 case h_2=>cases hr
 rename_i E hT;simp only[Option.bind_eq_some_iff] at hr;obtain⟨e,he,z,hz,hr⟩:=hr;cases hc:(nv C.P E e&&Ty.sub z.1 e&&gX (ps.toList.map (·.1))&&ps.toList.all (fun p=>Nat.blt p.1 len)&&Nat.ble (len*e.size) 16777216)<;>simp only[hc,cond_true,cond_false] at hr
 ·cases hr
 simp only[Bool.and_eq_true] at hc;obtain⟨⟨⟨⟨hef,bV⟩,aZ⟩,cX⟩,hle⟩:=hc;have hle:=Nat.le_of_ble_eq_true hle;obtain⟨inf,zv,hi,hs,mG,h1,hzv,ke⟩:=Ke hef;have pw:=Sc ke;have gR:=ld aZ;have Ag:=((tW (cap:=C.cap) (σ:=σ) hz ke).1).sub bV;simp only[Option.map_eq_some_iff] at hr;obtain⟨es,gz,rfl⟩:=hr;obtain⟨Ub,el2⟩:=mapM_some _ _ _ gz;simp only[List.length_range] at Ub;have Vb:∀i,i<len→∃pe,es[i]?=some pe∧Dy C S gs e z.2 ps.toList i=some pe:=by
  intro i hi;obtain⟨y,hy1,pv⟩:=el2 i i (by rw[List.getElem?_range hi]);exact⟨y,hy1,pv⟩
 have nH:∀x,x∈ps.toList→x.1<len∧∃t pe,use C S gs x.2=some (t,pe)∧Ty.sub t e=true∧es[x.1]?=some pe:=by
  intro x hx;have sL:x.1<len:=by
   have:=List.all_eq_true.1 cX x hx;simpa [Nat.blt_eq] using this
  refine⟨sL,?_⟩;obtain⟨pe,zS,fm⟩:=Vb x.1 sL;have zy:=Un gR (i:=x.1) (x:=x.2) hx;simp only[Dy,zy,Option.bind_eq_some_iff] at fm;obtain⟨y,hy,fm⟩:=fm;cases hs:Ty.sub y.1 e<;>simp only[hs,cond_true,cond_false] at fm
  ·cases fm
  cases fm;exact⟨y.1,y.2,hy,hs,zS⟩
 let c0:Array Value:=madeCells zv.cells (len*e.size)
 have zo:c0.size=len*e.size:=size_madeCells _ _
 have ka:∀p,p∈(ps.toList.map fun(x:Nat×Operand)=>(x.1,a.eval x.2))→∃o,(fun i=>some (i*e.size,e.size)) p.1=some (o,p.2.cells.size)∧o+p.2.cells.size≤c0.size:=by
  intro p hp;obtain⟨x,hx,rfl⟩:=List.mem_map.1 hp;obtain⟨sL,t,pe,hu,cF,_⟩:=nH x hx;have qG:=((bO h hC hg hu).sub cF).size;simp only;refine⟨x.1*e.size,by rw[qG],?_⟩;rw[qG,zo];have:(x.1+1)*e.size≤len*e.size:=Nat.mul_le_mul_right _ sL;rw[Nat.add_mul] at this;omega
 have uV:∀(i j oi si oj sj:Nat),i≠j→(fun i=>some (i*e.size,e.size)) i=some (oi,si)→(fun i=>some (i*e.size,e.size)) j=some (oj,sj)→oi+si≤oj∨oj+sj≤oi:=by
  intro i j oi si oj sj aB hi hj;simp only[Option.some.injEq,Prod.mk.injEq] at hi hj;obtain⟨rfl,rfl⟩:=hi;obtain⟨rfl,rfl⟩:=hj;rcases Nat.lt_or_ge i j with ah|dY
  ·left;have:(i+1)*e.size≤j*e.size:=Nat.mul_le_mul_right _ ah;rw[Nat.add_mul] at this;omega
  ·right;have:(j+1)*e.size≤i*e.size:=Nat.mul_le_mul_right _ (by omega);rw[Nat.add_mul] at this;omega
 obtain⟨dV,f1,f2,f3,f4⟩:=Ko (fun i=>some (i*e.size,e.size)) (ps.toList.map fun(x:Nat×Operand)=>(x.1,a.eval x.2)) c0 ka uV (by simpa [Function.comp_def] using gR);have aj:(execOp a.eval o).run C.P w=.ok (.value (.slice (some ⟨w.heap.size,0,none⟩) len len)) (w.alloc (.cells dV E)):=by
  have n1:¬(len*inf.size>2^24):=by rw[hs];omega
  have DD:Instr.fill (fun i=>some (i*inf.size,inf.size)) c0 (ps.toList.map fun(x:Nat×Operand)=>(x.1,a.eval x.2))=some dV:=by rw[hs];exact f1
  by_cases h0:len*inf.size=0
  ·have KP:c0=#[]:=by
        apply Array.eq_empty_of_size_eq_zero;rw[zo,←hs];exact h0
   rw[KP] at DD
   have ajh:Instr.fill (fun i=>some (i*inf.size,inf.size)) (Array.map (fun _=>default) (Array.range 0)) (ps.toList.map fun(x:Nat×Operand)=>(x.1,a.eval x.2))=some dV:=by
        have:(Array.map (fun _=>(default:Value)) (Array.range 0))=#[]:=by simp
        rw[this];exact DD
   simp[execOp,ho,Instr.buildSlice,run_underlying hT,Go.sizeOf,run_typeInfo w hi,n1,h0,ajh,newRow]
  ·have KP:c0=(Array.range (len*inf.size)).map (fun x=>zv.cells[x%zv.cells.size]!):=by simp only[c0,madeCells,hs]
   rw[KP] at DD;have h00:¬(len=0∨inf.size=0):=by rw[←Nat.mul_eq_zero];exact h0
   simp[execOp,ho,Instr.buildSlice,run_underlying hT,Go.sizeOf,run_typeInfo w hi,n1,h0,h00,zeroValue,hzv,DD,newRow]
 refine⟨E,e,es,_,_,hT,he,rfl,aj,(Below.refl _ _).alloc (Nat.le_refl _) _,fun k hk=>by simp at hk;simp;omega,?_⟩;have gy:(PE.evs ρ es).length=len:=by rw[PE.evs_eq,List.length_map,Ub]
 have am9:∀(i:Nat) (x:D),(PE.evs ρ es)[i]?=some x→∃v,Rep C.cap σ e v x∧∀q u,v.cells[q]?=some u→dV.toList[i*e.size+q]?=some u:=by
  intro i x hx;have Ee:i<len:=by have:=(List.getElem?_eq_some_iff.1 hx).1;omega
  obtain⟨pe,zS,fm⟩:=Vb i Ee;rw[aje zS] at hx;cases hx;unfold Dy at fm;split at fm
  ·rename_i p hp;have VO:=List.mem_of_find?_eq_some hp;have EA:p.1=i:=by have:=List.find?_some hp;simpa using this
   obtain⟨_,t,pe',hu,cF,qA⟩:=nH p VO;rw[EA,zS] at qA;cases qA;have bH:=(bO h hC hg hu).sub cF;refine⟨_,bH,fun q u hq=>?_⟩;have EB:q<(a.eval p.2).cells.size:=(Array.getElem?_eq_some_iff.1 hq).1;have:=f3 p.1 (a.eval p.2) (p.1*e.size) (List.mem_map.2 ⟨p,VO,rfl⟩) (by simp[bH.size]) q EB;rw[EA] at this;simp[this,hq]
  ·rename_i hp;cases fm;refine⟨zv,Ag,fun q u hq=>?_⟩;have EB:q<zv.cells.size:=(Array.getElem?_eq_some_iff.1 hq).1
   have nE:i∉(ps.toList.map fun(x:Nat×Operand)=>(x.1,a.eval x.2)).map (·.1):=by
        intro cE;simp only[List.map_map,List.mem_map,Function.comp_def] at cE;obtain⟨x,vq,e⟩:=cE;have:=List.find?_eq_none.1 hp x vq;simp[e] at this
   have:=f4 i (i*e.size) e.size nE rfl q (by omega);have h9:c0[i*e.size+q]?=zv.cells[q]?:=by
        simp only[c0];rw[←pw];exact WL (by omega) Ee EB
   simp[this,h9,hq]
 have fT:∃vs:Nat→Value,∀(i:Nat) (x:D),(PE.evs ρ es)[i]?=some x→Rep C.cap σ e (vs i) x∧∀q u,(vs i).cells[q]?=some u→dV.toList[i*e.size+q]?=some u:=by
  have j7:∀i,∃v,∀x,(PE.evs ρ es)[i]?=some x→Rep C.cap σ e v x∧∀q u,v.cells[q]?=some u→dV.toList[i*e.size+q]?=some u:=by
   intro i;cases hx:(PE.evs ρ es)[i]? with
   |none=>exact⟨undef,fun x cL=>by cases cL⟩
   |some x=>
    obtain⟨v,hv⟩:=am9 i x hx;exact⟨v,fun y hy=>by cases hy;exact hv⟩
  exact⟨fun i=>Classical.choose (j7 i),fun i x hx=>Classical.choose_spec (j7 i) x hx⟩
 obtain⟨vs,fT⟩:=fT;have dX:dV.size=len*e.size:=by rw[f2,zo]
 refine⟨dV.toList,PE.evs ρ es,by simp[Env.setO,aP],?_,⟨vs,fun i x hx=>(fT i x hx).1,fun i j u hi hj=>(fT i _ (List.getElem?_eq_getElem hi)).2 j u hj⟩,fun k hk=>by rw[aP] at hk;simp[Value.ownBlock] at hk;simp[eU,hk]⟩;rw[aP,gy];have K8:len≤maxLen:=by
  have:len*1≤len*e.size:=Nat.mul_le_mul_left _ h1;unfold maxLen;omega
 exact⟨by simp[dX],.inr ⟨w.heap.size,len,dV,rfl,h.below.size,heap_alloc_new w _,Nat.le_refl _,K8,dX,by rw[List.take_of_length_le (by simp[dX])]⟩⟩
theorem ait (h:Inv C S ρ σ own hv w0 σ0 A a w)(hC:CtxOK C σ0)(ht:¬A dst)(ah:dst<a.tmps.size){T:TypeId}{len:Nat}{ps:Array (Nat×Operand)}{r:St×List PI}(hr:rQ C S [] dst T len ps.toList=some r){o:Oper}(hd:o.dst=some dst)
 (ho:o.op=.buildSlice T len ps):bJ C w0 σ0 Φ S ρ A a w o r:=by
 obtain⟨E,e,es,v,w',_,_,rfl,aj,hb,cP,cn⟩:=TZ h hC rfl hr ho;refine bJ.value hd fun ρ' nK=>⟨_,_,aj,?_⟩
 rw[BT nK];exact h.mkObj ht ah (.row E e) _ _ (fun k=>Nat.beq k w.heap.size) hb cP cn
theorem Inv.kill (h:Inv C S ρ σ own hv w0 σ0 A a w)(j:Nat):Inv C (S.newO j .dead) ρ σ own hv w0 σ0 A a w:=by
 have du:∀i,S.ver i≤(S.newO j .dead).ver i:=by
  intro i;show S.ver i≤bN S.ver j (S.ver j+1) i;rw[fb];by_cases e:i=j
  ·subst e;simp
  ·simp[e]
 have hc:Compat S hv (S.newO j .dead) hv:=⟨du,fun _ _=>rfl⟩
 refine h.step (·=j) rfl (.refl σ) h.ok (fun _ _ _ hx=>.inl hx) (fun _ _ hx=>.inl hx) (.refl _ _) hc (fun i hi=>⟨by simp[St.newO,bl _ _ hi],rfl,rfl,fun k hk=>⟨hk,rfl⟩⟩) (fun i hi=>?_) h.owns (fun _=>id) (fun t=>.inl ⟨rfl,rfl,rfl⟩) (fun _ _=>rfl) (fun _ _ _=>rfl) (fun k i hk=>.inl ⟨i,hk⟩) (fun i hi=>by subst hi;simp[St.newO,aP]);subst hi;simp only[St.newO,aP];trivial
theorem aiF (h:Inv C S ρ σ own hv w0 σ0 A a w)(hC:CtxOK C σ0)(ht:¬A dst)(ah:dst<a.tmps.size)(df:∀g,g∈gs→A g.1)(hg:holds gs ρ=true){T:TypeId}{len:Nat}{ps:Array (Nat×Operand)}{r:St×List PI}(hr:uA C S gs dst T len ps.toList=some r){o:Oper}(hd:o.dst=some dst)
 (ho:o.op=.buildSlice T len ps):bJ C w0 σ0 Φ S ρ A a w o r:=by
 unfold uA at hr;split at hr
 case h_2=>cases hr
 rename_i E q hT hq;simp only[Option.bind_eq_some_iff] at hr;obtain⟨e,he,hr⟩:=hr;obtain⟨E',e',es,v,w',uO,jB,rfl,aj,hb,cP,cn⟩:=TZ h hC hg hq ho;rw[hT] at uO;cases uO;rw[he] at jB;cases jB;cases hr;refine bJ.value hd fun ρ' nK=>⟨_,_,aj,?_⟩
 have hρ:ρ'=ρ.setR dst (.list (PE.evs ρ es)):=by simp[PI.runs,PI.run,PE.ev] at nK;exact nK.symm
 subst hρ;have h1:=h.newO dst (.row E e) (.list (PE.evs ρ es)) v (fun k=>Nat.beq k w.heap.size) hb cP cn;obtain⟨σ2,gl,_,h2⟩:=h1.fz dst;have zz:(S.newO dst (.row E e)).fz dst=(S.newO dst (.row E e)).setO dst (.fz (.slice e.rol)):=by
  have:(S.newO dst (.row E e)).o dst=.row E e:=aP _ _ _;unfold St.fz;rw[this]
 rw[zz] at h2;have ba:=h2.objs dst;have e1:((S.newO dst (.row E e)).setO dst (.fz (.slice e.rol))).o dst=.fz (.slice e.rol):=aP _ _ _;rw[e1] at ba;have bH:Rep C.cap σ2 (.slice e.rol) v (.list (PE.evs ρ es)):=by
  have:=ba.2
  rwa [aP,show(ρ.setO dst (.list (PE.evs ρ es))).o dst=.list (PE.evs ρ es) from aP _ _ _] at this
 have h3:Inv C (S.newO dst .dead) ρ σ2 gl (bN hv dst v) w0 σ0 A a w':=by
  refine h2.step (·=dst) rfl (.refl σ2) h2.ok (fun _ _ _ hx=>.inl hx) (fun _ _ hx=>.inl hx) (.refl _ _) ⟨fun i=>Nat.le_refl _,fun _ _=>rfl⟩ (fun i hi=>⟨?_,?_,rfl,fun k hk=>⟨hk,rfl⟩⟩) (fun i hi=>?_) h2.owns (fun _=>id) (fun t=>.inl ⟨rfl,rfl,rfl⟩) (fun _ _=>rfl) (fun _ _ _=>rfl) (fun k i hk=>.inl ⟨i,hk⟩) (fun i hi=>by subst hi;simp[St.newO,aP])
  ·simp[St.newO,St.setO,bl _ _ hi]
  ·simp[Env.setO,bl _ _ hi]
  ·subst hi;simp only[St.newO,aP];trivial
 have hh:holds gs (ρ.setR dst (.list (PE.evs ρ es)))=true:=by rw[zP (t:=dst) fun g hm e=>ht (by rw[←e];exact df g hm)];exact hg
 cases gs with
 |nil=>exact⟨_,_,_,h3.setReg ht (s:=.dat (.slice e.rol)) bH ah (fun _ _ e=>by cases e)⟩
 |cons g bA=>
  refine⟨_,_,_,h3.setReg ht (s:=.opt (g::bA) (.dat (.slice e.rol))) ⟨fun _=>bH,fun e=>absurd (hh.symm.trans e) (by decide)⟩ ah (fun gs s e=>?_)⟩;cases e;exact⟨df,fun _ _ e=>by cases e⟩
end
end Cx
