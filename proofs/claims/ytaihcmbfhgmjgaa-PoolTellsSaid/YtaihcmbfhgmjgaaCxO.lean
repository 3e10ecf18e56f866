/-
  The operations that make memory.
-/
import Derived.Test.YtaihcmbfhgmjgaaCxN
import Derived.Laws.OwnMore
set_option linter.unusedSimpArgs false
set_option linter.unusedVariables false
namespace Cx
open Go Go.RowKit

/-- a new object, and the register that leads to it -/
def mkObj (S : St) (dst : Nat) (ob : Ob) : St := (S.newO dst ob).setR dst (.obj dst (S.ver dst + 1))
def mkPtr (S : St) (dst : Nat) (ob : Ob) : St := (S.newO dst ob).setR dst (.ptr dst (S.ver dst + 1) 0)

abbrev EffR := Option (St × List PI)

/-- x := nil, at a slice's type -/
def eNil (C : Ctx) (S : St) (dst : Nat) (T : TypeId) (x : Operand) : EffR :=
  match use C S [] x, C.P.underlying T with
  | some (.nils _, _), some (.slice E) => (tyD C.P E).map fun e => (mkObj S dst (.row E e), [.setO dst (.con (.list [])), .setR dst (.con .none)])
  | _, _ => Option.none

def eAlloc (C : Ctx) (S : St) (dst : Nat) (T : TypeId) : EffR :=
  match tyD C.P T, C.P.info? T, isAggD C.P T with
  | some t, some inf, some ag =>
    bif zeroIs inf t && (t.rowT || t.one) then
      (zeroTy t).map fun z => (mkPtr S dst (.box ag (z.1.flat.map .dat)), [.setO dst (.con (.agg z.2.cells)), .setR dst (.con .none)])
    else Option.none
  | _, _, _ => Option.none

def eBox (C : Ctx) (S : St) (dst : Nat) (T : TypeId) (x : Operand) : EffR :=
  match use C S [] x, isAggD C.P T with
  | some (t, e), some ag =>
    bif t.rowT || t.one then some (mkPtr S dst (.box ag (t.flat.map .dat)), [.setO dst (.mk [e]), .setR dst (.con .none)]) else Option.none
  | _, _ => Option.none

def eMakeMap (C : Ctx) (S : St) (dst : Nat) (T : TypeId) (r : Option Operand) : EffR :=
  match C.P.underlying T, r with
  | some (.map K E), Option.none =>
    (tyD C.P K).bind fun kt => (tyD C.P E).map fun et => (mkObj S dst (.mp kt et), [.setO dst (.con (.map [])), .setR dst (.con .none)])
  | _, _ => Option.none

def eMakeSlice (C : Ctx) (S : St) (dst : Nat) (T : TypeId) (l c : Operand) : EffR :=
  match C.P.underlying T, use C S [] l, use C S [] c with
  | some (.slice E), some (.int _, n), some (.int _, m) =>
    (tyD C.P E).bind fun e =>
      bif elemFact C.P E e then
        (zeroTy e).bind fun z =>
          bif Ty.sub z.1 e then some (mkObj S dst (.row E e), [.chk (limL n), .chk (.ci .eql n m), .setO dst (.rep n (.con z.2)), .setR dst (.con .none)]) else Option.none
      else Option.none
  | _, _, _ => Option.none

section
variable {C : Ctx} {S : St} {ρ : Env} {σ : Im} {own : Nat → Option Nat} {hv : Nat → Value} {w0 : World} {σ0 : Base} {A : Nat → Prop} {a : Act} {w : World} {gs : List (Nat × Bool)} {Φ : Funs} {dst : Nat}

/-- What is owed for an operation with an effect. -/
def EOK (C : Ctx) (w0 : World) (σ0 : Base) (Φ : Funs) (S : St) (ρ : Env) (A : Nat → Prop) (a : Act) (w : World) (o : Oper) (r : St × List PI) : Prop :=
  ∀ ρ', PI.runs Φ r.2 ρ = some ρ' → ∀ (K : Act → World → Prop) (Q : Exit → Act → World → Prop), (∀ a' w', Good C w0 σ0 r.1 ρ' (fun u => A u ∨ o.dst = some u) a' w' → a'.tmps.size = a.tmps.size → K a' w') → o.wp C.P a w K Q

theorem size_put (a : Act) (d : Option Tmp) (v : Value) : (a.put d v).tmps.size = a.tmps.size := by
  cases d <;> simp [Act.put]

theorem EOK.value {o : Oper} {r : St × List PI} (hd : o.dst = some dst) (hx : ∀ ρ', PI.runs Φ r.2 ρ = some ρ' → ∃ v w', (execOp a.eval o).run C.P w = .ok (.value v) w' ∧ Good C w0 σ0 r.1 ρ' (fun u => A u ∨ u = dst) (a.put (some dst) v) w') : EOK C w0 σ0 Φ S ρ A a w o r := by
  intro ρ' hrun K Q hK
  obtain ⟨v, w', h1, h2⟩ := hx ρ' hrun
  simp only [Oper.wp, h1, Oper.upon, hd]
  refine hK _ _ ?_ (size_put _ _ _)
  have : (fun u => A u ∨ o.dst = some u) = (fun u => A u ∨ u = dst) := by
    funext u; rw [hd]; simp [eq_comm]
  rw [this]; exact h2

theorem EOK.skip {o : Oper} {r : St × List PI} (hd : o.dst = none) (hx : ∀ ρ', PI.runs Φ r.2 ρ = some ρ' → ∃ w', (execOp a.eval o).run C.P w = .ok .skip w' ∧ Good C w0 σ0 r.1 ρ' A a w') : EOK C w0 σ0 Φ S ρ A a w o r := by
  intro ρ' hrun K Q hK
  obtain ⟨w', h1, h2⟩ := hx ρ' hrun
  simp only [Oper.wp, h1, Oper.upon, hd]
  have : (fun u => A u ∨ o.dst = some u) = A := by
    funext u; rw [hd]; simp
  rw [this] at hK
  exact hK _ _ h2 (size_put _ _ _)

/-- A quiet operation, its guard holding. -/
theorem QOK.eff (h : Inv C S ρ σ own hv w0 σ0 A a w) (ht : ¬ A dst) (hlt : dst < a.tmps.size) {o : Oper} (hd : o.dst = some dst) {s : Sh} {pis : List PI} (hq : QOK C S ρ σ hv Φ dst a w o (s, pis)) : EOK C w0 σ0 Φ S ρ A a w o (S.setR dst s, pis) := by
  refine EOK.value hd fun ρ' hrun => ?_
  obtain ⟨v, d, rfl, h1, h2, h3⟩ := hq ρ' hrun
  exact ⟨v, w, h1, σ, own, hv, h.setReg ht (CellOK.mono' (.refl σ) (.refl S hv) h3 h2) hlt (fun gs s' e => absurd e (h3 gs s'))⟩

theorem QOK.effG (h : Inv C S ρ σ own hv w0 σ0 A a w) (ht : ¬ A dst) (hlt : dst < a.tmps.size) (hgs : ∀ g, g ∈ gs → A g.1) (hg : holds gs ρ = true) {o : Oper} (hd : o.dst = some dst) {s : Sh} {pis : List PI} (hq : QOK C S ρ σ hv Φ dst a w o (s, pis)) : EOK C w0 σ0 Φ S ρ A a w o (S.setR dst (.opt gs s), pis) := by
  refine EOK.value hd fun ρ' hrun => ?_
  obtain ⟨v, d, rfl, h1, h2, h3⟩ := hq ρ' hrun
  have hh : holds gs (ρ.setR dst d) = true := by rw [holds_setR (t := dst) (d := d) fun g hm e => ht (by rw [← e]; exact hgs g hm)]; exact hg
  refine ⟨v, w, h1, σ, own, hv, h.setReg ht ⟨fun _ => CellOK.mono' (.refl σ) (.refl S hv) h3 h2, fun e => absurd (hh.symm.trans e) (by decide)⟩ hlt (fun gs' s' e => ?_)⟩
  cases e
  exact ⟨hgs, h3⟩

/-- An operation that is passed over. -/
theorem Inv.passed (h : Inv C S ρ σ own hv w0 σ0 A a w) (ht : ¬ A dst) (hlt : dst < a.tmps.size) (hgs : ∀ g, g ∈ gs → A g.1) (hg : holds gs ρ = false) {s : Sh} (hs : ∀ gs' s', s ≠ .opt gs' s') (d : D) : Inv C (S.setR dst (.opt gs s)) (ρ.setR dst d) σ own hv w0 σ0 (fun u => A u ∨ u = dst) (a.put (some dst) undef) w := by
  have hh : holds gs (ρ.setR dst d) = false := by rw [holds_setR (t := dst) (d := d) fun g hm e => ht (by rw [← e]; exact hgs g hm)]; exact hg
  refine h.setReg ht (s := .opt gs s) (v := undef) (d := d) ⟨fun e => absurd (hh.symm.trans e) (by decide), fun _ => rfl⟩ hlt (fun gs' s' e => ?_)
  cases e
  exact ⟨hgs, hs⟩

theorem Inv.mkObj (h : Inv C S ρ σ own hv w0 σ0 A a w) (ht : ¬ A dst) (hlt : dst < a.tmps.size) (ob : Ob) (d : D) (v : Value) (nb : Nat → Bool) {w' : World} (hw : Below w.heap.size w w') (hnb : ∀ k, nb k = true → w.heap.size ≤ k ∧ k < w'.heap.size)
    (hob : ObjOK C (S.newO dst ob) (ρ.setO dst d) σ (ownNew own dst nb) (upd hv dst v) w' w0.heap.size dst ob) (hnt : ob ≠ .tr := by intro h; cases h) :
    Good C w0 σ0 (Cx.mkObj S dst ob) ((ρ.setO dst d).setR dst .none) (fun u => A u ∨ u = dst) (a.put (some dst) v) w' := by
  have h1 := h.newO dst ob d v nb hw hnb hob hnt
  have h2 := h1.setObj ht (j := dst) (v := v) (upd_same _ _ _) hlt
  have e : (S.newO dst ob).ver dst = S.ver dst + 1 := upd_same _ _ _
  rw [e] at h2
  exact ⟨_, _, _, h2⟩

theorem Inv.mkPtr (h : Inv C S ρ σ own hv w0 σ0 A a w) (ht : ¬ A dst) (hlt : dst < a.tmps.size) (ob : Ob) (d : D) (k : Nat) (nb : Nat → Bool) {w' : World} (hw : Below w.heap.size w w') (hnb : ∀ k, nb k = true → w.heap.size ≤ k ∧ k < w'.heap.size)
    (hob : ObjOK C (S.newO dst ob) (ρ.setO dst d) σ (ownNew own dst nb) (upd hv dst (.pointer (some ⟨k, 0, none⟩))) w' w0.heap.size dst ob) (hnt : ob ≠ .tr := by intro h; cases h) :
    Good C w0 σ0 (Cx.mkPtr S dst ob) ((ρ.setO dst d).setR dst .none) (fun u => A u ∨ u = dst) (a.put (some dst) (.pointer (some ⟨k, 0, none⟩))) w' := by
  have h1 := h.newO dst ob d _ nb hw hnb hob hnt
  have e : (S.newO dst ob).ver dst = S.ver dst + 1 := upd_same _ _ _
  have h2 := h1.setReg ht (s := .ptr dst (S.ver dst + 1) 0) (v := .pointer (some ⟨k, 0, none⟩)) (d := .none) ⟨Nat.le_of_eq e.symm, fun _ => ⟨k, upd_same _ _ _, rfl⟩⟩ hlt (fun _ _ e => by cases e)
  exact ⟨_, _, _, h2⟩

theorem runsOR {e : PE} {ρ' : Env} (h : PI.runs Φ [.setO dst e, .setR dst (.con .none)] ρ = some ρ') : ρ' = (ρ.setO dst (e.ev ρ)).setR dst .none := by
  simp [PI.runs, PI.run, PE.ev] at h; exact h.symm

/-- A box of data. -/
theorem boxOK (h : Inv C S ρ σ own hv w0 σ0 A a w) {t : Ty} {v : Value} {d : D} (hr : Rep C.cap σ t v d) (ho : t.rowT = true ∨ t.one = true) (ag : Bool) (T : TypeId) :
    ObjOK C (S.newO dst (.box ag (t.flat.map .dat))) (ρ.setO dst (.agg d.cells)) σ (ownNew own dst (fun k => Nat.beq k w.heap.size)) (upd hv dst (.pointer (some ⟨w.heap.size, 0, none⟩))) (w.alloc (.cells v.cells T)) w0.heap.size dst (.box ag (t.flat.map .dat)) := by
  obtain ⟨f1, f2, f3⟩ := hr.flat ho
  refine ⟨w.heap.size, v.cells, T, d.cells, upd_same _ _ _, by simp [ownNew], heap_alloc_new w _, by rw [hr.size]; simp [f1], by simp [Env.setO, upd_same], by simp [f1, f2], fun i s hi => ?_⟩
  simp only [List.getElem?_map, Option.map_eq_some_iff] at hi
  obtain ⟨ti, hti, rfl⟩ := hi
  exact ⟨fun _ _ e => (by cases e), (f3 i ti hti).2⟩

theorem eNil_sound (h : Inv C S ρ σ own hv w0 σ0 A a w) (hC : CtxOK C σ0) (ht : ¬ A dst) (hlt : dst < a.tmps.size) {T : TypeId} {x : Operand} {r : St × List PI} (hr : eNil C S dst T x = some r) {o : Oper} (hd : o.dst = some dst) (ho : o.op = .assign x) : EOK C w0 σ0 Φ S ρ A a w o r := by
  unfold eNil at hr
  split at hr
  case h_2 => cases hr
  rename_i e0 e1 E hu hT
  simp only [Option.map_eq_some_iff] at hr
  obtain ⟨e, he, rfl⟩ := hr
  have hx := use_sound h hC rfl hu
  have hval : a.eval x = .slice none 0 0 := by
    generalize a.eval x = v at hx
    generalize e1.ev ρ = d at hx
    cases hx; rfl
  refine EOK.value hd fun ρ' hrun => ⟨.slice none 0 0, w, by simp [execOp, ho, hval], ?_⟩
  rw [runsOR hrun]
  exact h.mkObj ht hlt (.row E e) _ _ (fun _ => false) (.refl _ _) (by simp) ⟨[], [], by simp [Env.setO, upd_same, PE.ev], by rw [upd_same]; exact World.ownsRow_nil _ _ _ _, ⟨fun _ => undef, by simp, by simp⟩, by rw [upd_same]; simp [Value.ownBlock]⟩

theorem eAlloc_sound (h : Inv C S ρ σ own hv w0 σ0 A a w) (ht : ¬ A dst) (hlt : dst < a.tmps.size) {T : TypeId} {r : St × List PI} (hr : eAlloc C S dst T = some r) {o : Oper} (hd : o.dst = some dst) (ho : o.op = .alloc T) : EOK C w0 σ0 Φ S ρ A a w o r := by
  unfold eAlloc at hr
  split at hr
  case h_2 => cases hr
  rename_i t inf ag htt hi ha
  cases hc : (zeroIs inf t && (t.rowT || t.one)) <;> simp only [hc, cond_true, cond_false] at hr
  · cases hr
  simp only [Bool.and_eq_true, Bool.or_eq_true] at hc
  simp only [Option.map_eq_some_iff] at hr
  obtain ⟨z, hz, rfl⟩ := hr
  obtain ⟨v0, hv0, hz0⟩ : ∃ v0, inf.zero = some v0 ∧ zeroOk t v0 = true := by
    have := hc.1
    unfold zeroIs at this
    split at this
    · exact ⟨_, by assumption, this⟩
    · cases this
  obtain ⟨k1, k2, k3⟩ := zeroTy_sound (cap := C.cap) (σ := σ) hz hz0
  have hrow : z.1.rowT = true ∨ z.1.one = true := by
    rcases hc.2 with e | e
    · left; cases t <;> simp [Ty.rowT] at e; simp [zeroTy] at hz; obtain ⟨_, _, rfl⟩ := hz; rfl
    · right; rw [k3]; exact e
  refine EOK.value hd fun ρ' hrun => ⟨.pointer (some ⟨w.heap.size, 0, none⟩), w.alloc (.cells v0.cells T), ?_, ?_⟩
  · simp [execOp, ho, Instr.alloc, zeroValue, run_typeInfo w hi, hv0, newVar, newRow]
  · rw [runsOR hrun]
    exact h.mkPtr ht hlt _ _ _ (fun k => Nat.beq k w.heap.size) ((Below.refl _ _).alloc (Nat.le_refl _) _) (fun k hk => by simp at hk; simp; omega) (boxOK h k1 hrow ag T)

theorem eBox_sound (h : Inv C S ρ σ own hv w0 σ0 A a w) (hC : CtxOK C σ0) (ht : ¬ A dst) (hlt : dst < a.tmps.size) {T : TypeId} {x : Operand} {r : St × List PI} (hr : eBox C S dst T x = some r) {o : Oper} (hd : o.dst = some dst) (ho : o.op = .box T x) : EOK C w0 σ0 Φ S ρ A a w o r := by
  unfold eBox at hr
  split at hr
  case h_2 => cases hr
  rename_i t e ag hu ha
  cases hc : (t.rowT || t.one) <;> simp only [hc, cond_true, cond_false] at hr
  · cases hr
  cases hr
  simp only [Bool.or_eq_true] at hc
  have hx := use_sound h hC rfl hu
  refine EOK.value hd fun ρ' hrun => ⟨.pointer (some ⟨w.heap.size, 0, none⟩), w.alloc (.cells (a.eval x).cells T), ?_, ?_⟩
  · simp [execOp, ho, Instr.box, newVar, newRow]
  · rw [runsOR hrun]
    have : (PE.mk [e]).ev ρ = .agg (e.ev ρ).cells := by simp [PE.ev, PE.evc]
    rw [this]
    exact h.mkPtr ht hlt _ _ _ (fun k => Nat.beq k w.heap.size) ((Below.refl _ _).alloc (Nat.le_refl _) _) (fun k hk => by simp at hk; simp; omega) (boxOK h hx hc ag T)

theorem eMakeMap_sound (h : Inv C S ρ σ own hv w0 σ0 A a w) (ht : ¬ A dst) (hlt : dst < a.tmps.size) {T : TypeId} {m : Option Operand} {r : St × List PI} (hr : eMakeMap C S dst T m = some r) {o : Oper} (hd : o.dst = some dst) (ho : o.op = .makeMap T m) : EOK C w0 σ0 Φ S ρ A a w o r := by
  unfold eMakeMap at hr
  split at hr
  case h_2 => cases hr
  rename_i K E hT
  simp only [Option.bind_eq_some_iff, Option.map_eq_some_iff] at hr
  obtain ⟨kt, hk, et, he, rfl⟩ := hr
  refine EOK.value hd fun ρ' hrun => ⟨.map (some w.heap.size), w.alloc (.map #[] 0), ?_, ?_⟩
  · simp [execOp, ho, Instr.makeMap]
  · rw [runsOR hrun]
    exact h.mkObj ht hlt (.mp kt et) _ _ (fun k => Nat.beq k w.heap.size) ((Below.refl _ _).alloc (Nat.le_refl _) _) (fun k hk => by simp at hk; simp; omega)
      ⟨w.heap.size, #[], 0, [], upd_same _ _ _, by simp [ownNew], heap_alloc_new w _, by simp [Env.setO, upd_same, PE.ev], rfl, by simp, by simp⟩

end
end Cx
