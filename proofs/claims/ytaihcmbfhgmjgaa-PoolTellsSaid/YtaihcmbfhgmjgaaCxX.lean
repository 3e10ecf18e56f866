/-
  Where ways meet (second part): the environment behind a join.
-/
import Derived.Test.YtaihcmbfhgmjgaaCxW
set_option linter.unusedSimpArgs false
set_option linter.unusedVariables false
namespace Cx
open Go Go.RowKit

/-- what of the places that may have been set is still spoken of -/
def liveR (S : St) (l : List Nat) : List Nat := l.filter fun t => !isNone (S.r t)
def liveO (S : St) (l : List Nat) : List Nat := l.filter fun j => !isDead (S.o j)

section
variable {C : Ctx} {S T : St} {ρ ρ' : Env} {σ : Im} {own : Nat → Option Nat} {hv : Nat → Value} {w0 : World} {σ0 : Base} {A : Nat → Prop} {a : Act} {w : World} {gs : List (Nat × Bool)} {Φ : Funs} {dst : Nat}

theorem Inv.meet1 (h : Inv C S ρ σ own hv w0 σ0 A a w) (n : Nat) (ids : List Nat) : Inv C (St.meet n ids S T) ρ σ own hv w0 σ0 (fun _ => False) a w := by
  have hc : Compat S hv (St.meet n ids S T) hv := ⟨fun _ => Nat.le_refl _, fun _ _ => rfl⟩
  have hr : ∀ t, CellOK C S ρ σ hv (bif Nat.blt t n then meetSh (S.r t) (T.r t) else .none) (a.tmps.getD t undef) (ρ.r t) ∧ ∀ gs s', (bif Nat.blt t n then meetSh (S.r t) (T.r t) else Sh.none) ≠ .opt gs s' := by
    intro t
    cases Nat.blt t n
    · exact ⟨trivial, fun _ _ e => by cases e⟩
    · exact meetSh_ok1 (h.regs t)
  refine h.weaken (fun t => CellOK.mono' (.refl σ) hc (hr t).2 (hr t).1) (fun j => ?_) (fun t => (hr t).2) (fun j hj => ?_)
  rotate_left
  · change (bif ids.any (Nat.beq j) then meetOb (S.o j) (T.o j) else .dead) = .tr at hj
    cases hb : ids.any (Nat.beq j) <;> rw [hb] at hj
    · cases hj
    · exact ⟨(meetOb_tr hj).1, rfl⟩
  have ho : ObjOK C S ρ σ own hv w w0.heap.size j (bif ids.any (Nat.beq j) then meetOb (S.o j) (T.o j) else .dead) := by
    cases ids.any (Nat.beq j)
    · trivial
    · exact meetOb_ok1 (h.objs j)
  exact ho.mono (.refl σ) hc rfl rfl (fun k hk => ⟨hk, rfl⟩)

theorem Inv.meet2 (h : Inv C T ρ σ own hv w0 σ0 A a w) (n : Nat) (ids : List Nat) (hver : S.ver = T.ver) : Inv C (St.meet n ids S T) ρ σ own hv w0 σ0 (fun _ => False) a w := by
  have hc : Compat T hv (St.meet n ids S T) hv := ⟨fun j => by show T.ver j ≤ S.ver j; rw [hver]; exact Nat.le_refl _, fun _ _ => rfl⟩
  have hr : ∀ t, CellOK C T ρ σ hv (bif Nat.blt t n then meetSh (S.r t) (T.r t) else .none) (a.tmps.getD t undef) (ρ.r t) ∧ ∀ gs s', (bif Nat.blt t n then meetSh (S.r t) (T.r t) else Sh.none) ≠ .opt gs s' := by
    intro t
    cases Nat.blt t n
    · exact ⟨trivial, fun _ _ e => by cases e⟩
    · exact meetSh_ok2 (h.regs t)
  refine h.weaken (fun t => CellOK.mono' (.refl σ) hc (hr t).2 (hr t).1) (fun j => ?_) (fun t => (hr t).2) (fun j hj => ?_)
  rotate_left
  · change (bif ids.any (Nat.beq j) then meetOb (S.o j) (T.o j) else .dead) = .tr at hj
    cases hb : ids.any (Nat.beq j) <;> rw [hb] at hj
    · cases hj
    · exact ⟨(meetOb_tr hj).2, rfl⟩
  have ho : ObjOK C T ρ σ own hv w w0.heap.size j (bif ids.any (Nat.beq j) then meetOb (S.o j) (T.o j) else .dead) := by
    cases ids.any (Nat.beq j)
    · trivial
    · exact meetOb_ok2 (h.objs j)
  exact ho.mono (.refl σ) hc rfl rfl (fun k hk => ⟨hk, rfl⟩)

/-- The environment may be another where nothing is said. -/
theorem Inv.env (h : Inv C S ρ σ own hv w0 σ0 (fun _ => False) a w) (hn : ∀ t gs s, S.r t ≠ .opt gs s) (hr : ∀ t, isNone (S.r t) = false → ρ'.r t = ρ.r t) (ho : ∀ j, isDead (S.o j) = false → ρ'.o j = ρ.o j) :
    Inv C S ρ' σ own hv w0 σ0 (fun _ => False) a w := by
  refine h.weaken (fun t => ?_) (fun j => ?_) hn (fun j hj => ⟨hj, ho j (by rw [hj]; rfl)⟩)
  · cases hs : isNone (S.r t) with
    | true => cases hc : S.r t <;> rw [hc] at hs <;> simp [isNone] at hs; trivial
    | false =>
      rw [hr t hs]
      exact CellOK.mono' (.refl σ) (.refl S hv) (hn t) (h.regs t)
  · cases hs : isDead (S.o j) with
    | true => cases hc : S.o j <;> rw [hc] at hs <;> simp [isDead] at hs; trivial
    | false => exact (h.objs j).mono (.refl σ) (.refl S hv) rfl (ho j hs) (fun k hk => ⟨hk, rfl⟩)

/-- Behind a join the environment is the elder one but for what was set and is still spoken of. -/
theorem Inv.joined (h : Inv C S ρ' σ own hv w0 σ0 (fun _ => False) a w) (hn : ∀ t gs s, S.r t ≠ .opt gs s) {mr mo : List Nat} (hb : ρ.but ρ' mr mo) :
    Inv C S (ρ.join (liveR S mr) (liveO S mo) ρ') σ own hv w0 σ0 (fun _ => False) a w := by
  refine h.env hn (fun t ht => ?_) (fun j hj => ?_)
  · simp only [Env.join, Env.put, putL_map]
    split
    · rfl
    · rename_i hm
      refine (hb.r t fun hmr => hm ?_).symm
      exact List.mem_filter.2 ⟨hmr, by simp [ht]⟩
  · simp only [Env.join, Env.put, putL_map]
    split
    · rfl
    · rename_i hm
      refine (hb.o j fun hmr => hm ?_).symm
      exact List.mem_filter.2 ⟨hmr, by simp [hj]⟩
end
end Cx
