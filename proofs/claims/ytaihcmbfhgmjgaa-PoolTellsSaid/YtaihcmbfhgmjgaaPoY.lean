/-
  The statement: PoolTells.
-/
import Derived.Test.YtaihcmbfhgmjgaaPoX
import Derived.Test.YtaihcmbfhgmjgaaPoF
import Derived.Test.YtaihcmbfhgmjgaaRows
set_option linter.unusedSimpArgs false
set_option linter.unusedVariables false
namespace Go.Proofs.Ytaihcmbfhgmjgaa
open Go Go.Proofs Cx Pool Go.RowKit Go.ChangeShapes Go.WideShapes

theorem poolTells_main (ds : List D) (h : DTys ((lookL sigL 3).getD default).args ds) : FnOK ctx 3 ((lookL sigL 3).getD default) ds (.v (.bool true)) := by
  obtain ⟨d1, ds, rfl, h1, h⟩ := DTys.cons_inv h
  obtain ⟨d2, ds, rfl, h2, h⟩ := DTys.cons_inv h
  obtain ⟨d3, ds, rfl, h3, h⟩ := DTys.cons_inv h
  obtain ⟨d4, ds, rfl, h4, h⟩ := DTys.cons_inv h
  obtain ⟨d5, ds, rfl, h5, h⟩ := DTys.cons_inv h
  obtain rfl := h.nil_inv
  obtain ⟨t, rfl⟩ := tm_inv h1
  obtain ⟨l, rfl, hl⟩ := pls_inv h2
  obtain ⟨a, rfl, _⟩ := h3.i64_inv
  obtain ⟨o, rfl, ho, _⟩ := h4.ints_inv
  obtain ⟨i, rfl, hi⟩ := pls_inv h5
  exact Runs.fnOK tabOK rfl (tells3_runs t l a o i hl ho hi)

set_option maxRecDepth 100000 in
theorem poolTells_lifted (os : Os) (started : os.Started) (H : Type) (enc : TypeId × Value → H) :
    ReturnsInHanded {} Try.checked os 3 .any (Rows.poolTellsSpec.pre6 enc Try.prog Try.f3 Rows.poolTellsRow.domain false) (Rows.poolTellsSpec.post enc Try.prog Try.f3 false true false false) := by
  refine returnsInHanded_of_change (C := Try.checked) own started (by kernel_rfl) Try.func3
    (ChangeSpec.witness6 (enc := enc) (C := Try.checked) false ⟨#[], #[.agg #[.int .i64 0, .int .i64 0, .int .i64 0, .int .i64 0, .int .i64 0], .slice none 0 0, .int .i64 0, .slice none 0 0, .slice none 0 0], []⟩ 8 (by kernel_rfl) (by kernel_rfl) (by kernel_rfl) (by kernel_rfl)) ?_
  intro W base args ds gs before hval hW _ _
  refine law_contract (C := ctx) (f := 3) (fn := Try.f3) (sg := (lookL sigL 3).getD default) (spec := Rows.poolTellsSpec) (tb := 4) (by kernel_rfl) (by kernel_rfl) (by kernel_rfl) rfl ?_ rfl Try.underlying4 rfl rfl rfl poolTells_main W base args ds gs before hval hW
  intro ds hds
  match ds, hds with
  | [_, _, _, _, _], _ => exact ⟨rfl, rfl, rfl⟩

theorem poolTells_holds : Rows.PoolTellsSaid :=
  OpenClaim.holds_of_wide 3 Try.f3 rfl rfl rfl rfl rfl rfl rfl ⟨rfl, rfl, rfl, rfl, rfl⟩ rfl rfl rfl rfl rfl (by kernel_rfl) Try.func3 (by kernel_rfl)
    (of_decide_eq_true (by kernel_rfl)) (by unfold Func.isWrapper; first | (rw [if_pos (by decide +kernel)]; kernel_rfl) | (rw [if_neg (by decide +kernel)]; exact ⟨rfl, rfl⟩))
    (fun os started H enc _ => poolTells_lifted os started H enc)
end Go.Proofs.Ytaihcmbfhgmjgaa
