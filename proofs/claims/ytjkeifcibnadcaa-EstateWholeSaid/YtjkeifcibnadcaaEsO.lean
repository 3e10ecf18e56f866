/-
  The statement: EstateWhole.
-/
import Derived.Test.YtjkeifcibnadcaaEsM
import Derived.Test.YtjkeifcibnadcaaEsN
import Derived.Test.YtjkeifcibnadcaaRows
set_option linter.unusedSimpArgs false
set_option linter.unusedVariables false
namespace Go.Proofs.Ytjkeifcibnadcaa
open Go Go.Proofs Cx Esta Go.RowKit Go.ChangeShapes Go.WideShapes

theorem estateWhole_main (ds : List D) (h : DTys ((lookL sigL 8).getD default).args ds) : FnOK ctx 8 ((lookL sigL 8).getD default) ds (.v (.bool true)) := by
  obtain ⟨d1, ds, rfl, h1, h⟩ := DTys.cons_inv h
  obtain ⟨d2, ds, rfl, h2, h⟩ := DTys.cons_inv h
  obtain ⟨d3, ds, rfl, h3, h⟩ := DTys.cons_inv h
  obtain rfl := h.nil_inv
  obtain ⟨es, rfl, _⟩ := ests_inv h1
  obtain ⟨ws, rfl, _⟩ := ints_inv h2
  obtain ⟨ps, rfl, _⟩ := prs_inv h3
  exact Runs.fnOK tabOK rfl (whole8_runs es ws ps)


set_option maxRecDepth 100000 in
theorem estateWhole_lifted (os : Os) (started : os.Started) (H : Type) (enc : TypeId × Value → H) :
    ReturnsInHanded {} Try.checked os 8 .any (Rows.estateWholeSpec.pre6 enc Try.prog Try.f8 Rows.estateWholeRow.domain false) (Rows.estateWholeSpec.post enc Try.prog Try.f8 false true false false) := by
  refine returnsInHanded_of_change (C := Try.checked) own started (by kernel_rfl) Try.func8
    (ChangeSpec.witness6 (enc := enc) (C := Try.checked) false ⟨#[], #[.slice none 0 0, .slice none 0 0, .slice none 0 0], []⟩ 8 (by kernel_rfl) (by kernel_rfl) (by kernel_rfl) (by kernel_rfl)) ?_
  intro W base args ds gs before hval hW _ _
  refine law_contract (C := ctx) (f := 8) (fn := Try.f8) (sg := (lookL sigL 8).getD default) (spec := Rows.estateWholeSpec) (tb := 4) (by kernel_rfl) (by kernel_rfl) (by kernel_rfl) rfl ?_ rfl Try.underlying4 rfl rfl rfl estateWhole_main W base args ds gs before hval hW
  intro ds hds
  match ds, hds with
  | [_, _, _], _ => exact ⟨rfl, rfl, rfl⟩

theorem estateWhole_holds : Rows.EstateWholeSaid :=
  OpenClaim.holds_of_wide 8 Try.f8 rfl rfl rfl rfl rfl rfl rfl ⟨rfl, rfl, rfl, rfl, rfl⟩ rfl rfl rfl rfl rfl (by kernel_rfl) Try.func8 (by kernel_rfl)
    (of_decide_eq_true (by kernel_rfl)) (by unfold Func.isWrapper; first | (rw [if_pos (by decide +kernel)]; kernel_rfl) | (rw [if_neg (by decide +kernel)]; exact ⟨rfl, rfl⟩))
    (fun os started H enc _ => estateWhole_lifted os started H enc)
end Go.Proofs.Ytjkeifcibnadcaa
