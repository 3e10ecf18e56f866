/-
  The statement: EstateLeft.
-/
import Derived.Test.YtjkeifcibnadcaaEsQ
import Derived.Test.YtjkeifcibnadcaaEsN
import Derived.Test.YtjkeifcibnadcaaRows
set_option linter.unusedSimpArgs false
set_option linter.unusedVariables false
namespace Go.Proofs.Ytjkeifcibnadcaa
open Go Go.Proofs Cx Esta Go.RowKit Go.ChangeShapes Go.WideShapes

theorem estateLeft_main (ds : List D) (h : DTys ((lookL sigL 9).getD default).args ds) : FnOK ctx 9 ((lookL sigL 9).getD default) ds (.v (.bool true)) := by
  obtain ⟨d1, ds, rfl, h1, h⟩ := DTys.cons_inv h
  obtain ⟨d2, ds, rfl, h2, h⟩ := DTys.cons_inv h
  obtain ⟨d3, ds, rfl, h3, h⟩ := DTys.cons_inv h
  obtain rfl := h.nil_inv
  obtain ⟨es, rfl, _⟩ := ests_inv h1
  obtain ⟨ws, rfl, _⟩ := ints_inv h2
  obtain ⟨ps, rfl, _⟩ := prs_inv h3
  exact Runs.fnOK tabOK rfl (left9_runs es ws ps)


set_option maxRecDepth 100000 in
theorem estateLeft_lifted (os : Os) (started : os.Started) (H : Type) (enc : TypeId × Value → H) :
    ReturnsInHanded {} Try.checked os 9 .any (Rows.estateLeftSpec.pre6 enc Try.prog Try.f9 Rows.estateLeftRow.domain false) (Rows.estateLeftSpec.post enc Try.prog Try.f9 false true false false) := by
  refine returnsInHanded_of_change (C := Try.checked) own started (by kernel_rfl) Try.func9
    (ChangeSpec.witness6 (enc := enc) (C := Try.checked) false ⟨#[], #[.slice none 0 0, .slice none 0 0, .slice none 0 0], []⟩ 8 (by kernel_rfl) (by kernel_rfl) (by kernel_rfl) (by kernel_rfl)) ?_
  intro W base args ds gs before hval hW _ _
  refine law_contract (C := ctx) (f := 9) (fn := Try.f9) (sg := (lookL sigL 9).getD default) (spec := Rows.estateLeftSpec) (tb := 4) (by kernel_rfl) (by kernel_rfl) (by kernel_rfl) rfl ?_ rfl Try.underlying4 rfl rfl rfl estateLeft_main W base args ds gs before hval hW
  intro ds hds
  match ds, hds with
  | [_, _, _], _ => exact ⟨rfl, rfl, rfl⟩

theorem estateLeft_holds : Rows.EstateLeftSaid :=
  OpenClaim.holds_of_wide 9 Try.f9 rfl rfl rfl rfl rfl rfl rfl ⟨rfl, rfl, rfl, rfl, rfl⟩ rfl rfl rfl rfl rfl (by kernel_rfl) Try.func9 (by kernel_rfl)
    (of_decide_eq_true (by kernel_rfl)) (by unfold Func.isWrapper; first | (rw [if_pos (by decide +kernel)]; kernel_rfl) | (rw [if_neg (by decide +kernel)]; exact ⟨rfl, rfl⟩))
    (fun os started H enc _ => estateLeft_lifted os started H enc)
end Go.Proofs.Ytjkeifcibnadcaa
