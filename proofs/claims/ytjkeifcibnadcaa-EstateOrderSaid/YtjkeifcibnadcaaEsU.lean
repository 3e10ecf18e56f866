/-
  The statement: EstateOrder.
-/
import Derived.Test.YtjkeifcibnadcaaEsT
import Derived.Test.YtjkeifcibnadcaaEsN
import Derived.Test.YtjkeifcibnadcaaRows
set_option linter.unusedSimpArgs false
set_option linter.unusedVariables false
namespace Go.Proofs.Ytjkeifcibnadcaa
open Go Go.Proofs Cx Esta Go.RowKit Go.ChangeShapes Go.WideShapes

theorem estateOrder_main (ds : List D) (h : DTys ((lookL sigL 10).getD default).args ds) : FnOK ctx 10 ((lookL sigL 10).getD default) ds (.v (.bool true)) := by
  obtain ⟨d1, ds, rfl, h1, h⟩ := DTys.cons_inv h
  obtain ⟨d2, ds, rfl, h2, h⟩ := DTys.cons_inv h
  obtain ⟨d3, ds, rfl, h3, h⟩ := DTys.cons_inv h
  obtain ⟨d4, ds, rfl, h4, h⟩ := DTys.cons_inv h
  obtain rfl := h.nil_inv
  obtain ⟨es, rfl, _⟩ := ests_inv h1
  obtain ⟨ws, rfl, _⟩ := ints_inv h2
  obtain ⟨ps, rfl, _⟩ := prs_inv h3
  obtain ⟨n, rfl, _⟩ := h4.i64_inv
  exact Runs.fnOK tabOK rfl (order10_runs es ws ps n)


set_option maxRecDepth 100000 in
theorem estateOrder_lifted (os : Os) (started : os.Started) (H : Type) (enc : TypeId × Value → H) :
    ReturnsInHanded {} Try.checked os 10 .any (Rows.estateOrderSpec.pre6 enc Try.prog Try.f10 Rows.estateOrderRow.domain false) (Rows.estateOrderSpec.post enc Try.prog Try.f10 false true false false) := by
  refine returnsInHanded_of_change (C := Try.checked) own started (by kernel_rfl) Try.func10
    (ChangeSpec.witness6 (enc := enc) (C := Try.checked) false ⟨#[], #[.slice none 0 0, .slice none 0 0, .slice none 0 0, .int .i64 0], []⟩ 8 (by kernel_rfl) (by kernel_rfl) (by kernel_rfl) (by kernel_rfl)) ?_
  intro W base args ds gs before hval hW _ _
  refine law_contract (C := ctx) (f := 10) (fn := Try.f10) (sg := (lookL sigL 10).getD default) (spec := Rows.estateOrderSpec) (tb := 4) (by kernel_rfl) (by kernel_rfl) (by kernel_rfl) rfl ?_ rfl Try.underlying4 rfl rfl rfl estateOrder_main W base args ds gs before hval hW
  intro ds hds
  match ds, hds with
  | [_, _, _, _], _ => exact ⟨rfl, rfl, rfl⟩

theorem estateOrder_holds : Rows.EstateOrderSaid :=
  OpenClaim.holds_of_wide 10 Try.f10 rfl rfl rfl rfl rfl rfl rfl ⟨rfl, rfl, rfl, rfl, rfl⟩ rfl rfl rfl rfl rfl (by kernel_rfl) Try.func10 (by kernel_rfl)
    (of_decide_eq_true (by kernel_rfl)) (by unfold Func.isWrapper; first | (rw [if_pos (by decide +kernel)]; kernel_rfl) | (rw [if_neg (by decide +kernel)]; exact ⟨rfl, rfl⟩))
    (fun os started H enc _ => estateOrder_lifted os started H enc)
end Go.Proofs.Ytjkeifcibnadcaa
