/-
  The statement: EstateTells.
-/
import Derived.Test.YtjkeifcibnadcaaEs0
import Derived.Test.YtjkeifcibnadcaaEsN
import Derived.Test.YtjkeifcibnadcaaRows
set_option linter.unusedSimpArgs false
set_option linter.unusedVariables false
namespace Go.Proofs.Ytjkeifcibnadcaa
open Go Go.Proofs Cx Esta Go.RowKit Go.ChangeShapes Go.WideShapes

theorem estateTells_main (ds : List D) (h : DTys ((lookL sigL 7).getD default).args ds) : FnOK ctx 7 ((lookL sigL 7).getD default) ds (.v (.bool true)) := by
  obtain ⟨d1, ds, rfl, h1, h⟩ := DTys.cons_inv h
  obtain ⟨d2, ds, rfl, h2, h⟩ := DTys.cons_inv h
  obtain ⟨d3, ds, rfl, h3, h⟩ := DTys.cons_inv h
  obtain ⟨d4, ds, rfl, h4, h⟩ := DTys.cons_inv h
  obtain ⟨d5, ds, rfl, h5, h⟩ := DTys.cons_inv h
  obtain rfl := h.nil_inv
  obtain ⟨es, rfl, _⟩ := ests_inv h1
  obtain ⟨ws, rfl, _⟩ := ints_inv h2
  obtain ⟨ps, rfl, _⟩ := prs_inv h3
  obtain ⟨l, rfl, _⟩ := outs_inv h4
  obtain ⟨n, rfl, _⟩ := h5.i64_inv
  exact Runs.fnOK tabOK rfl (tells7_runs es ws ps l n)


set_option maxRecDepth 100000 in
theorem estateTells_lifted (os : Os) (started : os.Started) (H : Type) (enc : TypeId × Value → H) :
    ReturnsInHanded {} Try.checked os 7 .any (Rows.estateTellsSpec.pre6 enc Try.prog Try.f7 Rows.estateTellsRow.domain false) (Rows.estateTellsSpec.post enc Try.prog Try.f7 false true false false) := by
  refine returnsInHanded_of_change (C := Try.checked) own started (by kernel_rfl) Try.func7
    (ChangeSpec.witness6 (enc := enc) (C := Try.checked) false ⟨#[], #[.slice none 0 0, .slice none 0 0, .slice none 0 0, .slice none 0 0, .int .i64 0], []⟩ 8 (by kernel_rfl) (by kernel_rfl) (by kernel_rfl) (by kernel_rfl)) ?_
  intro W base args ds gs before hval hW _ _
  refine law_contract (C := ctx) (f := 7) (fn := Try.f7) (sg := (lookL sigL 7).getD default) (spec := Rows.estateTellsSpec) (tb := 4) (by kernel_rfl) (by kernel_rfl) (by kernel_rfl) rfl ?_ rfl Try.underlying4 rfl rfl rfl estateTells_main W base args ds gs before hval hW
  intro ds hds
  match ds, hds with
  | [_, _, _, _, _], _ => exact ⟨rfl, rfl, rfl⟩

theorem estateTells_holds : Rows.EstateTellsSaid :=
  OpenClaim.holds_of_wide 7 Try.f7 rfl rfl rfl rfl rfl rfl rfl ⟨rfl, rfl, rfl, rfl, rfl⟩ rfl rfl rfl rfl rfl (by kernel_rfl) Try.func7 (by kernel_rfl)
    (of_decide_eq_true (by kernel_rfl)) (by unfold Func.isWrapper; first | (rw [if_pos (by decide +kernel)]; kernel_rfl) | (rw [if_neg (by decide +kernel)]; exact ⟨rfl, rfl⟩))
    (fun os started H enc _ => estateTells_lifted os started H enc)
end Go.Proofs.Ytjkeifcibnadcaa
