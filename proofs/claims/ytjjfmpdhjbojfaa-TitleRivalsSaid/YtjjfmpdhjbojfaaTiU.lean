/-
  The statement: TitleRivals.
-/
import Derived.Test.YtjjfmpdhjbojfaaTiS
import Derived.Test.YtjjfmpdhjbojfaaTiJ
import Derived.Test.YtjjfmpdhjbojfaaRows
set_option linter.unusedSimpArgs false
set_option linter.unusedVariables false
namespace Go.Proofs.Ytjjfmpdhjbojfaa
open Go Go.Proofs Cx Title Go.RowKit Go.ChangeShapes Go.WideShapes

theorem titleRivals_main (ds : List D) (h : DTys ((lookL sigL 8).getD default).args ds) : FnOK ctx 8 ((lookL sigL 8).getD default) ds (.v (.bool true)) := by
  obtain ⟨d1, ds, rfl, h1, h⟩ := DTys.cons_inv h
  obtain ⟨d2, ds, rfl, h2, h⟩ := DTys.cons_inv h
  obtain rfl := h.nil_inv
  obtain ⟨f, rfl, _⟩ := file_inv h1
  obtain ⟨a, rfl, _⟩ := h2.i64_inv
  exact Runs.fnOK tabOK rfl (rivals_tell f a)

set_option maxRecDepth 100000 in
theorem titleRivals_lifted (os : Os) (started : os.Started) (H : Type) (enc : TypeId × Value → H) :
    ReturnsInHanded {} Try.checked os 8 .any (Rows.titleRivalsSpec.pre6 enc Try.prog Try.f8 Rows.titleRivalsRow.domain false) (Rows.titleRivalsSpec.post enc Try.prog Try.f8 false true false false) := by
  refine returnsInHanded_of_change (C := Try.checked) own started (by kernel_rfl) Try.func8
    (ChangeSpec.witness6 (enc := enc) (C := Try.checked) false ⟨#[], #[fileV, .int .i64 0], []⟩ 8 (by kernel_rfl) (by kernel_rfl) (by kernel_rfl) (by kernel_rfl)) ?_
  intro W base args ds gs before hval hW _ _
  refine law_contract (C := ctx) (f := 8) (fn := Try.f8) (sg := (lookL sigL 8).getD default) (spec := Rows.titleRivalsSpec) (tb := 4) (by kernel_rfl) (by kernel_rfl) (by kernel_rfl) rfl ?_ rfl Try.underlying4 rfl rfl rfl titleRivals_main W base args ds gs before hval hW
  intro ds hds
  match ds, hds with
  | [_, _], _ => exact ⟨rfl, rfl, rfl⟩

theorem titleRivals_holds : Rows.TitleRivalsSaid :=
  OpenClaim.holds_of_wide 8 Try.f8 rfl rfl rfl rfl rfl rfl rfl ⟨rfl, rfl, rfl, rfl, rfl⟩ rfl rfl rfl rfl rfl (by kernel_rfl) Try.func8 (by kernel_rfl)
    (of_decide_eq_true (by kernel_rfl)) (by unfold Func.isWrapper; first | (rw [if_pos (by decide +kernel)]; kernel_rfl) | (rw [if_neg (by decide +kernel)]; exact ⟨rfl, rfl⟩))
    (fun os started H enc _ => titleRivals_lifted os started H enc)
end Go.Proofs.Ytjjfmpdhjbojfaa
