/-
  The statement: TitleGrows.
-/
import Derived.Test.YtjjfmpdhjbojfaaTiQ
import Derived.Test.YtjjfmpdhjbojfaaTiJ
import Derived.Test.YtjjfmpdhjbojfaaRows
set_option linter.unusedSimpArgs false
set_option linter.unusedVariables false
namespace Go.Proofs.Ytjjfmpdhjbojfaa
open Go Go.Proofs Cx Title Go.RowKit Go.ChangeShapes Go.WideShapes

theorem titleGrows_main (ds : List D) (h : DTys ((lookL sigL 6).getD default).args ds) : FnOK ctx 6 ((lookL sigL 6).getD default) ds (.v (.bool true)) := by
  obtain ⟨d1, ds, rfl, h1, h⟩ := DTys.cons_inv h
  obtain ⟨d2, ds, rfl, h2, h⟩ := DTys.cons_inv h
  obtain ⟨d3, ds, rfl, h3, h⟩ := DTys.cons_inv h
  obtain ⟨d4, ds, rfl, h4, h⟩ := DTys.cons_inv h
  obtain rfl := h.nil_inv
  obtain ⟨f, rfl, _⟩ := file_inv h1
  obtain ⟨a, rfl, _⟩ := h2.i64_inv
  obtain ⟨b, rfl, _⟩ := h3.i64_inv
  obtain ⟨s, rfl⟩ := s_inv h4
  exact Runs.fnOK tabOK rfl (grows_runs f a b s)

set_option maxRecDepth 100000 in
theorem titleGrows_lifted (os : Os) (started : os.Started) (H : Type) (enc : TypeId × Value → H) :
    ReturnsInHanded {} Try.checked os 6 .any (Rows.titleGrowsSpec.pre6 enc Try.prog Try.f6 Rows.titleGrowsRow.domain false) (Rows.titleGrowsSpec.post enc Try.prog Try.f6 false true false false) := by
  refine returnsInHanded_of_change (C := Try.checked) own started (by kernel_rfl) Try.func6
    (ChangeSpec.witness6 (enc := enc) (C := Try.checked) false ⟨#[], #[fileV, .int .i64 0, .int .i64 0, .agg #[.int .i64 0, .int .i64 0, .int .i64 0, .int .i64 0, .int .i64 0, .int .i64 0, .int .i64 0, .int .i64 0, .int .i64 0]], []⟩ 8 (by kernel_rfl) (by kernel_rfl) (by kernel_rfl) (by kernel_rfl)) ?_
  intro W base args ds gs before hval hW _ _
  refine law_contract (C := ctx) (f := 6) (fn := Try.f6) (sg := (lookL sigL 6).getD default) (spec := Rows.titleGrowsSpec) (tb := 4) (by kernel_rfl) (by kernel_rfl) (by kernel_rfl) rfl ?_ rfl Try.underlying4 rfl rfl rfl titleGrows_main W base args ds gs before hval hW
  intro ds hds
  match ds, hds with
  | [_, _, _, _], _ => exact ⟨rfl, rfl, rfl⟩

theorem titleGrows_holds : Rows.TitleGrowsSaid :=
  OpenClaim.holds_of_wide 6 Try.f6 rfl rfl rfl rfl rfl rfl rfl ⟨rfl, rfl, rfl, rfl, rfl⟩ rfl rfl rfl rfl rfl (by kernel_rfl) Try.func6 (by kernel_rfl)
    (of_decide_eq_true (by kernel_rfl)) (by unfold Func.isWrapper; first | (rw [if_pos (by decide +kernel)]; kernel_rfl) | (rw [if_neg (by decide +kernel)]; exact ⟨rfl, rfl⟩))
    (fun os started H enc _ => titleGrows_lifted os started H enc)
end Go.Proofs.Ytjjfmpdhjbojfaa
