/-
  The statement: TitleLinks.
-/
import Derived.Test.YtjjfmpdhjbojfaaTiM
import Derived.Test.YtjjfmpdhjbojfaaTiJ
import Derived.Test.YtjjfmpdhjbojfaaRows
set_option linter.unusedSimpArgs false
set_option linter.unusedVariables false
namespace Go.Proofs.Ytjjfmpdhjbojfaa
open Go Go.Proofs Cx Title Go.RowKit Go.ChangeShapes Go.WideShapes

theorem titleLinks_main (ds : List D) (h : DTys ((lookL sigL 4).getD default).args ds) : FnOK ctx 4 ((lookL sigL 4).getD default) ds (.v (.bool true)) := by
  obtain ⟨d1, ds, rfl, h1, h⟩ := DTys.cons_inv h
  obtain ⟨d2, ds, rfl, h2, h⟩ := DTys.cons_inv h
  obtain ⟨d3, ds, rfl, h3, h⟩ := DTys.cons_inv h
  obtain rfl := h.nil_inv
  obtain ⟨f, rfl, _⟩ := file_inv h1
  obtain ⟨a, rfl, _⟩ := h2.i64_inv
  obtain ⟨b, rfl, _⟩ := h3.i64_inv
  exact Runs.fnOK tabOK rfl (links_runs f a b)

set_option maxRecDepth 100000 in
theorem titleLinks_lifted (os : Os) (started : os.Started) (H : Type) (enc : TypeId × Value → H) :
    ReturnsInHanded {} Try.checked os 4 .any (Rows.titleLinksSpec.pre6 enc Try.prog Try.f4 Rows.titleLinksRow.domain false) (Rows.titleLinksSpec.post enc Try.prog Try.f4 false true false false) := by
  refine returnsInHanded_of_change (C := Try.checked) own started (by kernel_rfl) Try.func4
    (ChangeSpec.witness6 (enc := enc) (C := Try.checked) false ⟨#[], #[fileV, .int .i64 0, .int .i64 0], []⟩ 8 (by kernel_rfl) (by kernel_rfl) (by kernel_rfl) (by kernel_rfl)) ?_
  intro W base args ds gs before hval hW _ _
  refine law_contract (C := ctx) (f := 4) (fn := Try.f4) (sg := (lookL sigL 4).getD default) (spec := Rows.titleLinksSpec) (tb := 4) (by kernel_rfl) (by kernel_rfl) (by kernel_rfl) rfl ?_ rfl Try.underlying4 rfl rfl rfl titleLinks_main W base args ds gs before hval hW
  intro ds hds
  match ds, hds with
  | [_, _, _], _ => exact ⟨rfl, rfl, rfl⟩

theorem titleLinks_holds : Rows.TitleLinksSaid :=
  OpenClaim.holds_of_wide 4 Try.f4 rfl rfl rfl rfl rfl rfl rfl ⟨rfl, rfl, rfl, rfl, rfl⟩ rfl rfl rfl rfl rfl (by kernel_rfl) Try.func4 (by kernel_rfl)
    (of_decide_eq_true (by kernel_rfl)) (by unfold Func.isWrapper; first | (rw [if_pos (by decide +kernel)]; kernel_rfl) | (rw [if_neg (by decide +kernel)]; exact ⟨rfl, rfl⟩))
    (fun os started H enc _ => titleLinks_lifted os started H enc)
end Go.Proofs.Ytjjfmpdhjbojfaa
