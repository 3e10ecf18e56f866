/-
  The statement: TitleStrikes.
-/
import Derived.Test.YtjjfmpdhjbojfaaTiW
import Derived.Test.YtjjfmpdhjbojfaaTiJ
import Derived.Test.YtjjfmpdhjbojfaaRows
set_option linter.unusedSimpArgs false
set_option linter.unusedVariables false
namespace Go.Proofs.Ytjjfmpdhjbojfaa
open Go Go.Proofs Cx Title Go.RowKit Go.ChangeShapes Go.WideShapes

theorem titleStrikes_main (ds : List D) (h : DTys ((lookL sigL 7).getD default).args ds) : FnOK ctx 7 ((lookL sigL 7).getD default) ds (.v (.bool true)) := by
  obtain ⟨d1, ds, rfl, h1, h⟩ := DTys.cons_inv h
  obtain ⟨d2, ds, rfl, h2, h⟩ := DTys.cons_inv h
  obtain ⟨d3, ds, rfl, h3, h⟩ := DTys.cons_inv h
  obtain ⟨d4, ds, rfl, h4, h⟩ := DTys.cons_inv h
  obtain ⟨d5, ds, rfl, h5, h⟩ := DTys.cons_inv h
  obtain rfl := h.nil_inv
  obtain ⟨f, rfl, _⟩ := file_inv h1
  obtain ⟨a, rfl, _⟩ := h2.i64_inv
  obtain ⟨b, rfl, hb⟩ := h3.i64_inv
  obtain ⟨o, rfl, _⟩ := h4.i64_inv
  obtain ⟨l, rfl, hl1, hl2⟩ := h5.int_inv
  have hl : 0 ≤ l ∧ l < 65536 := by
    have e1 : IntKind.u16.min = 0 := by rfl
    have e2 : IntKind.u16.max = 65535 := by rfl
    omega
  have hb2 : -9223372036854775808 ≤ b ∧ b < 9223372036854775808 := by unfold I64 at hb; omega
  exact Runs.fnOK tabOK rfl (strikes_runs f a b o l hb2 hl)

set_option maxRecDepth 100000 in
theorem titleStrikes_lifted (os : Os) (started : os.Started) (H : Type) (enc : TypeId × Value → H) :
    ReturnsInHanded {} Try.checked os 7 .any (Rows.titleStrikesSpec.pre6 enc Try.prog Try.f7 Rows.titleStrikesRow.domain false) (Rows.titleStrikesSpec.post enc Try.prog Try.f7 false true false false) := by
  refine returnsInHanded_of_change (C := Try.checked) own started (by kernel_rfl) Try.func7
    (ChangeSpec.witness6 (enc := enc) (C := Try.checked) false ⟨#[], #[fileV, .int .i64 0, .int .i64 0, .int .i64 0, .int .u16 0], []⟩ 8 (by kernel_rfl) (by kernel_rfl) (by kernel_rfl) (by kernel_rfl)) ?_
  intro W base args ds gs before hval hW _ _
  refine law_contract (C := ctx) (f := 7) (fn := Try.f7) (sg := (lookL sigL 7).getD default) (spec := Rows.titleStrikesSpec) (tb := 4) (by kernel_rfl) (by kernel_rfl) (by kernel_rfl) rfl ?_ rfl Try.underlying4 rfl rfl rfl titleStrikes_main W base args ds gs before hval hW
  intro ds hds
  match ds, hds with
  | [_, _, _, _, _], _ => exact ⟨rfl, rfl, rfl⟩

theorem titleStrikes_holds : Rows.TitleStrikesSaid :=
  OpenClaim.holds_of_wide 7 Try.f7 rfl rfl rfl rfl rfl rfl rfl ⟨rfl, rfl, rfl, rfl, rfl⟩ rfl rfl rfl rfl rfl (by kernel_rfl) Try.func7 (by kernel_rfl)
    (of_decide_eq_true (by kernel_rfl)) (by unfold Func.isWrapper; first | (rw [if_pos (by decide +kernel)]; kernel_rfl) | (rw [if_neg (by decide +kernel)]; exact ⟨rfl, rfl⟩))
    (fun os started H enc _ => titleStrikes_lifted os started H enc)
end Go.Proofs.Ytjjfmpdhjbojfaa
