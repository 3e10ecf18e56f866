/-
  The statement: ExposureWorst.
-/
import Derived.Test.YtjkeifcibnadcaaExM
import Derived.Test.YtjkeifcibnadcaaExK
set_option linter.unusedSimpArgs false
set_option linter.unusedVariables false
namespace Go.Proofs.Ytjkeifcibnadcaa
open Go Go.Proofs Cx Expo Go.RowKit Go.ChangeShapes Go.WideShapes

theorem worst_main (ds : List D) (h : DTys ((lookL sigL 4).getD default).args ds) : FnOK ctx 4 ((lookL sigL 4).getD default) ds (.v (.bool true)) := by
  obtain ⟨d1, ds, rfl, h1, h⟩ := DTys.cons_inv h
  obtain ⟨d2, ds, rfl, h2, h⟩ := DTys.cons_inv h
  obtain ⟨d3, ds, rfl, h3, h⟩ := DTys.cons_inv h
  obtain ⟨d4, ds, rfl, h4, h⟩ := DTys.cons_inv h
  obtain rfl := h.nil_inv
  obtain ⟨l, rfl, hl, hg⟩ := helds_inv h1
  obtain ⟨n, rfl, _⟩ := h2.i64_inv
  obtain ⟨k, rfl, _⟩ := h3.i64_inv
  obtain ⟨b, rfl, b0, b1⟩ := h4.int_inv
  have b0' : 0 ≤ b := by simpa [IntKind.min, IntKind.signed, IntKind.bits] using b0
  have b1' : b ≤ 4294967295 := by simpa [IntKind.max, IntKind.signed, IntKind.bits] using b1
  obtain ⟨c, rfl⟩ := Int.eq_ofNat_of_zero_le b0'
  exact Runs.fnOK tabOK rfl (worst4_runs l n k c (by omega) hl hg)

set_option maxRecDepth 100000 in
theorem worst_lifted (os : Os) (started : os.Started) (H : Type) (enc : TypeId × Value → H) :
    ReturnsInHanded {} Try.checked os 4 .any (Rows.exposureWorstSpec.pre6 enc Try.prog Try.f4 Rows.exposureWorstRow.domain false) (Rows.exposureWorstSpec.post enc Try.prog Try.f4 false true false false) := by
  refine returnsInHanded_of_change (C := Try.checked) Expo.own started (by kernel_rfl) Try.func4
    (ChangeSpec.witness6 (enc := enc) (C := Try.checked) false ⟨#[], #[.slice none 0 0, .int .i64 0, .int .i64 0, .int .u32 0], []⟩ 8 (by kernel_rfl) (by kernel_rfl) (by kernel_rfl) (by kernel_rfl)) ?_
  intro W base args ds gs before hval hW _ _
  refine law_contract (C := ctx) (f := 4) (fn := Try.f4) (sg := (lookL sigL 4).getD default) (spec := Rows.exposureWorstSpec) (tb := 4) (by kernel_rfl) (by kernel_rfl) (by kernel_rfl) rfl ?_ rfl Try.underlying4 rfl rfl rfl worst_main W base args ds gs before hval hW
  intro ds hds
  match ds, hds with
  | [_, _, _, _], _ => exact ⟨rfl, rfl, rfl⟩

theorem exposureWorst_holds : Rows.ExposureWorstSaid :=
  OpenClaim.holds_of_wide 4 Try.f4 rfl rfl rfl rfl rfl rfl rfl ⟨rfl, rfl, rfl, rfl, rfl⟩ rfl rfl rfl rfl rfl (by kernel_rfl) Try.func4 (by kernel_rfl)
    (of_decide_eq_true (by kernel_rfl)) (by unfold Func.isWrapper; first | (rw [if_pos (by decide +kernel)]; kernel_rfl) | (rw [if_neg (by decide +kernel)]; exact ⟨rfl, rfl⟩))
    (fun os started H enc _ => worst_lifted os started H enc)
end Go.Proofs.Ytjkeifcibnadcaa
