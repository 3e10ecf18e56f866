/-
  The statement: ExposureTells.
-/
import Derived.Test.YtjkeifcibnadcaaExQ
import Derived.Test.YtjkeifcibnadcaaExK
set_option linter.unusedSimpArgs false
set_option linter.unusedVariables false
namespace Go.Proofs.Ytjkeifcibnadcaa
open Go Go.Proofs Cx Expo Go.RowKit Go.ChangeShapes Go.WideShapes

theorem tells_main (ds : List D) (h : DTys ((lookL sigL 3).getD default).args ds) : FnOK ctx 3 ((lookL sigL 3).getD default) ds (.v (.bool true)) := by
  obtain ⟨d1, ds, rfl, h1, h⟩ := DTys.cons_inv h
  obtain ⟨d2, ds, rfl, h2, h⟩ := DTys.cons_inv h
  obtain ⟨d3, ds, rfl, h3, h⟩ := DTys.cons_inv h
  obtain ⟨d4, ds, rfl, h4, h⟩ := DTys.cons_inv h
  obtain ⟨d5, ds, rfl, h5, h⟩ := DTys.cons_inv h
  obtain rfl := h.nil_inv
  obtain ⟨l, rfl, hl, hg⟩ := helds_inv h1
  obtain ⟨f, rfl, hf, _⟩ := h2.ints_inv
  obtain ⟨lim, rfl, hlim, _⟩ := h3.ints_inv
  obtain ⟨n, rfl, _⟩ := h4.i64_inv
  obtain ⟨k, rfl, _⟩ := h5.i64_inv
  exact Runs.fnOK tabOK rfl (tells_runs l f lim n k hl hg hf hlim)

set_option maxRecDepth 100000 in
theorem tells_lifted (os : Os) (started : os.Started) (H : Type) (enc : TypeId × Value → H) :
    ReturnsInHanded {} Try.checked os 3 .any (Rows.exposureTellsSpec.pre6 enc Try.prog Try.f3 Rows.exposureTellsRow.domain false) (Rows.exposureTellsSpec.post enc Try.prog Try.f3 false true false false) := by
  refine returnsInHanded_of_change (C := Try.checked) Expo.own started (by kernel_rfl) Try.func3
    (ChangeSpec.witness6 (enc := enc) (C := Try.checked) false ⟨#[], #[.slice none 0 0, .slice none 0 0, .slice none 0 0, .int .i64 0, .int .i64 0], []⟩ 8 (by kernel_rfl) (by kernel_rfl) (by kernel_rfl) (by kernel_rfl)) ?_
  intro W base args ds gs before hval hW _ _
  refine law_contract (C := ctx) (f := 3) (fn := Try.f3) (sg := (lookL sigL 3).getD default) (spec := Rows.exposureTellsSpec) (tb := 4) (by kernel_rfl) (by kernel_rfl) (by kernel_rfl) rfl ?_ rfl Try.underlying4 rfl rfl rfl tells_main W base args ds gs before hval hW
  intro ds hds
  match ds, hds with
  | [_, _, _, _, _], _ => exact ⟨rfl, rfl, rfl⟩

theorem exposureTells_holds : Rows.ExposureTellsSaid :=
  OpenClaim.holds_of_wide 3 Try.f3 rfl rfl rfl rfl rfl rfl rfl ⟨rfl, rfl, rfl, rfl, rfl⟩ rfl rfl rfl rfl rfl (by kernel_rfl) Try.func3 (by kernel_rfl)
    (of_decide_eq_true (by kernel_rfl)) (by unfold Func.isWrapper; first | (rw [if_pos (by decide +kernel)]; kernel_rfl) | (rw [if_neg (by decide +kernel)]; exact ⟨rfl, rfl⟩))
    (fun os started H enc _ => tells_lifted os started H enc)
end Go.Proofs.Ytjkeifcibnadcaa
