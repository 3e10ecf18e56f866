/-
  The statement: ExposureGrows.
-/
import Derived.Test.YtjkeifcibnadcaaExE
import Derived.Test.YtjkeifcibnadcaaRows
set_option linter.unusedSimpArgs false
set_option linter.unusedVariables false
namespace Go.Proofs.Ytjkeifcibnadcaa
open Go Go.Proofs Cx Expo Go.RowKit Go.ChangeShapes Go.WideShapes

theorem own : ownKnob Try.prog.godebug = none := by kernel_rfl

theorem held_inv {d : D} (h : DTy (.agg [.int .i64, .slice (.int .i64)]) d) : ∃ x : Held, d = encH x ∧ x.2.length ≤ maxLen := by
  obtain ⟨ds, rfl, hs⟩ := h.agg_inv
  obtain ⟨d1, r1, rfl, h1, hs⟩ := hs.cons_inv
  obtain ⟨d2, r2, rfl, h2, hs⟩ := hs.cons_inv
  obtain rfl := hs.nil_inv
  obtain ⟨n, rfl, _⟩ := h1.i64_inv
  obtain ⟨g, rfl, hg, _⟩ := h2.ints_inv
  exact ⟨(n, g), rfl, hg⟩
theorem helds_inv {d : D} (h : DTy (.slice (.agg [.int .i64, .slice (.int .i64)])) d) : ∃ l : List Held, d = helds l ∧ l.length ≤ maxLen ∧ ∀ x, x ∈ l → x.2.length ≤ maxLen := by
  obtain ⟨xs, rfl, hm, hx⟩ := h.slice_inv
  obtain ⟨l, rfl, hl⟩ := list_inv (enc := encH) (P := fun x => x.2.length ≤ maxLen) fun x hh => held_inv (hx x hh)
  exact ⟨l, rfl, by simpa using hm, hl⟩

theorem grows_main (ds : List D) (h : DTys ((lookL sigL 5).getD default).args ds) : FnOK ctx 5 ((lookL sigL 5).getD default) ds (.v (.bool true)) := by
  obtain ⟨d1, ds, rfl, h1, h⟩ := DTys.cons_inv h
  obtain ⟨d2, ds, rfl, h2, h⟩ := DTys.cons_inv h
  obtain ⟨d3, ds, rfl, h3, h⟩ := DTys.cons_inv h
  obtain ⟨d4, ds, rfl, h4, h⟩ := DTys.cons_inv h
  obtain ⟨d5, ds, rfl, h5, h⟩ := DTys.cons_inv h
  obtain ⟨d6, ds, rfl, h6, h⟩ := DTys.cons_inv h
  obtain rfl := h.nil_inv
  obtain ⟨l, rfl, hl, hg⟩ := helds_inv h1
  obtain ⟨f, rfl, hf, _⟩ := h2.ints_inv
  obtain ⟨m, rfl, _⟩ := h3.i64_inv
  obtain ⟨i, rfl, hi⟩ := h4.i64_inv
  obtain ⟨g, rfl, hgr, _⟩ := h5.ints_inv
  obtain ⟨b, rfl, hb⟩ := held_inv h6
  exact Runs.fnOK tabOK rfl (grows_runs l f g m i b hl hg hf hgr hi hb)

set_option maxRecDepth 100000 in
theorem grows_lifted (os : Os) (started : os.Started) (H : Type) (enc : TypeId × Value → H) :
    ReturnsInHanded {} Try.checked os 5 .any (Rows.exposureGrowsSpec.pre6 enc Try.prog Try.f5 Rows.exposureGrowsRow.domain false) (Rows.exposureGrowsSpec.post enc Try.prog Try.f5 false true false false) := by
  refine returnsInHanded_of_change (C := Try.checked) own started (by kernel_rfl) Try.func5
    (ChangeSpec.witness6 (enc := enc) (C := Try.checked) false ⟨#[], #[.slice none 0 0, .slice none 0 0, .int .i64 0, .int .i64 0, .slice none 0 0, .agg #[.int .i64 0, .slice none 0 0]], []⟩ 8 (by kernel_rfl) (by kernel_rfl) (by kernel_rfl) (by kernel_rfl)) ?_
  intro W base args ds gs before hval hW _ _
  refine law_contract (C := ctx) (f := 5) (fn := Try.f5) (sg := (lookL sigL 5).getD default) (spec := Rows.exposureGrowsSpec) (tb := 4) (by kernel_rfl) (by kernel_rfl) (by kernel_rfl) rfl ?_ rfl Try.underlying4 rfl rfl rfl grows_main W base args ds gs before hval hW
  intro ds hds
  match ds, hds with
  | [_, _, _, _, _, _], _ => exact ⟨rfl, rfl, rfl⟩

theorem exposureGrows_holds : Rows.ExposureGrowsSaid :=
  OpenClaim.holds_of_wide 5 Try.f5 rfl rfl rfl rfl rfl rfl rfl ⟨rfl, rfl, rfl, rfl, rfl⟩ rfl rfl rfl rfl rfl (by kernel_rfl) Try.func5 (by kernel_rfl)
    (of_decide_eq_true (by kernel_rfl)) (by unfold Func.isWrapper; first | (rw [if_pos (by decide +kernel)]; kernel_rfl) | (rw [if_neg (by decide +kernel)]; exact ⟨rfl, rfl⟩))
    (fun os started H enc _ => grows_lifted os started H enc)
end Go.Proofs.Ytjkeifcibnadcaa
