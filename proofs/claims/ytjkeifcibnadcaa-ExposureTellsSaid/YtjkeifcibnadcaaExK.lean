/-
  The arguments of the statements, read.
-/
import Derived.Test.YtjkeifcibnadcaaExC
import Derived.Test.YtjkeifcibnadcaaRows
set_option linter.unusedSimpArgs false
set_option linter.unusedVariables false
namespace Expo
open Go Go.Proofs Cx Go.RowKit Go.ChangeShapes Go.WideShapes

theorem own : ownKnob Try.prog.godebug = none := by kernel_rfl
theorem held_inv {d : D} (h : DTy (.agg [.int .i64, .slice (.int .i64)]) d) : ∃ x : Held, d = encH x ∧ x.2.length ≤ maxLen := by
  obtain ⟨ds, rfl, hs⟩ := h.agg_inv
  obtain ⟨d1, r1, rfl, h1, hs⟩ := hs.cons_inv
  obtain ⟨d2, r2, rfl, h2, hs⟩ := hs.cons_inv
  obtain rfl := hs.nil_inv
  obtain ⟨n, rfl, _⟩ := h1.i64_inv
  obtain ⟨g, rfl, hg, _⟩ := h2.ints_inv
  exact ⟨(n, g), rfl, hg⟩
theorem helds_inv {d : D} (h : DTy (.slice (.agg [.int .i64, .slice (.int .i64)])) d) : ∃ l : List Held, d = helds l ∧ l.length ≤ maxLen ∧ ∀ x, x ∈ l → x.2.length ≤ maxLen := by
  obtain ⟨xs, rfl, hm, hx⟩ := h.slice_inv
  obtain ⟨l, rfl, hl⟩ := list_inv (enc := encH) (P := fun x => x.2.length ≤ maxLen) fun x hh => held_inv (hx x hh)
  exact ⟨l, rfl, by simpa using hm, hl⟩
end Expo
