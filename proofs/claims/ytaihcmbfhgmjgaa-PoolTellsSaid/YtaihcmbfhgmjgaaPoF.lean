/-
  What comes in, read as Lean's own data.
-/
import Derived.Test.YtaihcmbfhgmjgaaPoD
import Derived.Test.YtaihcmbfhgmjgaaCyF
set_option linter.unusedSimpArgs false
set_option linter.unusedVariables false
namespace Go.Proofs.Ytaihcmbfhgmjgaa
open Go Go.Proofs Cx Pool

theorem own : ownKnob Try.prog.godebug = none := by kernel_rfl
theorem tm_inv {d : D} (h : DTy (.agg [.int .i64, .int .i64, .int .i64, .int .i64, .int .i64]) d) : ∃ t : Tm, d = encT t := by
  obtain ⟨ds, rfl, hs⟩ := h.agg_inv
  obtain ⟨d1, r1, rfl, h1, hs⟩ := hs.cons_inv
  obtain ⟨d2, r2, rfl, h2, hs⟩ := hs.cons_inv
  obtain ⟨d3, r3, rfl, h3, hs⟩ := hs.cons_inv
  obtain ⟨d4, r4, rfl, h4, hs⟩ := hs.cons_inv
  obtain ⟨d5, r5, rfl, h5, hs⟩ := hs.cons_inv
  obtain rfl := hs.nil_inv
  obtain ⟨n1, rfl, _⟩ := h1.i64_inv
  obtain ⟨n2, rfl, _⟩ := h2.i64_inv
  obtain ⟨n3, rfl, _⟩ := h3.i64_inv
  obtain ⟨n4, rfl, _⟩ := h4.i64_inv
  obtain ⟨n5, rfl, _⟩ := h5.i64_inv
  exact ⟨⟨n1, n2, n3, n4, n5⟩, rfl⟩
theorem pl_inv {d : D} (h : DTy (.agg [.int .i64, .int .i64, .int .i64]) d) : ∃ p : Pl, d = encP p ∧ True := by
  obtain ⟨ds, rfl, hs⟩ := h.agg_inv
  obtain ⟨d1, r1, rfl, h1, hs⟩ := hs.cons_inv
  obtain ⟨d2, r2, rfl, h2, hs⟩ := hs.cons_inv
  obtain ⟨d3, r3, rfl, h3, hs⟩ := hs.cons_inv
  obtain rfl := hs.nil_inv
  obtain ⟨n1, rfl, _⟩ := h1.i64_inv
  obtain ⟨n2, rfl, _⟩ := h2.i64_inv
  obtain ⟨n3, rfl, _⟩ := h3.i64_inv
  exact ⟨⟨n1, n2, n3⟩, rfl, trivial⟩
theorem pls_inv {d : D} (h : DTy (.slice (.agg [.int .i64, .int .i64, .int .i64])) d) : ∃ l : List Pl, d = pls l ∧ l.length ≤ maxLen := by
  obtain ⟨xs, rfl, hm, hx⟩ := h.slice_inv
  obtain ⟨l, rfl, _⟩ := list_inv (enc := encP) (P := fun _ => True) fun x hh => pl_inv (hx x hh)
  exact ⟨l, rfl, by simpa using hm⟩
end Go.Proofs.Ytaihcmbfhgmjgaa
