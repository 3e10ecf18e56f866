/-
  What comes in, read as Lean's own data.
-/
import Derived.Test.YtjkeifcibnadcaaEsH
import Derived.Test.YtjkeifcibnadcaaCyF
set_option linter.unusedSimpArgs false
set_option linter.unusedVariables false
namespace Go.Proofs.Ytjkeifcibnadcaa
open Go Go.Proofs Cx Esta

theorem own : ownKnob Try.prog.godebug = none := by kernel_rfl
theorem est_inv {d : D} (h : DTy (.agg [.int .i64, .int .i64, .int .i64]) d) : ∃ p : Est, d = encE p ∧ True := by
  obtain ⟨ds, rfl, hs⟩ := h.agg_inv
  obtain ⟨d1, r1, rfl, h1, hs⟩ := hs.cons_inv
  obtain ⟨d2, r2, rfl, h2, hs⟩ := hs.cons_inv
  obtain ⟨d3, r3, rfl, h3, hs⟩ := hs.cons_inv
  obtain rfl := hs.nil_inv
  obtain ⟨n1, rfl, _⟩ := h1.i64_inv
  obtain ⟨n2, rfl, _⟩ := h2.i64_inv
  obtain ⟨n3, rfl, _⟩ := h3.i64_inv
  exact ⟨⟨n1, n2, n3⟩, rfl, trivial⟩
theorem pr_inv {d : D} (h : DTy (.agg [.int .i64, .int .i64, .int .i64]) d) : ∃ p : Pr, d = encP p ∧ True := by
  obtain ⟨ds, rfl, hs⟩ := h.agg_inv
  obtain ⟨d1, r1, rfl, h1, hs⟩ := hs.cons_inv
  obtain ⟨d2, r2, rfl, h2, hs⟩ := hs.cons_inv
  obtain ⟨d3, r3, rfl, h3, hs⟩ := hs.cons_inv
  obtain rfl := hs.nil_inv
  obtain ⟨n1, rfl, _⟩ := h1.i64_inv
  obtain ⟨n2, rfl, _⟩ := h2.i64_inv
  obtain ⟨n3, rfl, _⟩ := h3.i64_inv
  exact ⟨⟨n1, n2, n3⟩, rfl, trivial⟩
theorem out_inv {d : D} (h : DTy (.agg [.int .i64, .int .i64]) d) : ∃ p : Int × Int, d = encO p ∧ True := by
  obtain ⟨ds, rfl, hs⟩ := h.agg_inv
  obtain ⟨d1, r1, rfl, h1, hs⟩ := hs.cons_inv
  obtain ⟨d2, r2, rfl, h2, hs⟩ := hs.cons_inv
  obtain rfl := hs.nil_inv
  obtain ⟨n1, rfl, _⟩ := h1.i64_inv
  obtain ⟨n2, rfl, _⟩ := h2.i64_inv
  exact ⟨⟨n1, n2⟩, rfl, trivial⟩
theorem ests_inv {d : D} (h : DTy (.slice (.agg [.int .i64, .int .i64, .int .i64])) d) : ∃ l : List Est, d = ests l ∧ l.length ≤ maxLen := by
  obtain ⟨xs, rfl, hm, hx⟩ := h.slice_inv
  obtain ⟨l, rfl, _⟩ := list_inv (enc := encE) (P := fun _ => True) fun x hh => est_inv (hx x hh)
  exact ⟨l, rfl, by simpa using hm⟩
theorem prs_inv {d : D} (h : DTy (.slice (.agg [.int .i64, .int .i64, .int .i64])) d) : ∃ l : List Pr, d = prs l ∧ l.length ≤ maxLen := by
  obtain ⟨xs, rfl, hm, hx⟩ := h.slice_inv
  obtain ⟨l, rfl, _⟩ := list_inv (enc := encP) (P := fun _ => True) fun x hh => pr_inv (hx x hh)
  exact ⟨l, rfl, by simpa using hm⟩
theorem outs_inv {d : D} (h : DTy (.slice (.agg [.int .i64, .int .i64])) d) : ∃ l : List (Int × Int), d = outs l ∧ l.length ≤ maxLen := by
  obtain ⟨xs, rfl, hm, hx⟩ := h.slice_inv
  obtain ⟨l, rfl, _⟩ := list_inv (enc := encO) (P := fun _ => True) fun x hh => out_inv (hx x hh)
  exact ⟨l, rfl, by simpa using hm⟩
theorem ints_inv {d : D} (h : DTy (.slice (.int .i64)) d) : ∃ l : List Int, d = ints l ∧ l.length ≤ maxLen := by
  obtain ⟨xs, rfl, hm, hx⟩ := h.slice_inv
  obtain ⟨l, rfl, _⟩ := list_inv (enc := D.int) (P := fun _ => True) fun x hh => by
    obtain ⟨n, rfl, _⟩ := (hx x hh).i64_inv
    exact ⟨n, rfl, trivial⟩
  exact ⟨l, rfl, by simpa using hm⟩
end Go.Proofs.Ytjkeifcibnadcaa
