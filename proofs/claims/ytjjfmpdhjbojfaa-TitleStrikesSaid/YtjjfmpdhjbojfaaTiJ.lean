/-
  What a file's value is, and how a function of this seat is handed in.
-/
import Derived.Test.YtjjfmpdhjbojfaaTiH
import Derived.Test.YtjjfmpdhjbojfaaRows
set_option linter.unusedSimpArgs false
set_option linter.unusedVariables false
namespace Title
open Go Go.Proofs Cx Go.RowKit Go.ChangeShapes Go.WideShapes

theorem own : ownKnob Try.prog.godebug = none := by kernel_rfl
theorem s_inv {d : D} (h : DTy (.agg [.int .i64, .int .i64, .int .i64, .int .i64, .int .i64, .int .i64, .int .i64, .int .i64, .int .i64]) d) : ∃ x : S, d = encS x := by
  obtain ⟨ds, rfl, hs⟩ := h.agg_inv
  obtain ⟨d0, ds, rfl, h0, hs⟩ := hs.cons_inv
  obtain ⟨d1, ds, rfl, h1, hs⟩ := hs.cons_inv
  obtain ⟨d2, ds, rfl, h2, hs⟩ := hs.cons_inv
  obtain ⟨d3, ds, rfl, h3, hs⟩ := hs.cons_inv
  obtain ⟨d4, ds, rfl, h4, hs⟩ := hs.cons_inv
  obtain ⟨d5, ds, rfl, h5, hs⟩ := hs.cons_inv
  obtain ⟨d6, ds, rfl, h6, hs⟩ := hs.cons_inv
  obtain ⟨d7, ds, rfl, h7, hs⟩ := hs.cons_inv
  obtain ⟨d8, ds, rfl, h8, hs⟩ := hs.cons_inv
  obtain rfl := hs.nil_inv
  obtain ⟨n0, rfl, _⟩ := h0.i64_inv
  obtain ⟨n1, rfl, _⟩ := h1.i64_inv
  obtain ⟨n2, rfl, _⟩ := h2.i64_inv
  obtain ⟨n3, rfl, _⟩ := h3.i64_inv
  obtain ⟨n4, rfl, _⟩ := h4.i64_inv
  obtain ⟨n5, rfl, _⟩ := h5.i64_inv
  obtain ⟨n6, rfl, _⟩ := h6.i64_inv
  obtain ⟨n7, rfl, _⟩ := h7.i64_inv
  obtain ⟨n8, rfl, _⟩ := h8.i64_inv
  exact ⟨⟨n0, n1, n2, n3, n4, n5, n6, n7, n8⟩, rfl⟩
theorem ss_inv {d : D} (h : DTy (.slice (.agg [.int .i64, .int .i64, .int .i64, .int .i64, .int .i64, .int .i64, .int .i64, .int .i64, .int .i64])) d) : ∃ l : List S, d = .list (l.map encS) ∧ l.length ≤ maxLen := by
  obtain ⟨xs, rfl, hm, hx⟩ := h.slice_inv
  obtain ⟨l, rfl, hl⟩ := list_inv (enc := encS) (P := fun _ => True) fun x hh => by obtain ⟨y, hy⟩ := s_inv (hx x hh); exact ⟨y, hy, trivial⟩
  exact ⟨l, rfl, by simpa using hm⟩
theorem al_inv {d : D} (h : DTy (.agg [.int .i64, .int .i64]) d) : ∃ x : Al, d = encAl x := by
  obtain ⟨ds, rfl, hs⟩ := h.agg_inv
  obtain ⟨d0, ds, rfl, h0, hs⟩ := hs.cons_inv
  obtain ⟨d1, ds, rfl, h1, hs⟩ := hs.cons_inv
  obtain rfl := hs.nil_inv
  obtain ⟨n0, rfl, _⟩ := h0.i64_inv
  obtain ⟨n1, rfl, _⟩ := h1.i64_inv
  exact ⟨⟨n0, n1⟩, rfl⟩
theorem als_inv {d : D} (h : DTy (.slice (.agg [.int .i64, .int .i64])) d) : ∃ l : List Al, d = .list (l.map encAl) ∧ l.length ≤ maxLen := by
  obtain ⟨xs, rfl, hm, hx⟩ := h.slice_inv
  obtain ⟨l, rfl, hl⟩ := list_inv (enc := encAl) (P := fun _ => True) fun x hh => by obtain ⟨y, hy⟩ := al_inv (hx x hh); exact ⟨y, hy, trivial⟩
  exact ⟨l, rfl, by simpa using hm⟩
theorem a_inv {d : D} (h : DTy (.agg [.int .i64, .int .i64, .int .i64, .int .i64, .int .i64, .int .i64, .int .i64, .int .i64, .int .i64]) d) : ∃ x : A, d = encA x := by
  obtain ⟨ds, rfl, hs⟩ := h.agg_inv
  obtain ⟨d0, ds, rfl, h0, hs⟩ := hs.cons_inv
  obtain ⟨d1, ds, rfl, h1, hs⟩ := hs.cons_inv
  obtain ⟨d2, ds, rfl, h2, hs⟩ := hs.cons_inv
  obtain ⟨d3, ds, rfl, h3, hs⟩ := hs.cons_inv
  obtain ⟨d4, ds, rfl, h4, hs⟩ := hs.cons_inv
  obtain ⟨d5, ds, rfl, h5, hs⟩ := hs.cons_inv
  obtain ⟨d6, ds, rfl, h6, hs⟩ := hs.cons_inv
  obtain ⟨d7, ds, rfl, h7, hs⟩ := hs.cons_inv
  obtain ⟨d8, ds, rfl, h8, hs⟩ := hs.cons_inv
  obtain rfl := hs.nil_inv
  obtain ⟨n0, rfl, _⟩ := h0.i64_inv
  obtain ⟨n1, rfl, _⟩ := h1.i64_inv
  obtain ⟨n2, rfl, _⟩ := h2.i64_inv
  obtain ⟨n3, rfl, _⟩ := h3.i64_inv
  obtain ⟨n4, rfl, _⟩ := h4.i64_inv
  obtain ⟨n5, rfl, _⟩ := h5.i64_inv
  obtain ⟨n6, rfl, _⟩ := h6.i64_inv
  obtain ⟨n7, rfl, _⟩ := h7.i64_inv
  obtain ⟨n8, rfl, _⟩ := h8.i64_inv
  exact ⟨⟨n0, n1, n2, n3, n4, n5, n6, n7, n8⟩, rfl⟩
theorem as_inv {d : D} (h : DTy (.slice (.agg [.int .i64, .int .i64, .int .i64, .int .i64, .int .i64, .int .i64, .int .i64, .int .i64, .int .i64])) d) : ∃ l : List A, d = .list (l.map encA) ∧ l.length ≤ maxLen := by
  obtain ⟨xs, rfl, hm, hx⟩ := h.slice_inv
  obtain ⟨l, rfl, hl⟩ := list_inv (enc := encA) (P := fun _ => True) fun x hh => by obtain ⟨y, hy⟩ := a_inv (hx x hh); exact ⟨y, hy, trivial⟩
  exact ⟨l, rfl, by simpa using hm⟩
theorem fa_inv {d : D} (h : DTy (.agg [.int .i64, .int .i64, .int .i64]) d) : ∃ x : Fa, d = encFa x := by
  obtain ⟨ds, rfl, hs⟩ := h.agg_inv
  obtain ⟨d0, ds, rfl, h0, hs⟩ := hs.cons_inv
  obtain ⟨d1, ds, rfl, h1, hs⟩ := hs.cons_inv
  obtain ⟨d2, ds, rfl, h2, hs⟩ := hs.cons_inv
  obtain rfl := hs.nil_inv
  obtain ⟨n0, rfl, _⟩ := h0.i64_inv
  obtain ⟨n1, rfl, _⟩ := h1.i64_inv
  obtain ⟨n2, rfl, _⟩ := h2.i64_inv
  exact ⟨⟨n0, n1, n2⟩, rfl⟩
theorem fas_inv {d : D} (h : DTy (.slice (.agg [.int .i64, .int .i64, .int .i64])) d) : ∃ l : List Fa, d = .list (l.map encFa) ∧ l.length ≤ maxLen := by
  obtain ⟨xs, rfl, hm, hx⟩ := h.slice_inv
  obtain ⟨l, rfl, hl⟩ := list_inv (enc := encFa) (P := fun _ => True) fun x hh => by obtain ⟨y, hy⟩ := fa_inv (hx x hh); exact ⟨y, hy, trivial⟩
  exact ⟨l, rfl, by simpa using hm⟩
theorem file_inv {d : D} (h : DTy (.agg [.int .i64, .int .i64, .int .i64, .int .i64, .int .i64, .int .i64, .int .i64, .int .i64, .int .i64, .int .i64, .int .i64, .int .i64, .int .i64, .int .i64, .int .i64, .slice (.agg [.int .i64, .int .i64, .int .i64, .int .i64, .int .i64, .int .i64, .int .i64, .int .i64, .int .i64]), .slice (.agg [.int .i64, .int .i64]), .slice (.agg [.int .i64, .int .i64, .int .i64, .int .i64, .int .i64, .int .i64, .int .i64, .int .i64, .int .i64]), .slice (.agg [.int .i64, .int .i64, .int .i64])]) d) : ∃ f : File, d = encF f ∧ f.signs.length ≤ maxLen ∧ f.alters.length ≤ maxLen ∧ f.acts.length ≤ maxLen ∧ f.facts.length ≤ maxLen := by
  obtain ⟨ds, rfl, hs⟩ := h.agg_inv
  obtain ⟨d0, ds, rfl, h0, hs⟩ := hs.cons_inv
  obtain ⟨d1, ds, rfl, h1, hs⟩ := hs.cons_inv
  obtain ⟨d2, ds, rfl, h2, hs⟩ := hs.cons_inv
  obtain ⟨d3, ds, rfl, h3, hs⟩ := hs.cons_inv
  obtain ⟨d4, ds, rfl, h4, hs⟩ := hs.cons_inv
  obtain ⟨d5, ds, rfl, h5, hs⟩ := hs.cons_inv
  obtain ⟨d6, ds, rfl, h6, hs⟩ := hs.cons_inv
  obtain ⟨d7, ds, rfl, h7, hs⟩ := hs.cons_inv
  obtain ⟨d8, ds, rfl, h8, hs⟩ := hs.cons_inv
  obtain ⟨d9, ds, rfl, h9, hs⟩ := hs.cons_inv
  obtain ⟨d10, ds, rfl, h10, hs⟩ := hs.cons_inv
  obtain ⟨d11, ds, rfl, h11, hs⟩ := hs.cons_inv
  obtain ⟨d12, ds, rfl, h12, hs⟩ := hs.cons_inv
  obtain ⟨d13, ds, rfl, h13, hs⟩ := hs.cons_inv
  obtain ⟨d14, ds, rfl, h14, hs⟩ := hs.cons_inv
  obtain ⟨d15, ds, rfl, h15, hs⟩ := hs.cons_inv
  obtain ⟨d16, ds, rfl, h16, hs⟩ := hs.cons_inv
  obtain ⟨d17, ds, rfl, h17, hs⟩ := hs.cons_inv
  obtain ⟨d18, ds, rfl, h18, hs⟩ := hs.cons_inv
  obtain rfl := hs.nil_inv
  obtain ⟨n0, rfl, _⟩ := h0.i64_inv
  obtain ⟨n1, rfl, _⟩ := h1.i64_inv
  obtain ⟨n2, rfl, _⟩ := h2.i64_inv
  obtain ⟨n3, rfl, _⟩ := h3.i64_inv
  obtain ⟨n4, rfl, _⟩ := h4.i64_inv
  obtain ⟨n5, rfl, _⟩ := h5.i64_inv
  obtain ⟨n6, rfl, _⟩ := h6.i64_inv
  obtain ⟨n7, rfl, _⟩ := h7.i64_inv
  obtain ⟨n8, rfl, _⟩ := h8.i64_inv
  obtain ⟨n9, rfl, _⟩ := h9.i64_inv
  obtain ⟨n10, rfl, _⟩ := h10.i64_inv
  obtain ⟨n11, rfl, _⟩ := h11.i64_inv
  obtain ⟨n12, rfl, _⟩ := h12.i64_inv
  obtain ⟨n13, rfl, _⟩ := h13.i64_inv
  obtain ⟨n14, rfl, _⟩ := h14.i64_inv
  obtain ⟨l15, rfl, m15⟩ := ss_inv h15
  obtain ⟨l16, rfl, m16⟩ := als_inv h16
  obtain ⟨l17, rfl, m17⟩ := as_inv h17
  obtain ⟨l18, rfl, m18⟩ := fas_inv h18
  exact ⟨⟨n0, n1, n2, n3, n4, n5, n6, n7, n8, n9, n10, n11, n12, n13, n14, l15, l16, l17, l18⟩, rfl, m15, m16, m17, m18⟩
/-- a file with nothing in it -/
def fileV : Value := .agg #[.int .i64 0, .int .i64 0, .int .i64 0, .int .i64 0, .int .i64 0, .int .i64 0, .int .i64 0, .int .i64 0, .int .i64 0, .int .i64 0, .int .i64 0, .int .i64 0, .int .i64 0, .int .i64 0, .int .i64 0, .slice none 0 0, .slice none 0 0, .slice none 0 0, .slice none 0 0]
end Title
