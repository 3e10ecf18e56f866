/-
  The statement: PoolSwaps.
-/
import Derived.Test.YtaihcmbfhgmjgaaPoJ
import Derived.Test.YtaihcmbfhgmjgaaPoF
import Derived.Test.YtaihcmbfhgmjgaaRows
set_option linter.unusedSimpArgs false
set_option linter.unusedVariables false
namespace Go.Proofs.Ytaihcmbfhgmjgaa
open Go Go.Proofs Cx Pool Go.RowKit Go.ChangeShapes Go.WideShapes

theorem ints_inv {d : D} (h : DTy (.slice (.int .i64)) d) : ∃ l : List Int, d = ints l ∧ l.length ≤ maxLen := by
  obtain ⟨xs, rfl, hm, hx⟩ := h.slice_inv
  obtain ⟨l, rfl, _⟩ := list_inv (enc := D.int) (P := fun _ => True) fun x hh => by
    obtain ⟨n, rfl, _⟩ := (hx x hh).i64_inv
    exact ⟨n, rfl, trivial⟩
  exact ⟨l, rfl, by simpa using hm⟩
theorem tr_inv {d : D} (h : DTy (.agg [.slice (.int .i64), .slice (.agg [.int .i64, .int .i64, .int .i64])]) d) : ∃ x : Tr, d = encR x ∧ (x.out.length ≤ maxLen ∧ x.inn.length ≤ maxLen) := by
  obtain ⟨ds, rfl, hs⟩ := h.agg_inv
  obtain ⟨d1, r1, rfl, h1, hs⟩ := hs.cons_inv
  obtain ⟨d2, r2, rfl, h2, hs⟩ := hs.cons_inv
  obtain rfl := hs.nil_inv
  obtain ⟨out, rfl, ho⟩ := ints_inv h1
  obtain ⟨inn, rfl, hi⟩ := pls_inv h2
  exact ⟨⟨out, inn⟩, rfl, ho, hi⟩

theorem poolSwaps_main (ds : List D) (h : DTys ((lookL sigL 4).getD default).args ds) : FnOK ctx 4 ((lookL sigL 4).getD default) ds (.v (.bool true)) := by
  obtain ⟨d1, ds, rfl, h1, h⟩ := DTys.cons_inv h
  obtain ⟨d2, ds, rfl, h2, h⟩ := DTys.cons_inv h
  obtain ⟨d3, ds, rfl, h3, h⟩ := DTys.cons_inv h
  obtain ⟨d4, ds, rfl, h4, h⟩ := DTys.cons_inv h
  obtain rfl := h.nil_inv
  obtain ⟨t, rfl⟩ := tm_inv h1
  obtain ⟨l, rfl, hl⟩ := pls_inv h2
  obtain ⟨a, rfl, _⟩ := h3.i64_inv
  obtain ⟨xs, rfl, hm, hx⟩ := h4.slice_inv
  obtain ⟨trs, rfl, htr⟩ := list_inv (enc := encR) (P := fun x => x.out.length ≤ maxLen ∧ x.inn.length ≤ maxLen) fun x hh => tr_inv (hx x hh)
  exact Runs.fnOK tabOK rfl (swaps4_runs t l a trs hl htr)


set_option maxRecDepth 100000 in
theorem poolSwaps_lifted (os : Os) (started : os.Started) (H : Type) (enc : TypeId × Value → H) :
    ReturnsInHanded {} Try.checked os 4 .any (Rows.poolSwapsSpec.pre6 enc Try.prog Try.f4 Rows.poolSwapsRow.domain false) (Rows.poolSwapsSpec.post enc Try.prog Try.f4 false true false false) := by
  refine returnsInHanded_of_change (C := Try.checked) own started (by kernel_rfl) Try.func4
    (ChangeSpec.witness6 (enc := enc) (C := Try.checked) false ⟨#[], #[.agg #[.int .i64 0, .int .i64 0, .int .i64 0, .int .i64 0, .int .i64 0], .slice none 0 0, .int .i64 0, .slice none 0 0], []⟩ 8 (by kernel_rfl) (by kernel_rfl) (by kernel_rfl) (by kernel_rfl)) ?_
  intro W base args ds gs before hval hW _ _
  refine law_contract (C := ctx) (f := 4) (fn := Try.f4) (sg := (lookL sigL 4).getD default) (spec := Rows.poolSwapsSpec) (tb := 4) (by kernel_rfl) (by kernel_rfl) (by kernel_rfl) rfl ?_ rfl Try.underlying4 rfl rfl rfl poolSwaps_main W base args ds gs before hval hW
  intro ds hds
  match ds, hds with
  | [_, _, _, _], _ => exact ⟨rfl, rfl, rfl⟩

theorem poolSwaps_holds : Rows.PoolSwapsSaid :=
  OpenClaim.holds_of_wide 4 Try.f4 rfl rfl rfl rfl rfl rfl rfl ⟨rfl, rfl, rfl, rfl, rfl⟩ rfl rfl rfl rfl rfl (by kernel_rfl) Try.func4 (by kernel_rfl)
    (of_decide_eq_true (by kernel_rfl)) (by unfold Func.isWrapper; first | (rw [if_pos (by decide +kernel)]; kernel_rfl) | (rw [if_neg (by decide +kernel)]; exact ⟨rfl, rfl⟩))
    (fun os started H enc _ => poolSwaps_lifted os started H enc)
end Go.Proofs.Ytaihcmbfhgmjgaa
