/-
  TitleLinks.
-/
import Derived.Test.YtjjfmpdhjbojfaaTiL
set_option linter.unusedSimpArgs false
set_option linter.unusedVariables false
namespace Title
open Go Go.Proofs Cx

theorem endsK_len (f : File) (part day : Int) (k : Nat) : (endsK f part day k).length ≤ k := by
  unfold endsK
  have := List.length_filter_le (fun i => isEnd f part day i (f.signs.getD i default)) (List.range k)
  rw [List.length_range] at this; exact this
set_option maxRecDepth 10000 in
theorem links_runs (f : File) (part day : Int) : Runs T 4 [encF f, .int part, .int day] (.bool true) := by
  refine .of_tree rfl rfl tr4_eq ?_
  simp only [tr4, wp_call, holds_nil', if_true]
  refine ⟨_, small_runs, ?_⟩
  simp
  refine ⟨_, few_runs' f, ?_⟩
  cases hf : fewB f with
  | false => simp
  | true =>
    obtain ⟨h1, h2, _, _⟩ := fewB_true hf
    have hl := chain_len f part day
    simp
    refine ⟨_, chain_runs f part day (by omega) (by omega), ?_⟩
    have hule := upto_le f part day
    have hb0 := chK_bearer f part day
    refine EvP.forRounds (upto f part day) (fun k => [.bool false, .int (chK f part day k).holder, .int (endsK f part day k).length, .int k]) (fun _ => []) ?_ (fun k hk => ?_) ?_
    · simp [endsK, chK, chRun, ch0]
    · have hw1 : IntKind.i64.wrap ((k : Int) + 1) = (k : Int) + 1 := wrap64_id (by omega)
      have hlk := endsK_len f part day k
      have hw2 : IntKind.i64.wrap (((endsK f part day k).length : Int) + 1) = ((endsK f part day k).length : Int) + 1 := wrap64_id (by omega)
      have hkn : k < f.signs.length := by omega
      have hne : ¬ (k : Int) = (chain f part day).broken := by rcases upto_cases f part day with h | h <;> omega
      have hg : f.signs.getD k default = f.signs[k] := by rw [List.getD_eq_getElem?_getD, List.getElem?_eq_getElem hkn]; rfl
      simp [rd4_0_eq, rd4_0, hkn, hw1, hw2, hne]
      have hskip : ¬ isEnd f part day k f.signs[k] = true → (chK f part day k).holder = (chK f part day (k + 1)).holder ∧ ((endsK f part day k).length : Int) = (endsK f part day (k + 1)).length := fun hi => by
        rw [← hg] at hi
        rw [chK_skip f part day k hi, endsK_succ, if_neg hi, List.append_nil]; exact ⟨rfl, rfl⟩
      by_cases hp : (f.signs[k].kind = 2 ∧ f.signs[k].part = part) ∧ f.signs[k].day ≤ day
      · rw [if_pos hp]
        have hq : ¬ ((¬ f.signs[k].kind = 2 ∨ ¬ f.signs[k].part = part) ∨ day < f.signs[k].day) := by omega
        refine ⟨_, struck11_runs f k day (by omega), ?_⟩
        have hk0 : 0 ≤ (k : Int) ∧ (k : Int) < f.signs.length := by omega
        cases hs : struckB f.acts k day with
        | true =>
          rw [if_pos (.inr (by simp [struckP, hs]; omega))]
          exact hskip (by simp [isEnd, hs])
        | false =>
          have hi : isEnd f part day k (f.signs.getD k default) = true := by rw [hg]; simp [isEnd, hp.1.1, hp.1.2, hp.2, hs]
          rw [if_neg (by rintro (h | h); exact hq h; simp [struckP, hs] at h)]
          obtain ⟨g1, g2, r, g3⟩ := link f part day k hk hi
          have g4 : (chain f part day).signs.length = (endsK f part day k).length + (r.length + 1) := by rw [g3]; simp
          have g5 : (chain f part day).signs[(endsK f part day k).length]? = some (k : Int) := by
            rw [g3, List.getElem?_append_right (by simp)]; simp
          rw [hg] at g1 g2
          rw [g2, endsK_succ, if_pos hi, g5]
          refine ⟨by omega, ⟨⟨by omega, rfl⟩, fun hh => ?_⟩, rfl, by simp⟩
          simp [brk, hb0, hh] at g1
          exact g1
      · rw [if_neg hp, if_pos (.inl (by omega))]
        exact hskip fun hi => hp (by simp [isEnd] at hi; exact ⟨⟨hi.1.1.1, hi.1.1.2⟩, hi.1.2⟩)
    · simp [rd4_0_eq, rd4_0]
      obtain ⟨g1, g2, g3⟩ := stop f part day
      rcases upto_cases f part day with ⟨u1, u2⟩ | ⟨u1, u2, u3⟩
      · refine ⟨fun h => by omega, ⟨⟨by rw [g1], g2⟩, by rw [← g2]; exact chK_bearer f part day f.signs.length⟩, fun h => absurd u1 h⟩
      · have hu0 : ¬ ((upto f part day : Nat) : Int) = -1 := by omega
        refine ⟨fun _ => u1.symm, ⟨⟨by rw [g1], g2⟩, by rw [← g2]; exact chK_bearer f part day f.signs.length⟩, fun _ => ?_⟩
        have hb := g3 (by omega)
        have hg : f.signs.getD (upto f part day) default = f.signs[upto f part day] := by rw [List.getD_eq_getElem?_getD, List.getElem?_eq_getElem u2]; rfl
        rw [hg] at hb u3
        have hs : struckP f (upto f part day) day = false := by simp [isEnd] at u3; simp [struckP, u3.2]
        have hr := struck11_runs f (upto f part day) day (by omega)
        rw [hs] at hr
        simp [isEnd] at u3
        simp [brk, chK_bearer] at hb
        rw [u1]
        simp [u2, u3, splice]
        refine ⟨_, hr, ?_⟩
        simp [hb, u3]
end Title
