/-
  TitleTells.
-/
import Derived.Test.YtjjfmpdhjbojfaaTiH
set_option linter.unusedSimpArgs false
set_option linter.unusedVariables false
namespace Title
open Go Go.Proofs Cx

def fewB (f : File) : Bool := decide (f.signs.length ≤ 40) && decide (f.acts.length ≤ 60) && decide (f.alters.length ≤ 10) && decide (f.facts.length ≤ 200)
theorem fewB_true {f : File} (h : fewB f = true) : f.signs.length ≤ 40 ∧ f.acts.length ≤ 60 ∧ f.alters.length ≤ 10 ∧ f.facts.length ≤ 200 := by
  simp [fewB] at h; omega
theorem few_runs' (f : File) : Runs T 10 [encF f] (.bool (fewB f)) := few_runs f
set_option maxRecDepth 10000 in
theorem tells_runs (f : File) (part sign day : Int) : Runs T 3 [encF f, .int part, .int sign, .int day] (.bool true) := by
  refine .of_tree rfl rfl tr3_eq ?_
  simp only [tr3, wp_call, holds_nil', if_true]
  refine ⟨_, small_runs, ?_⟩
  simp
  refine ⟨_, few_runs' f, ?_⟩
  cases hf : fewB f with
  | false => simp
  | true =>
    obtain ⟨h1, h2, _, _⟩ := fewB_true hf
    have hc := chain_len f part day
    have hr := rivK_len f day (parts f)
    have hp := parts_le f
    try simp
    refine ⟨_, struck11_runs f sign day (by omega), ?_⟩
    try simp
    refine ⟨_, struck12_runs f sign day (by omega), ?_⟩
    try simp
    refine ⟨_, chain_runs f part day (by omega) (by omega), ?_⟩
    refine ⟨_, chain15_runs f part day (by omega) (by omega), ?_⟩
    refine ⟨_, sameCh_runs _ _ (by omega) (by omega), ?_⟩
    simp [sameCh_refl]
    refine ⟨_, rivals17_runs f day (by omega) (by omega), ?_⟩
    refine ⟨_, rivals18_runs f day (by omega) (by omega), ?_⟩
    have hq := same_runs (rivals f day) (rivals f day) (by unfold rivals; omega)
    simpa using hq
end Title
