/-
  PoolTells: the statement's function returns true.
-/
import Derived.Test.YtaihcmbfhgmjgaaPoW
set_option linter.unusedSimpArgs false
set_option linter.unusedVariables false
namespace Pool
open Go Go.Proofs Cx

theorem swapF_len (t : Tm) (l : List Pl) (day : Int) (out : List Int) (inn : List Pl) : (swapF t l day out inn).1.length ≤ l.length + inn.length := by
  unfold swapF
  have := woF_len l out
  repeat' split
  all_goals simp
  omega
def spareL (t : Tm) (l : List Pl) (day : Int) : List Int := if checkF t l day = 0 ∧ ¬ coverF t l day - t.loan < 0 then insSort (preF t l day) else []
def spareE (t : Tm) (l : List Pl) (day : Int) : Int := if checkF t l day = 0 then if coverF t l day - t.loan < 0 then 7 else 0 else checkF t l day
theorem spareF_eq (t : Tm) (l : List Pl) (day : Int) : spareF t l day = .tup [ints (spareL t l day), .int (spareE t l day)] := by
  unfold spareF spareL spareE
  by_cases h1 : checkF t l day = 0 <;> by_cases h2 : coverF t l day - t.loan < 0 <;> simp [h1, h2, ints]
theorem spareL_len (t : Tm) (l : List Pl) (day : Int) : (spareL t l day).length ≤ l.length := by
  unfold spareL
  split
  · rename_i h
    obtain ⟨k, h1, h2, _⟩ := gre_take (vI t l day) (srt (vI t l day) (rng l.length)) (coverF t l day - t.loan) (by omega)
    have hp : preF t l day = (srt (vI t l day) (rng l.length)).take k := h2
    have hS : (srt (vI t l day) (rng l.length)).length = l.length := by rw [(srt_perm _ _).length_eq, rng_len]
    rw [(insSort_perm _).length_eq, hp, List.length_take]; omega
  · simp
def untilP (t : Tm) (l : List Pl) (day : Int) : Int × Int := if checkF t l day = 0 then (firstF t l (insSort (daysF l day)), 0) else (0, checkF t l day)
theorem untilP_eq (t : Tm) (l : List Pl) (day : Int) : (if checkF t l day = 0 then D.tup [.int (firstF t l (insSort (daysF l day))), .int 0] else .tup [.int 0, .int (checkF t l day)]) = .tup [.int (untilP t l day).1, .int (untilP t l day).2] := by
  unfold untilP; split <;> rfl
def coverP (t : Tm) (l : List Pl) (day : Int) : Int × Int := if checkF t l day = 0 then (coverF t l day, 0) else (0, checkF t l day)
theorem coverP_eq (t : Tm) (l : List Pl) (day : Int) : (if checkF t l day = 0 then D.tup [.int (coverF t l day), .int 0] else .tup [.int 0, .int (checkF t l day)]) = .tup [.int (coverP t l day).1, .int (coverP t l day).2] := by
  unfold coverP; split <;> rfl

set_option maxHeartbeats 2000000 in
theorem tells3_runs (t : Tm) (l : List Pl) (day : Int) (out : List Int) (inn : List Pl) (hl : l.length ≤ maxLen) (ho : out.length ≤ maxLen) (hi : inn.length ≤ maxLen) : Runs T 3 [encT t, pls l, .int day, ints out, pls inn] (.bool true) := by
  refine .of_tree rfl rfl tr3_eq ?_
  simp [tr3]
  refine ⟨_, sane_runs, _, few_runs l, ?_⟩
  simp
  by_cases h1 : l.length ≤ 60
  case neg => simp [h1]
  simp [h1]
  refine ⟨_, few_runs inn, ?_⟩
  simp
  by_cases h2 : inn.length ≤ 60
  case neg => simp [h2]
  by_cases h3 : (60 : Int) < out.length
  · have h3' : ¬ (out.length : Int) ≤ 60 := by omega
    have h3n : ¬ out.length ≤ 60 := by omega
    simp [h2, h3, h3', h3n]
  have h3' : out.length ≤ 60 := by omega
  have h3i : (out.length : Int) ≤ 60 := by omega
  simp [h2, h3, h3', h3i]
  refine ⟨_, coverP_eq t l day ▸ cover10_runs t l day hl, ?_⟩
  refine ⟨_, coverP_eq t l day ▸ rcover_runs t l day hl, ?_⟩
  refine ⟨_, swap_runs t l day out inn hl (by omega) (by omega), ?_⟩
  refine ⟨_, rswap_runs t l day out inn hl (by omega) (by omega), ?_⟩
  refine ⟨_, spareF_eq t l day ▸ spare_runs t l day hl, ?_⟩
  refine ⟨_, spareF_eq t l day ▸ rspare_runs t l day hl, ?_⟩
  refine ⟨_, untilP_eq t l day ▸ until_runs t l day hl, ?_⟩
  refine ⟨_, untilP_eq t l day ▸ runtil_runs t l day hl, ?_⟩
  refine ⟨_, check_runs t l day hl, ?_⟩
  refine ⟨_, rcheck_runs t l day hl, ?_⟩
  simp
  have hs := swapF_len t l day out inn
  refine ⟨_, same20_runs _ (by rw [maxLen_eq]; omega), ?_⟩
  simp
  have hsp := spareL_len t l day
  refine ⟨_, rsame_runs _ (by omega), ?_⟩
  simp
  refine EvP.forRounds inn.length (fun k => [.bool false, .int k]) (fun _ => []) ?_ (fun k hk => ?_) ?_
  · simp
  · have hw : IntKind.i64.wrap ((k : Int) + 1) = (k : Int) + 1 := wrap64_id (by omega)
    simp only [rd3_0_eq, rd3_0]
    simp [hk]
    refine ⟨_, value_runs t _ day, _, rvalue_runs t _ day, ?_⟩
    simp [hw]
  · simp [rd3_0_eq, rd3_0]
end Pool
