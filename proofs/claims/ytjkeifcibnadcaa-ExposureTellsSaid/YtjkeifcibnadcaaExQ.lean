/-
  ExposureTells.
-/
import Derived.Test.YtjkeifcibnadcaaExP
set_option linter.unusedSimpArgs false
set_option linter.unusedVariables false
namespace Expo
open Go Go.Proofs Cx

theorem worst14_runs (l : List Held) (n k : Int) (hl : l.length ≤ maxLen) (hg : ∀ h, h ∈ l → h.2.length ≤ maxLen) :
    (¬ (Rt l ∧ 0 ≤ n ∧ n ≤ 20 ∧ 0 ≤ k ∧ k ≤ n) → Runs T 14 [helds l, .int n, .int k] (.tup [.int 0, ints [], .int 1])) ∧
    ((Rt l ∧ 0 ≤ n ∧ n ≤ 20 ∧ 0 ≤ k ∧ k ≤ n) → 6 < k → Runs T 14 [helds l, .int n, .int k] (.tup [.int 0, ints [], .int 6])) ∧
    ((Rt l ∧ 0 ≤ n ∧ n ≤ 20 ∧ 0 ≤ k ∧ k ≤ n) → k ≤ 6 → ∀ m f, WorstP l n k.toNat m f → Runs T 14 [helds l, .int n, .int k] (.tup [.int m, ints f, .int 0])) := by
  have hrr := right17_runs l hl hg
  refine ⟨fun hok => .of_tree rfl rfl tr14_eq ?_, fun ⟨hr, n0, n1, k0, k1⟩ h6 => .of_tree rfl rfl tr14_eq ?_, fun ⟨hr, n0, n1, k0, k1⟩ h6 m f hw => .of_tree rfl rfl tr14_eq ?_⟩
  · simp only [tr14, wp_call, holds_nil', if_true]
    refine ⟨_, hrr, ?_⟩
    simp only [wp_ite]
    rw [if_pos]
    · simp [ints]
    · by_cases hr : Rt l
      · simp [hr] at hok ⊢; omega
      · simp [hr]
  · simp only [tr14, wp_call, holds_nil', if_true]
    refine ⟨_, hrr, ?_⟩
    simp only [wp_ite]
    rw [if_neg, if_pos]
    · simp [ints]
    · simp; omega
    · simp [hr]; omega
  · simp only [tr14, wp_call, holds_nil', if_true]
    refine ⟨_, hrr, ?_⟩
    simp only [wp_ite]
    rw [if_neg, if_neg]
    · simp only [wp_brk]
      obtain ⟨K, rfl⟩ := Int.eq_ofNat_of_zero_le k0
      obtain ⟨N, rfl⟩ := Int.eq_ofNat_of_zero_le n0
      refine worst14_loop _ l hr hl hg N K (by omega) (by simp) (by simp) (by simp) (by simp) (by simp [ints]) (by simp) (fun m' f' ρ' hw' e9 e10 => ?_)
      simp only [seqQ_next, wp_ret']
      have hu := WorstP.uniq hw' (by simpa using hw)
      simp [e9, e10, hu.1, hu.2]
    · simp; omega
    · simp [hr]; omega

theorem mkL_succ (s : Nat) (f : Nat → Int) : mkL (s + 1) f = mkL s f ++ [f s] := by simp [mkL, List.range_succ]
theorem alone21_runs (l : List Held) (n : Int) (hl : l.length ≤ maxLen) (hg : ∀ h, h ∈ l → h.2.length ≤ maxLen) :
    (¬ (Rt l ∧ 0 ≤ n ∧ n ≤ 20) → Runs T 21 [helds l, .int n] (ints [])) ∧ ((Rt l ∧ 0 ≤ n ∧ n ≤ 20) → Runs T 21 [helds l, .int n] (ints (mkL n.toNat fun g => lossP l [(g : Int)]))) := by
  have hrr := right17_runs l hl hg
  refine ⟨fun hok => .of_tree rfl rfl tr21_eq ?_, fun ⟨hr, n0, n1⟩ => .of_tree rfl rfl tr21_eq ?_⟩
  · simp only [tr21, wp_call, holds_nil', if_true]
    refine ⟨_, hrr, ?_⟩
    simp only [wp_ite]
    rw [if_pos]
    · simp [ints]
    · by_cases hr : Rt l
      · simp [hr] at hok ⊢; omega
      · simp [hr]
  · simp only [tr21, wp_call, holds_nil', if_true]
    refine ⟨_, hrr, ?_⟩
    simp only [wp_ite]
    obtain ⟨N, rfl⟩ := Int.eq_ofNat_of_zero_le n0
    rw [if_neg (by simp [hr]; omega)]
    simp only [wp_brk]
    refine EvP.forRounds N (fun k => [.none, .int k]) (fun k => [ints (mkL k fun g => lossP l [(g : Int)])]) ?_ (fun k hk => ?_) ?_
    · simp [mkL, ints]
    · have hw1 : IntKind.i64.wrap ((k : Int) + 1) = (k : Int) + 1 := wrap64_id (by omega)
      have hls := loss19_runs l [(k : Int)] hl hg (by rw [maxLen_eq]; simp)
      rw [lossS_eq hr] at hls
      simp only [rd21_0_eq, rd21_0, wp_ite, wp_blockS, wp_call, holds_nil', if_true, wp_chk]
      rw [if_pos (by simp; omega)]
      refine ⟨_, by simpa [ints] using hls, by simp; omega, ?_⟩
      simp [hw1, mkL_succ, ints]
    · simp [rd21_0_eq, rd21_0]

/-- the groups over their limits -/
def ovL (A lim : List Int) (k : Nat) : List Int := ((List.range k).filter fun g => decide (A.getD g 0 > lim.getD g 0)).map fun (g : Nat) => (g : Int)
theorem ovL_succ (A lim : List Int) (k : Nat) : ovL A lim (k + 1) = ovL A lim k ++ if A.getD k 0 > lim.getD k 0 then [(k : Int)] else [] := by
  unfold ovL
  rw [List.range_succ, List.filter_append, List.map_append]
  congr 1
  by_cases h : A.getD k 0 > lim.getD k 0
  · rw [if_pos h, List.filter_cons, if_pos (decide_eq_true h)]; rfl
  · rw [if_neg h, List.filter_cons, if_neg (fun hh => h (of_decide_eq_true hh))]; rfl
theorem ovL_len (A lim : List Int) : ∀ k, (ovL A lim k).length ≤ k
  | 0 => by simp [ovL]
  | k + 1 => by
    have := ovL_len A lim k
    rw [ovL_succ, List.length_append]
    split <;> simp <;> omega
theorem over22_runs (l : List Held) (lim A : List Int) (hA : Runs T 20 [helds l, .int lim.length] (ints A)) (hl : A.length ≤ lim.length) (hm : A.length ≤ 100) : Runs T 22 [helds l, ints lim] (ints (ovL A lim A.length)) := by
  refine .of_tree rfl rfl tr22_eq ?_
  simp only [tr22, wp_call, holds_nil', if_true]
  refine ⟨_, by simpa using hA, ?_⟩
  simp only [wp_brk]
  refine EvP.forRounds A.length (fun k => [.none, .int k]) (fun k => [ints (ovL A lim k)]) ?_ (fun k hk => ?_) ?_
  · simp [ovL, ints]
  · have hw1 : IntKind.i64.wrap ((k : Int) + 1) = (k : Int) + 1 := wrap64_id (by omega)
    have hk' : k < lim.length := by omega
    have hlen := ovL_len A lim k
    simp only [rd22_0_eq, rd22_0, wp_ite, wp_chk, wp_next]
    rw [if_pos (by simp [hk])]
    refine ⟨by simp [hk], by simp [hk'], ?_⟩
    by_cases hc : A.getD k 0 > lim.getD k 0
    · rw [ovL_succ, if_pos hc]
      rw [getD_in hk, getD_in hk'] at hc
      rw [if_pos (by simp [hk, hk']; exact hc)]
      refine ⟨by simp; omega, ?_⟩
      simp [hw1, ints]
    · rw [ovL_succ, if_neg hc]
      rw [getD_in hk, getD_in hk'] at hc
      rw [if_neg (by simp [hk, hk']; omega)]
      simp [hw1, ints]
  · simp [rd22_0_eq, rd22_0]
theorem over23_runs (l : List Held) (lim A : List Int) (hA : Runs T 21 [helds l, .int lim.length] (ints A)) (hl : A.length ≤ lim.length) (hm : A.length ≤ 100) : Runs T 23 [helds l, ints lim] (ints (ovL A lim A.length)) := by
  refine .of_tree rfl rfl tr23_eq ?_
  simp only [tr23, wp_call, holds_nil', if_true]
  refine ⟨_, by simpa using hA, ?_⟩
  simp only [wp_brk]
  refine EvP.forRounds A.length (fun k => [.none, .int k]) (fun k => [ints (ovL A lim k)]) ?_ (fun k hk => ?_) ?_
  · simp [ovL, ints]
  · have hw1 : IntKind.i64.wrap ((k : Int) + 1) = (k : Int) + 1 := wrap64_id (by omega)
    have hk' : k < lim.length := by omega
    have hlen := ovL_len A lim k
    simp only [rd23_0_eq, rd23_0, wp_ite, wp_chk, wp_next]
    rw [if_pos (by simp [hk])]
    refine ⟨by simp [hk], by simp [hk'], ?_⟩
    by_cases hc : A.getD k 0 > lim.getD k 0
    · rw [ovL_succ, if_pos hc]
      rw [getD_in hk, getD_in hk'] at hc
      rw [if_pos (by simp [hk, hk']; exact hc)]
      refine ⟨by simp; omega, ?_⟩
      simp [hw1, ints]
    · rw [ovL_succ, if_neg hc]
      rw [getD_in hk, getD_in hk'] at hc
      rw [if_neg (by simp [hk, hk']; omega)]
      simp [hw1, ints]
  · simp [rd23_0_eq, rd23_0]
set_option maxRecDepth 20000 in
theorem tells_runs (l : List Held) (failed limits : List Int) (n k : Int) (hl : l.length ≤ maxLen) (hg : ∀ h, h ∈ l → h.2.length ≤ maxLen) (hf : failed.length ≤ maxLen) (hlim : limits.length ≤ maxLen) : Runs T 3 [helds l, ints failed, ints limits, .int n, .int k] (.bool true) := by
  refine .of_tree rfl rfl tr3_eq ?_
  simp only [tr3, wp_call, holds_nil', if_true]
  refine ⟨_, sane_runs, ?_⟩
  refine ⟨_, few_runs l hl, ?_⟩
  simp only [wp_ite]
  by_cases hok : fewB l = true ∧ failed.length ≤ 25 ∧ limits.length ≤ 25 ∧ ¬ (10 < n ∧ n ≤ 20)
  case neg =>
    rw [if_pos]
    · simp
    · by_cases hw : fewB l = true
      · simp [hw] at hok ⊢; omega
      · simp [hw]
  obtain ⟨hfew, hf25, hl25, hn⟩ := hok
  rw [if_neg (by simp [hfew]; omega)]
  have hmx : (100 : Nat) ≤ maxLen := by rw [maxLen_eq]; omega
  have hW : ∃ m f e, f.length ≤ 100 ∧ Runs T 13 [helds l, .int n, .int k] (.tup [.int m, ints f, .int e]) ∧ Runs T 14 [helds l, .int n, .int k] (.tup [.int m, ints f, .int e]) := by
    obtain ⟨w1, w2, w3⟩ := worst14_runs l n k hl hg
    rcases worst_runs l n k hl hg with ⟨h, hR⟩ | ⟨h, h6, hR⟩ | ⟨h, h6, m, f, hw, hR⟩
    · exact ⟨0, [], 1, by simp, hR, w1 h⟩
    · exact ⟨0, [], 6, by simp, hR, w2 h h6⟩
    · exact ⟨m, f, 0, by have := hw.2.1; omega, hR, w3 h h6 m f hw⟩
  have hA : ∀ n, ∃ A : List Int, A.length ≤ n.toNat ∧ A.length ≤ 20 ∧ Runs T 20 [helds l, .int n] (ints A) ∧ Runs T 21 [helds l, .int n] (ints A) := fun n => by
    obtain ⟨w1, w2⟩ := alone21_runs l n hl hg
    rcases alone_runs l n hl hg with ⟨h, hR⟩ | ⟨h, hR⟩
    · exact ⟨[], by simp, by simp, hR, w1 h⟩
    · exact ⟨_, by simp, by simp; omega, hR, w2 h⟩
  obtain ⟨m, f, e, hf', hR1, hR2⟩ := hW
  obtain ⟨A, hA1, hA2, hA3, hA4⟩ := hA n
  obtain ⟨B, hB1, hB2, hB3, hB4⟩ := hA limits.length
  have hB1 : B.length ≤ limits.length := by simpa using hB1
  have ho1 := over22_runs l limits B hB3 hB1 (by omega)
  have ho2 := over23_runs l limits B hB4 hB1 (by omega)
  have hol := ovL_len B limits B.length
  simp only [wp_call, holds_nil', if_true]
  refine ⟨_, by simpa using hR1, _, by simpa using hR2, ?_⟩
  rw [if_pos (by simp)]
  refine ⟨_, by simpa using same_runs f f (by omega) (by omega), ?_⟩
  rw [if_pos (by simp)]
  refine ⟨_, by simpa using right_runs l hl hg, ?_⟩
  rw [if_pos (by simp)]
  refine ⟨_, by simpa using right17_runs l hl hg, ?_⟩
  simp only [wp_ite]
  rw [if_neg (by simp)]
  simp only [wp_call]
  rw [if_pos (by simp)]
  refine ⟨_, by simpa using loss18_runs l failed hl hg hf, ?_⟩
  rw [if_pos (by simp)]
  refine ⟨_, by simpa using loss19_runs l failed hl hg hf, ?_⟩
  rw [if_pos (by simp)]
  refine ⟨_, by simpa using hA3, ?_⟩
  rw [if_pos (by simp)]
  refine ⟨_, by simpa using hA4, ?_⟩
  rw [if_pos (by simp)]
  refine ⟨_, by simpa using same_runs A A (by omega) (by omega), ?_⟩
  rw [if_pos (by simp)]
  refine ⟨_, by simpa using ho1, ?_⟩
  rw [if_pos (by simp)]
  refine ⟨_, by simpa using ho2, ?_⟩
  rw [if_pos (by simp)]
  refine ⟨_, by simpa using same_runs (ovL B limits B.length) (ovL B limits B.length) (by omega) (by omega), ?_⟩
  simp
end Expo
