/-
  ExposureGrows.
-/
import Derived.Test.YtjkeifcibnadcaaExD
set_option linter.unusedSimpArgs false
set_option linter.unusedVariables false
namespace Expo
open Go Go.Proofs Cx

set_option maxRecDepth 10000 in
theorem there_loop (ρ : Env) (l : List Held) (j k : Nat) (groups : List Int) (hgr : groups.length ≤ maxLen) (hj : j < l.length) (hk : k < l[j].2.length) (h0 : ρ.r 0 = helds l) (h3 : ρ.r 3 = .int j) (h4 : ρ.r 4 = ints groups) (h17 : ρ.r 17 = .int k) (h18 : ρ.r 18 = .bool false) (h19 : ρ.r 19 = .int 0)
    {Q : Out → Prop} (hQ : ∀ v81 v82 v83 v84, Q (.next (ρ.put [18, 19, 81, 82, 83, 84] [.bool (decide (l[j].2[k] ∈ groups)), .int groups.length, v81, v82, v83, v84] [] []))) : EvP T lp5_0 ρ Q := by
  rw [maxLen_eq] at hgr
  generalize hx : l[j].2[k] = x at hQ
  refine EvP.forRounds groups.length (fun m => [.bool (decide (x ∈ groups.take m)), .int m]) (fun _ => []) ?_ (fun m hm => ?_) ?_
  · simp [h18, h19]
  · have hw1 : IntKind.i64.wrap ((m : Int) + 1) = (m : Int) + 1 := wrap64_id (by omega)
    have e : encH l[j] = .agg [.int l[j].1, ints l[j].2] := rfl
    have hs : (x ∈ groups.take (m + 1)) ↔ (x ∈ groups.take m ∨ x = groups[m]) := by rw [List.take_succ_eq_append_getElem hm, List.mem_append, List.mem_singleton]
    simp [rd5_0_eq, rd5_0, h0, h3, h4, h17, hm, hw1, helds_l, hj, hk, e, hx, hs]
    by_cases hc : x ∈ groups.take m
    · simp [hc]
    · simp [hc]; rw [Bool.eq_iff_iff, decide_eq_true_iff, beq_iff_eq]; exact eq_comm
  · simp [rd5_0_eq, rd5_0, h4]
    exact hQ _ _ _ _

set_option maxRecDepth 10000 in
theorem wider_loop (ρ : Env) (l : List Held) (j : Nat) (groups : List Int) (hgr : groups.length ≤ maxLen) (hj : j < l.length) (hm : l[j].2.length ≤ maxLen) (h0 : ρ.r 0 = helds l) (h3 : ρ.r 3 = .int j) (h4 : ρ.r 4 = ints groups) (h17 : ρ.r 17 = .int 0) (h16 : ρ.r 16 = .bool true)
    {Q : Out → Prop} (hQ : ∀ v17 v71 v72 v73 v74 v75 v76 v77 v78, Q (.next (ρ.put [16, 17, 71, 72, 73, 74, 75, 76, 77, 78] [.bool (l[j].2.all fun x => decide (x ∈ groups)), v17, v71, v72, v73, v74, v75, v76, v77, v78] [] []))) : EvP T lp5_1 ρ Q := by
  rw [maxLen_eq] at hm
  have e : encH l[j] = .agg [.int l[j].1, ints l[j].2] := rfl
  refine EvP.forRounds l[j].2.length (fun m => [.bool ((l[j].2.take m).all fun x => decide (x ∈ groups)), .int m]) (fun _ => []) ?_ (fun k hk => ?_) ?_
  · simp [h16, h17]
  · have hw1 : IntKind.i64.wrap ((k : Int) + 1) = (k : Int) + 1 := wrap64_id (by omega)
    have hs := List.take_succ_eq_append_getElem hk
    simp only [rd5_1_eq, rd5_1, wp_chk, wp_ite, wp_blockS, wp_brk]
    refine ⟨by simp [h0, h3, helds_l, hj], ?_⟩
    rw [if_pos (by simp [h0, h3, helds_l, hj, e, hk])]
    refine there_loop _ l j k groups hgr hj hk (by simp [h0]) (by simp [h3]) (by simp [h4]) (by simp) (by simp) (by simp) (fun _ _ _ _ => ?_)
    simp only [hs, List.all_append]
    cases hc : ((l[j].2.take k).all fun x => decide (x ∈ groups)) <;> simp [hw1]
  · simp [rd5_1_eq, rd5_1, h0, h3, helds_l, hj, e]
    exact hQ _ _ _ _ _ _ _ _ _

theorem ints_snoc (l : List Int) (x : Int) : D.list (l.map D.int ++ [D.int x]) = ints (l ++ [x]) := by simp [ints]
theorem helds_snoc (l : List Held) (x : Held) : D.list (l.map encH ++ [encH x]) = helds (l ++ [x]) := by simp [helds]
set_option maxRecDepth 20000 in
theorem grows_runs (l : List Held) (failed groups : List Int) (more i : Int) (bill : Held) (hl : l.length ≤ maxLen) (hg : ∀ h, h ∈ l → h.2.length ≤ maxLen) (hf : failed.length ≤ maxLen) (hgr : groups.length ≤ maxLen) (hi : I64 i) (hbl : bill.2.length ≤ maxLen) :
    Runs T 5 [helds l, ints failed, .int more, .int i, ints groups, encH bill] (.bool true) := by
  refine .of_tree rfl rfl tr5_eq ?_
  simp only [tr5, wp_call, holds_nil', if_true]
  refine ⟨_, sane_runs, ?_⟩
  refine ⟨_, few_runs l hl, ?_⟩
  cases hfew : fewB l with
  | false => simp
  | true =>
    simp
    refine ⟨_, right_runs l hl hg, ?_⟩
    by_cases hr : Rt l
    case neg => simp [hr]
    simp [hr]
    intro hf25 hg25
    have hl1 := hr.1
    have hpos : ∀ h, h ∈ l → 0 ≤ h.1 := fun h hh => (hr.len hh).2.1
    refine ⟨_, loss18_runs l failed hl hg hf, by omega, by omega, ?_⟩
    rw [ints_snoc]
    have hmaxl : maxLen = 9223372036854775807 := rfl
    refine ⟨_, loss18_runs l (failed ++ [more]) hl hg (by rw [List.length_append]; simp; omega), ?_⟩
    have e1 : lossS l failed ≤ lossS l (failed ++ [more]) := by
      rw [lossS_eq hr, lossS_eq hr]
      exact lossP_le hpos fun x _ h y hy => List.mem_append_left _ (h y hy)
    refine ⟨by simpa using e1, ?_⟩
    have eb : encH bill = .agg [.int bill.1, ints bill.2] := rfl
    have esn : D.list (l.map encH ++ [.agg [.int bill.1, ints bill.2]]) = helds (l ++ [bill]) := helds_snoc l bill
    have tail : ∃ d, Runs (Tab tab ext) 16 [helds (l ++ [bill])] d ∧ (d.b = true → (bill.2.length : Int) ≤ 25 → ∃ d, Runs (Tab tab ext) 18 [helds (l ++ [bill]), ints failed] d ∧
        (if lossS l failed ≤ d.i then D.bool (decide (d.i ≤ IntKind.i64.wrap (lossS l failed + bill.1))) else D.bool false) = D.bool true) := by
      have hl' : (l ++ [bill]).length ≤ maxLen := by rw [List.length_append, hmaxl]; simp; omega
      have hg' : ∀ h, h ∈ l ++ [bill] → h.2.length ≤ maxLen := fun h hh => by
        rcases List.mem_append.1 hh with hh | hh
        · exact hg h hh
        · simp at hh; subst hh; exact hbl
      refine ⟨_, right_runs _ hl' hg', fun hb hb25 => ?_⟩
      have hr' : Rt (l ++ [bill]) := by simpa using hb
      refine ⟨_, loss18_runs _ failed hl' hg' hf, ?_⟩
      have e3 : lossS (l ++ [bill]) failed = lossS l failed + if lostP bill failed then bill.1 else 0 := by
        rw [lossS_eq hr', lossS_eq hr, lossP_snoc]
      have hb0 := (hr'.len (x := bill) (by simp)).2
      have hbd := lossP_bd hr failed
      rw [← lossS_eq hr] at hbd
      have ec : (if lostP bill failed then bill.1 else 0) = 0 ∨ (if lostP bill failed then bill.1 else 0) = bill.1 := by
        by_cases hc : lostP bill failed
        · right; rw [if_pos hc]
        · left; rw [if_neg hc]
      rw [dint_i, e3, wrap64_id (by omega), if_pos (by omega)]
      simp; omega
    by_cases hidx : 0 ≤ i ∧ i < l.length
    · obtain ⟨j, rfl⟩ := Int.eq_ofNat_of_zero_le hidx.1
      have hj : j < l.length := by omega
      rw [if_pos (by simpa [helds_l] using hj)]
      refine ⟨by simp [helds_l]; omega, by simpa [helds_l] using hj, ?_⟩
      refine wider_loop _ l j groups hgr hj (hg _ (List.getElem_mem _)) (by simp) (by simp) (by simp) (by simp) (by simp) (fun _ _ _ _ _ _ _ _ _ => ?_)
      cases hw : (l[j].2.all fun x => decide (x ∈ groups)) with
      | true =>
        have e : encH l[j] = .agg [.int l[j].1, ints l[j].2] := rfl
        have enext : D.list ((l.map encH).set j (.agg [.int l[j].1, ints groups])) = helds (l.set j (l[j].1, groups)) := by simp [helds, encH, List.map_set]
        simp [helds_l, hj, e, spliceD, splice, enext, eb, esn]
        have hlset : (l.set j (l[j].1, groups)).length ≤ maxLen := by simpa using hl
        have hgset : ∀ h, h ∈ l.set j (l[j].1, groups) → h.2.length ≤ maxLen := fun h hh => by
          rcases List.mem_or_eq_of_mem_set hh with hh | hh
          · exact hg h hh
          · subst hh; exact hgr
        refine ⟨_, right_runs _ hlset hgset, ?_⟩
        by_cases hr2 : Rt (l.set j (l[j].1, groups))
        · simp [hr2]
          refine ⟨_, loss18_runs _ failed hlset hgset hf, ?_, by omega, by omega, tail⟩
          rw [dint_i, lossS_eq hr2, lossS_eq hr]
          refine lossP_set hj _ _ rfl (fun hlost x hx => ?_) (hpos _ (List.getElem_mem _))
          have := List.all_eq_true.1 hw x hx
          exact hlost x (by simpa using this)
        · simp [hr2]
          exact ⟨by omega, by omega, tail⟩
      | false =>
        simp [eb, helds_l, esn]
        exact ⟨by omega, by omega, tail⟩
    · rw [if_neg (by simpa [helds_l] using hidx)]
      simp [eb, helds_l, esn]
      exact ⟨by omega, by omega, tail⟩
end Expo
