/-
  The reference's round is a round.
-/
import Derived.Test.YtjkeifcibnadcaaEsX
set_option linter.unusedSimpArgs false
set_option linter.unusedVariables false
namespace Esta
open Go Go.Proofs Cx
variable {ws : List Int} {ps : List Pr}

set_option maxHeartbeats 8000000 in
theorem round49_runs {S : Stt} (h : Fine ws ps S) (e left : Int) (hl : 0 ≤ left) (hl2 : left ≤ 1099511627776) : Runs T 49 [ints ws, prs ps, ints (paidL S), .int e, .int left] (ints (paidL (next ws S e left))) := by
  have hlen := h.len
  have h100 := h.low.len
  have hpl : (paidL S).length = S.length := by simp [paidL]
  have hpg : ∀ k (hk : k < S.length), (paidL S)[k]'(by rw [hpl]; exact hk) = S[k].2 := fun k hk => by simp [paidL]
  have hpsg : ∀ k (hk : k < S.length), ps[k]'(by rw [← hlen]; exact hk) = S[k].1 := fun k hk => by have := h.fst; subst this; simp
  have hsum : ∀ x, x ∈ S → 1 ≤ x.1.sum ∧ x.1.sum ≤ 1099511627776 := fun x hx => h.low.sum _ (by rw [← h.fst]; exact List.mem_map_of_mem hx)
  refine .of_tree rfl rfl tr49_eq ?_
  simp [tr49]
  refine ⟨by omega, ?_⟩
  refine EvP.forRounds S.length (fun k => [.int ((S.take k).map fun x => if act ws S e x then x.1.sum else 0).sum, .int k]) (fun _ => []) ?_ (fun k hk => ?_) ?_
  · simp
  · have hw : IntKind.i64.wrap ((k : Int) + 1) = (k : Int) + 1 := wrap64_id (by omega)
    have hk2 : k < ps.length := by omega
    rw [sum_take _ S k hk]
    have hb := sum_bound (f := fun x : Pr × Int => if act ws S e x then x.1.sum else 0) (M := 1099511627776) (l := S.take k) fun x hx => by
      have := hsum x (List.mem_of_mem_take hx); split <;> omega
    have hlt : (S.take k).length ≤ 100 := by rw [List.length_take]; omega
    generalize ((S.take k).map fun x => if act ws S e x then x.1.sum else 0).sum = z at *
    have hsk := hsum S[k] (List.getElem_mem hk)
    have hw2 : IntKind.i64.wrap (z + S[k].1.sum) = z + S[k].1.sum := wrap64_id (by omega)
    by_cases c1 : S[k].1.est = e
    · simp [rd49_0_eq, rd49_0, hk, hk2, hw, hpsg, c1]
      refine ⟨_, lack_runs h k hk, ?_⟩
      by_cases c2 : 0 < lack ws S S[k]
      · simp [hw, hw2, act, c1, c2, hk2, hpsg k hk]
      · simp [hw, act, c1, c2]
    · simp [rd49_0_eq, rd49_0, hk, hk2, hw, hpsg, c1, act]
  simp [rd49_0_eq, rd49_0, hlen]
  have htot : (S.map fun x => if act ws S e x then x.1.sum else 0).sum = total ws S e := rfl
  refine EvP.forRounds S.length (fun k => [.int k]) (fun k => [ints (paidL (upTo ws e left S k))]) ?_ (fun k hk => ?_) ?_
  · simp [upTo_zero, ints]
  · have hw : IntKind.i64.wrap ((k : Int) + 1) = (k : Int) + 1 := wrap64_id (by omega)
    have hk2 : k < ps.length := by omega
    have hsk := hsum S[k] (List.getElem_mem hk)
    have hkb := h.b S[k] (List.getElem_mem hk)
    have hul : (paidL (upTo ws e left S k)).length = S.length := by simp [paidL, upTo_len]
    have hu1 : paidL (upTo ws e left S (k + 1)) = (paidL (upTo ws e left S k)).set k (S[k].2 + pay ws S e left S[k]) := by
      rw [upTo_succ k hk]
      unfold paidL
      rw [List.map_set]
      congr 1
      dsimp only
      rw [upTo_at]; simp
    by_cases c : act ws S e S[k]
    · have ht1 := total_ge h.good (List.getElem_mem hk) c
      have ht2 := total_pos h.good (List.getElem_mem hk) c
      have ht3 := sum_bound (f := fun x : Pr × Int => if act ws S e x then x.1.sum else 0) (M := 1099511627776) (l := S) fun x hx => by
        have := hsum x hx; split <;> omega
      rw [htot] at ht3
      have hpay : pay ws S e left S[k] = min (lack ws S S[k]) (left * S[k].1.sum / total ws S e) := if_pos c
      have hlk := lack_le h.good (List.getElem_mem hk) hsk.2
      have hp0 := pay_nonneg (e := e) h.good hl (List.getElem_mem hk)
      have hp1 := pay_le (e := e) (left := left) h.good (List.getElem_mem hk)
      have hwp : IntKind.i64.wrap (S[k].2 + pay ws S e left S[k]) = S[k].2 + pay ws S e left S[k] := wrap64_id (by omega)
      rw [hu1]
      simp [rd49_1_eq, rd49_1, hk, hk2, hw, hpsg]
      refine ⟨_, lack_runs h k hk, ?_⟩
      simp [c.1, c.2, hk, hk2, hpl, hpg, hpsg k hk, ← hlen, htot]
      have hts : (List.take S.length (List.map (fun x => if act ws S e x then x.1.sum else 0) S)).sum = total ws S e := by
        rw [List.take_of_length_le (by simp)]; exact htot
      rw [hts]
      refine ⟨_, times_int left S[k].1.sum (total ws S e) hl hl2 (by omega) hsk.2 ht1 ht2 (by omega), by omega, ?_⟩
      have hn2 : (if (D.int (left * S[k].1.sum / total ws S e)).i < lack ws S S[k] then (D.int (left * S[k].1.sum / total ws S e)).i else lack ws S S[k]) = pay ws S e left S[k] := by
        rw [hpay]
        simp only [dint_i]
        split <;> omega
      rw [hn2, hwp]
      have hk3 : k < (paidL (upTo ws e left S k)).length := by omega
      rw [List.getElem?_eq_getElem hk3]
      simp [ints]
    · have hp : pay ws S e left S[k] = 0 := if_neg c
      rw [upTo_same k hk hp]
      simp [rd49_1_eq, rd49_1, hk, hk2, hw, hpsg]
      refine ⟨_, lack_runs h k hk, ?_⟩
      by_cases c1 : S[k].1.est = e
      · have c2 : ¬ 0 < lack ws S S[k] := fun hh => c ⟨c1, hh⟩
        simp [c1, c2, hw]
      · simp [c1, hw]
  · rw [upTo_all]
    simp [rd49_1_eq, rd49_1, hlen]

theorem paidL_next_sum (ws : List Int) (e left : Int) (S : Stt) : (paidL (next ws S e left)).sum = (paidL S).sum + paidS ws S e left := by
  unfold paidL next paidS
  rw [List.map_map]
  exact sum_add (fun x : Pr × Int => x.2) (pay ws S e left) S
theorem Fine.next {S : Stt} (h : Fine ws ps S) (e : Int) {left : Int} (hl : 0 ≤ left) : Fine ws ps (next ws S e left) :=
  ⟨h.good.next hl, by rw [← h.fst]; exact (Like.next (e := e)).fst, h.low⟩
theorem Fine.sum50 {S : Stt} (h : Fine ws ps S) : Runs T 50 [ints (paidL S)] (.int (paidL S).sum) := by
  have h100 := h.low.len
  refine sum50_runs _ (by simp [paidL, h.len]; omega) fun x hx => ?_
  obtain ⟨y, hy, rfl⟩ := List.mem_map.1 hx
  exact h.b y hy
theorem Fine.sum_le {S : Stt} (h : Fine ws ps S) : 0 ≤ (paidL S).sum ∧ (paidL S).sum ≤ 109951162777600 := by
  have h100 := h.low.len
  have := sum_bound (f := fun x : Pr × Int => x.2) (M := 1099511627776) (l := S) h.b
  have hl := h.len
  unfold paidL
  omega

set_option maxHeartbeats 8000000 in
theorem share29_runs (es : List Est) (ws : List Int) (ps : List Pr) : Runs T 29 [ests es, ints ws, prs ps]
    (if rightF es ws ps = true then .tup [outs (outL (shareF es ws ps)), .int 0] else .tup [.list [], .int 1]) := by
  refine .of_tree rfl rfl tr29_eq ?_
  simp [tr29]
  refine ⟨_, right32_runs es ws ps, ?_⟩
  cases hr : rightF es ws ps with
  | false => simp
  | true =>
    obtain ⟨f1, f2, f3, f4, f5⟩ := rightF_facts hr
    have h100 := f3.len
    have h50 := f3.wlen
    simp
    refine ⟨by omega, ?_⟩
    refine EvP.forLoop (α := Nat) (fun k vr vo => k ≤ es.length ∧ vr = [ints (paidL (share ws ((es.map (·.pot)).take k) 0 (start ps))), .int k] ∧ vo = []) (fun k => es.length - k) 0 ⟨Nat.zero_le _, by simp [share, paidL, start, ints, Function.comp_def]; exact (List.map_const' ..).symm, by simp⟩ ?_
    rintro k vr vo ⟨hk, rfl, rfl⟩
    by_cases hlt : k < es.length
    · have hw : IntKind.i64.wrap ((k : Int) + 1) = (k : Int) + 1 := wrap64_id (by omega)
      have hpot := f2 es[k] (List.getElem_mem hlt)
      obtain ⟨g1, g2⟩ := share_good ((es.map (·.pot)).take k) 0 f5 fun p hp => by
        obtain ⟨x, hx, rfl⟩ := List.mem_map.1 (List.mem_of_mem_take hp)
        exact (f2 x hx).1
      rw [start_fst] at g2
      have htk : share ws ((es.map (·.pot)).take (k + 1)) 0 (start ps) = (run ws k (es[k].pot.toNat + 1) es[k].pot (share ws ((es.map (·.pot)).take k) 0 (start ps))).2 := by
        have hk' : k < (es.map (·.pot)).length := by simpa using hlt
        rw [List.take_succ_eq_append_getElem hk', share_snoc]
        have : ((es.map (·.pot)).take k).length = k := by rw [List.length_take]; omega
        rw [this]; simp
      have hfin : Fine ws ps (share ws ((es.map (·.pot)).take k) 0 (start ps)) := ⟨g1, g2, f3⟩
      generalize share ws ((es.map (·.pot)).take k) 0 (start ps) = S0 at *
      simp [rd29_1_eq, rd29_1, hlt, hw]
      generalize hR : run ws k (es[k].pot.toNat + 1) es[k].pot S0 = R at *
      refine EvP.forLoop (α := Nat × Int × Stt × Bool) (fun s vr vo => Fine ws ps s.2.2.1 ∧ 0 ≤ s.2.1 ∧ s.2.1 ≤ 1099511627776 ∧ (s.2.2.2 = true → s.2.1 < s.1 ∧ run ws k s.1 s.2.1 s.2.2.1 = R) ∧ (s.2.2.2 = false → s.2.2.1 = R.2) ∧ vr = [ints (paidL s.2.2.1), .int s.2.1, .bool s.2.2.2] ∧ vo = []) (fun s => s.1 + if s.2.2.2 then 1 else 0) (es[k].pot.toNat + 1, es[k].pot, S0, true)
        ⟨hfin, hpot.1, hpot.2, fun _ => ⟨by dsimp only; omega, hR⟩, fun hh => by simp at hh, by simp [hlt], by simp⟩ ?_
      rintro ⟨fuel, left, S, go⟩ vr vo ⟨hS, hl, hl2, hgo, hno, rfl, rfl⟩
      dsimp only at hS hl hl2 hgo hno
      cases go with
      | false =>
        have := hno rfl
        simp [rd29_0_eq, rd29_0]
        exact ⟨k + 1, by omega, by omega, by rw [htk, this], by simp⟩
      | true =>
        obtain ⟨hlt2, hrun⟩ := hgo rfl
        have hn := hS.next (e := k) hl
        have hp0 := paid_nonneg (e := k) hS.good hl
        have hp1 := paid_le (e := k) hS.good hl
        have hs1 := hS.sum_le
        have hs2 := hn.sum_le
        have hsum := paidL_next_sum ws k left S
        have hwd : IntKind.i64.wrap ((paidL (next ws S k left)).sum - (paidL S).sum) = paidS ws S k left := by rw [wrap64_id (by omega)]; omega
        have hwl : IntKind.i64.wrap (left - paidS ws S k left) = left - paidS ws S k left := wrap64_id (by omega)
        simp [rd29_0_eq, rd29_0]
        refine ⟨_, round49_runs hS k left hl hl2, _, hn.sum50, _, hS.sum50, ?_⟩
        simp [hwd, hwl]
        match fuel, hlt2, hrun with
        | 0, hlt2, _ => omega
        | f + 1, hlt2, hrun =>
          simp only [run] at hrun
          by_cases c : paidS ws S k left = 0
          · rw [if_pos c] at hrun
            have hsame := next_same hS.good hl c
            exact ⟨f + 1, left - paidS ws S k left, next ws S k left, .inl ⟨by omega, hn, by omega, by omega, by rw [hsame, ← hrun], rfl, rfl, by omega⟩⟩
          · rw [if_neg c] at hrun
            exact ⟨f, left - paidS ws S k left, next ws S k left, .inr ⟨by omega, hn, by omega, by omega, ⟨by omega, hrun⟩, rfl, rfl, by omega⟩⟩
    · obtain rfl : k = es.length := by omega
      have hta : (es.map (·.pot)).take es.length = es.map (·.pot) := List.take_of_length_le (by simp)
      rw [hta]
      have hf := share_fine hr
      have hlen := hf.len
      change PTwp _ _ (Env.put _ _ [ints (paidL (shareF es ws ps)), _] _ _) _
      generalize shareF es ws ps = st at *
      have hpl : (paidL st).length = st.length := by simp [paidL]
      have hpg : ∀ k (hk : k < st.length), (paidL st)[k]'(by rw [hpl]; exact hk) = st[k].2 := fun k hk => by simp [paidL]
      simp [rd29_1_eq, rd29_1]
      refine EvP.forRounds st.length (fun k => [.none, .int k]) (fun k => [outs ((outL st).take k)]) ?_ (fun k hk => ?_) ?_
      · simp [outs]
      · have hw : IntKind.i64.wrap ((k : Int) + 1) = (k : Int) + 1 := wrap64_id (by omega)
        have hk2 : k < ps.length := by omega
        rw [List.take_succ_eq_append_getElem (by simpa using hk)]
        simp [rd29_2_eq, rd29_2, hk, hk2, hw, hpl, hpg, outs]
        exact ⟨by omega, rfl⟩
      · simp [rd29_2_eq, rd29_2, hlen]
        rw [← hlen, List.take_of_length_le (by simp)]

theorem same15_runs' (l : List Int) (hl : l.length ≤ 100000) : Runs T 15 [ints l, ints l] (.bool true) := by
  refine .of_tree rfl rfl tr15_eq ?_
  simp [tr15]
  refine EvP.forRounds l.length (fun k => [.bool false, .int k]) (fun _ => []) ?_ (fun k hk => ?_) ?_
  · simp
  · have hw : IntKind.i64.wrap ((k : Int) + 1) = (k : Int) + 1 := wrap64_id (by omega)
    simp [rd15_0_eq, rd15_0, hk, hw]
  · simp [rd15_0_eq, rd15_0]

theorem tells7_runs (es : List Est) (ws : List Int) (ps : List Pr) (l : List (Int × Int)) (b : Int) : Runs T 7 [ests es, ints ws, prs ps, outs l, .int b] (.bool true) := by
  refine .of_tree rfl rfl tr7_eq ?_
  obtain ⟨bf, hfew, hfew2⟩ := few_runs es ws ps
  simp [tr7]
  refine ⟨_, sane_runs, _, hfew, ?_⟩
  cases bf with
  | false => simp
  | true =>
  obtain ⟨q1, q2, q3⟩ := hfew2 rfl
  by_cases c : (l.length : Int) ≤ 60
  case neg => simp [c]
  have h1 := share_runs es ws ps
  have h2 := share29_runs es ws ps
  have h3 := right_runs es ws ps
  have h4 := right32_runs es ws ps
  have h5 := received_runs ps l b (by omega) (by omega)
  have h6 := received34_runs ps l b (by omega) (by omega)
  have h7 := left_runs es ps l (by omega) (by omega) (by omega)
  have h8 := left36_runs es ps l (by omega) (by omega) (by omega)
  have h9 := same15_runs' (es.mapIdx fun i x => leftW ps l x.pot i) (by simp; omega)
  simp [c]
  refine ⟨_, h1, _, h2, ?_⟩
  have hso : ∀ m : List (Int × Int), m.length ≤ 100000 → Runs T 30 [outs m, outs m] (.bool true) := sameO_runs
  cases hr : rightF es ws ps with
  | false =>
    have h0 := hso [] (by simp)
    simp [outs] at h0
    rw [hr] at h3 h4
    simp
    refine ⟨_, h0, ?_⟩
    simp
    exact ⟨_, h3, _, h4, by simp; exact ⟨_, h5, _, h6, by simp; exact ⟨_, h7, _, h8, h9⟩⟩⟩
  | true =>
    have h0 := hso (outL (shareF es ws ps)) (by have := (share_fine hr).len; simp; omega)
    rw [hr] at h3 h4
    simp
    refine ⟨_, h0, ?_⟩
    simp
    exact ⟨_, h3, _, h4, by simp; exact ⟨_, h5, _, h6, by simp; exact ⟨_, h7, _, h8, h9⟩⟩⟩
end Esta
