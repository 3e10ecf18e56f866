/-
  A round.
-/
import Derived.Test.YtjkeifcibnadcaaEsI
set_option linter.unusedSimpArgs false
set_option linter.unusedVariables false
namespace Esta
open Go Go.Proofs Cx

/-- what is asked for, and no more than it -/
structure Low (ws : List Int) (ps : List Pr) : Prop where
  len : ps.length ≤ 100
  wlen : ws.length ≤ 50
  sum : ∀ p, p ∈ ps → 1 ≤ p.sum ∧ p.sum ≤ 1099511627776
  whole : ∀ w, w ∈ ws → 1 ≤ w ∧ w ≤ 1099511627776
  bill : ∀ p, p ∈ ps → 0 ≤ p.bill ∧ p.bill < ws.length

theorem splice3 (a b c x y z : D) : splice [a, b, c] 0 [x, y, z] = [x, y, z] := rfl
theorem sum_bound {α : Type} {f : α → Int} {M : Int} : ∀ {l : List α}, (∀ x, x ∈ l → 0 ≤ f x ∧ f x ≤ M) → 0 ≤ (l.map f).sum ∧ (l.map f).sum ≤ l.length * M
  | [], _ => by simp
  | x :: l, h => by
    have h1 := h x (List.mem_cons_self ..)
    have h2 := sum_bound (l := l) fun y hy => h y (List.mem_cons_of_mem _ hy)
    simp only [List.map_cons, List.sum_cons, List.length_cons]
    have : (((l.length + 1 : Nat) : Int)) * M = l.length * M + M := by rw [Int.natCast_add, Int.add_mul]; omega
    rw [this]; omega
theorem sum_take {α : Type} (f : α → Int) (l : List α) (k : Nat) (hk : k < l.length) : ((l.take (k + 1)).map f).sum = ((l.take k).map f).sum + f l[k] := by
  rw [List.take_succ_eq_append_getElem hk, List.map_append, sum_append']; simp

theorem part_int (a b c : Int) (ha : 0 ≤ a) (ha2 : a ≤ 1099511627776) (hb : 0 ≤ b) (hb2 : b ≤ 1099511627776) (hc : b ≤ c) (hc0 : 0 < c) (hc2 : c < 9223372036854775808) : Runs T 54 [.int a, .int b, .int c] (.int (a * b / c)) := by
  obtain ⟨n, rfl⟩ := Int.eq_ofNat_of_zero_le ha
  obtain ⟨m, rfl⟩ := Int.eq_ofNat_of_zero_le hb
  obtain ⟨k, rfl⟩ := Int.eq_ofNat_of_zero_le (show 0 ≤ c by omega)
  have h1 : n * m / k ≤ n := by
    have : n * m ≤ n * k := Nat.mul_le_mul_left _ (by omega)
    have h2 := Nat.div_le_div_right (c := k) this
    rwa [Nat.mul_div_cancel _ (by omega)] at h2
  have := part_runs n m k (by omega) (by omega) (by omega) (by omega) (by omega) (by omega)
  rw [Int.natCast_ediv, Int.natCast_mul] at this
  exact this

variable {ws : List Int} {st : Stt} {e left : Int}
theorem lack_le (h : Good ws st) {x : Pr × Int} (hx : x ∈ st) (hs : x.1.sum ≤ 1099511627776) : 0 ≤ lack ws st x ∧ lack ws st x ≤ 1099511627776 := by
  have h0 := h.lack hx
  have h1 := h.low x hx
  have : lack ws st x ≤ x.1.sum - x.2 := by unfold lack; omega
  omega

theorem clo_up (h : Good ws st) (hlow : Low ws (st.map (·.1))) (hl : 0 ≤ left) (d5 d7 : D) (k : Nat) (hk : k < st.length) :
    Runs T 48 [.int k, .int (pay ws st e left st[k]), .none, .none, .none, d5, outs (outL (upTo ws e left st k)), d7, ints (rcvL ws (upTo ws e left st k)), .agg [prs (st.map (·.1))]]
      (.tup [.tup [], d5, outs (outL (upTo ws e left st (k + 1))), d7, ints (rcvL ws (upTo ws e left st (k + 1))), .agg [prs (st.map (·.1))]]) := by
  have hk2 : k < (upTo ws e left st k).length := by rw [upTo_len]; exact hk
  have hx : (upTo ws e left st k)[k] = st[k] := by rw [upTo_at]; simp
  have hmem := List.getElem_mem hk
  have hbill := hlow.bill st[k].1 (List.mem_map_of_mem hmem)
  have hsum := hlow.sum st[k].1 (List.mem_map_of_mem hmem)
  have hb : st[k].1.bill = (st[k].1.bill.toNat : Nat) := by omega
  have hbl : st[k].1.bill.toNat < ws.length := by omega
  have h1 := h.low _ hmem
  have h2 := h.high _ hmem
  have h3 := pay_nonneg (e := e) h hl hmem
  have h4 := pay_le (e := e) (left := left) h hmem
  have h5 := lack_le h hmem hsum.2
  have h6 := rcv_upTo_bounds (e := e) h hl k (by omega) _ hbl
  have hw : ws.getD st[k].1.bill.toNat 0 ≤ 1099511627776 := by
    rw [List.getD_eq_getElem?_getD, List.getElem?_eq_getElem hbl]
    exact (hlow.whole _ (List.getElem_mem hbl)).2
  have := clo_runs ws (upTo ws e left st k) k hk2 (pay ws st e left st[k]) st[k].1.bill.toNat (by rw [hx]; exact hb) hbl d5 d7 (by rw [hx]; exact wrap64_id (by omega)) (wrap64_id (by omega))
  rw [upTo_fst, ← upTo_succ k hk] at this
  exact this

set_option maxHeartbeats 8000000 in
theorem round_runs (h : Good ws st) (hlow : Low ws (st.map (·.1))) (hl : 0 ≤ left) (hl2 : left ≤ 1099511627776) (d5 d7 : D) :
    Runs T 47 [.int e, .int left, ints (st.map (lack ws st)), prs (st.map (·.1)), .none, d5, outs (outL st), d7, ints (rcvL ws st), .agg [prs (st.map (·.1))]]
      (.tup [.int (paidS ws st e left), d5, outs (outL (next ws st e left)), d7, ints (rcvL ws (next ws st e left)), .agg [prs (st.map (·.1))]]) := by
  have hlen : st.length ≤ 100 := by simpa using hlow.len
  have hsum : ∀ x, x ∈ st → 1 ≤ x.1.sum ∧ x.1.sum ≤ 1099511627776 := fun x hx => hlow.sum _ (List.mem_map_of_mem hx)
  refine .of_tree rfl rfl tr47_eq ?_
  simp [tr47]
  -- the sum of all that lack something
  refine EvP.forRounds st.length (fun k => [.int ((st.take k).map fun x => if act ws st e x then x.1.sum else 0).sum, .int k]) (fun _ => []) ?_ (fun k hk => ?_) ?_
  · simp
  · have hw : IntKind.i64.wrap ((k : Int) + 1) = (k : Int) + 1 := wrap64_id (by omega)
    rw [sum_take _ st k hk]
    have hb := sum_bound (f := fun x : Pr × Int => if act ws st e x then x.1.sum else 0) (M := 1099511627776) (l := st.take k) fun x hx => by
      have := hsum x (List.mem_of_mem_take hx); split <;> omega
    have hlt : (st.take k).length ≤ 100 := by rw [List.length_take]; omega
    generalize ((st.take k).map fun x => if act ws st e x then x.1.sum else 0).sum = z at *
    have hsk := hsum st[k] (List.getElem_mem hk)
    have hw2 : IntKind.i64.wrap (z + st[k].1.sum) = z + st[k].1.sum := wrap64_id (by omega)
    by_cases c1 : st[k].1.est = e
    · by_cases c2 : 0 < lack ws st st[k]
      · simp [rd47_0_eq, rd47_0, splice3, hk, hw, hw2, act, c1, c2]
      · simp [rd47_0_eq, rd47_0, splice3, hk, hw, hw2, act, c1, c2]
    · simp [rd47_0_eq, rd47_0, splice3, hk, hw, hw2, act, c1]
  simp [rd47_0_eq, rd47_0]
  have htot : (st.map fun x => if act ws st e x then x.1.sum else 0).sum = total ws st e := rfl
  refine EvP.forRounds st.length (fun k => [.int ((st.take k).map (pay ws st e left)).sum, .int k])
    (fun k => [.agg [prs (st.map (·.1))], ints (rcvL ws (upTo ws e left st k)), d7, outs (outL (upTo ws e left st k)), d5]) ?_ (fun k hk => ?_) ?_
  · simp [upTo_zero]
  · have hw : IntKind.i64.wrap ((k : Int) + 1) = (k : Int) + 1 := wrap64_id (by omega)
    rw [sum_take _ st k hk]
    have hsk := hsum st[k] (List.getElem_mem hk)
    have hb := sum_bound (f := pay ws st e left) (M := 1099511627776) (l := st.take k) fun x hx => by
      have hx' := List.mem_of_mem_take hx
      have := pay_le (e := e) (left := left) h hx'
      have := pay_nonneg (e := e) h hl hx'
      have := lack_le h hx' (hsum x hx').2
      omega
    have hlt : (st.take k).length ≤ 100 := by rw [List.length_take]; omega
    generalize ((st.take k).map (pay ws st e left)).sum = z at *
    by_cases c1 : st[k].1.est = e
    · by_cases c2 : 0 < lack ws st st[k]
      · have hact : act ws st e st[k] := ⟨c1, c2⟩
        have ht1 := total_ge h (List.getElem_mem hk) hact
        have ht2 := total_pos h (List.getElem_mem hk) hact
        have ht3 := sum_bound (f := fun x : Pr × Int => if act ws st e x then x.1.sum else 0) (M := 1099511627776) (l := st) fun x hx => by
          have := hsum x hx; split <;> omega
        rw [htot] at ht3
        have hpay : pay ws st e left st[k] = min (lack ws st st[k]) (left * st[k].1.sum / total ws st e) := if_pos hact
        have hlk := lack_le h (List.getElem_mem hk) hsk.2
        have hp0 := pay_nonneg (e := e) h hl (List.getElem_mem hk)
        have hp1 := pay_le (e := e) (left := left) h (List.getElem_mem hk)
        simp [rd47_1_eq, rd47_1, splice3, hk, hw, c1, c2, htot]
        refine ⟨_, part_int left st[k].1.sum (total ws st e) hl hl2 (by omega) hsk.2 ht1 ht2 (by omega), ?_⟩
        have hn : (if (D.int (left * st[k].1.sum / total ws st e)).i < lack ws st st[k] then D.int (left * st[k].1.sum / total ws st e) else D.int (lack ws st st[k])) = D.int (pay ws st e left st[k]) := by
          rw [hpay]
          simp only [dint_i]
          split
          · congr 1; omega
          · congr 1; omega
        have hn2 : (if (D.int (left * st[k].1.sum / total ws st e)).i < lack ws st st[k] then (D.int (left * st[k].1.sum / total ws st e)).i else lack ws st st[k]) = pay ws st e left st[k] := by
          rw [hpay]
          simp only [dint_i]
          split <;> omega
        rw [hn, hn2]
        refine ⟨_, clo_up h hlow hl d5 d7 k hk, ?_⟩
        simp
        exact wrap64_id (by omega)
      · have hp : pay ws st e left st[k] = 0 := if_neg fun ha => c2 ha.2
        rw [upTo_same k hk hp, hp, Int.add_zero]
        simp [rd47_1_eq, rd47_1, splice3, hk, hw, c1, c2]
    · have hp : pay ws st e left st[k] = 0 := if_neg fun ha => c1 ha.1
      rw [upTo_same k hk hp, hp, Int.add_zero]
      simp [rd47_1_eq, rd47_1, splice3, hk, hw, c1]
  · rw [upTo_all]
    simp [rd47_1_eq, rd47_1, paidS]
end Esta
