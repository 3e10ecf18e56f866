/-
  Share.
-/
import Derived.Test.YtjkeifcibnadcaaEsJ
set_option linter.unusedSimpArgs false
set_option linter.unusedVariables false
namespace Esta
open Go Go.Proofs Cx

theorem rightF_facts {es : List Est} {ws : List Int} {ps : List Pr} (h : rightF es ws ps = true) :
    es.length ≤ 10 ∧ (∀ x, x ∈ es → 0 ≤ x.pot ∧ x.pot ≤ 1099511627776) ∧ Low ws ps ∧ (∀ p, p ∈ ps → 0 ≤ p.est ∧ p.est < es.length) ∧ Good ws (start ps) := by
  unfold rightF at h
  simp only [Bool.and_eq_true, decide_eq_true_eq, List.all_eq_true, inn_iff] at h
  obtain ⟨⟨⟨⟨⟨h1, h2⟩, h3⟩, h4⟩, h5⟩, h6⟩ := h
  have key : ∀ k (hk : k < ps.length), (0 ≤ ps[k].bill ∧ ps[k].bill ≤ ws.length - 1) ∧ (0 ≤ ps[k].est ∧ ps[k].est ≤ es.length - 1) ∧ (ps.take k).any (same ps[k]) = false ∧ (1 ≤ ps[k].sum ∧ ps[k].sum ≤ ws.getD ps[k].bill.toNat 0) := by
    intro k hk
    have := h6 k (List.mem_range.2 hk)
    simp only [okP, Bool.and_eq_true, Bool.not_eq_true', inn_iff] at this
    have hg : ps.getD k default = ps[k] := by simp [hk]
    rw [hg] at this
    exact ⟨this.1.1.1, this.1.1.2, this.1.2, this.2⟩
  have hw : ∀ p, p ∈ ps → (0 ≤ p.bill ∧ p.bill ≤ ws.length - 1) ∧ (0 ≤ p.est ∧ p.est ≤ es.length - 1) ∧ 1 ≤ p.sum ∧ p.sum ≤ 1099511627776 := by
    intro p hp
    obtain ⟨k, hk, rfl⟩ := List.getElem_of_mem hp
    obtain ⟨a, b, c, d⟩ := key k hk
    have hb : ps[k].bill.toNat < ws.length := by omega
    have : ws.getD ps[k].bill.toNat 0 ≤ 1099511627776 := by
      rw [List.getD_eq_getElem?_getD, List.getElem?_eq_getElem hb]
      exact (h5 _ (List.getElem_mem hb)).2
    exact ⟨a, b, d.1, by omega⟩
  refine ⟨h1, h4, ⟨h3, h2, fun p hp => (hw p hp).2.2, h5, fun p hp => ?_⟩, fun p hp => ?_, ?_⟩
  · have := hw p hp; omega
  · have := hw p hp; omega
  · refine ⟨?_, fun x hx => ?_, fun x hx => ?_, fun x hx => ?_, fun x hx => ?_, fun b hb => ?_⟩
    · unfold Once start
      rw [List.pairwise_map, List.pairwise_iff_getElem]
      intro i j hi hj hij
      dsimp only
      rintro ⟨a, b⟩
      have := (key j hj).2.2.1
      rw [List.any_eq_false] at this
      refine this ps[i] ?_ ?_
      · rw [List.mem_take_iff_getElem]; exact ⟨i, by omega, rfl⟩
      · simp [same, a, b]
    all_goals try (obtain ⟨p, hp, rfl⟩ := List.mem_map.1 hx; have := hw p hp; dsimp only; omega)
    have h0 : rcv (start ps) b = 0 := by
      unfold rcv start
      rw [List.map_map, sum_congr (g := fun _ => 0) fun x _ => by simp]
      exact sum_zero ps
    rw [h0, List.getD_eq_getElem?_getD, List.getElem?_eq_getElem hb]
    have := h5 _ (List.getElem_mem hb)
    simp only [Option.getD_some]; omega
theorem start_fst (ps : List Pr) : (start ps).map (·.1) = ps := by unfold start; rw [List.map_map]; exact List.map_id _

variable {ws : List Int} {st : Stt} {e left : Int}
theorem next_same (h : Good ws st) (hl : 0 ≤ left) (h0 : paidS ws st e left = 0) : next ws st e left = st := by
  have : ∀ x, x ∈ st → pay ws st e left x = 0 := fun x hx => by
    have h1 := le_sum (f := pay ws st e left) (l := st) (fun y hy => pay_nonneg h hl hy) x hx
    have h2 := pay_nonneg (e := e) h hl hx
    have h3 : (st.map (pay ws st e left)).sum = 0 := h0
    omega
  unfold next
  have : st.map (fun x => (x.1, x.2 + pay ws st e left x)) = st.map id := List.map_congr_left fun x hx => by rw [this x hx]; simp
  rw [this, List.map_id]
theorem share_snoc (ws : List Int) : ∀ (l : List Int) (p e : Int) (st : Stt), share ws (l ++ [p]) e st = (run ws (e + l.length) (p.toNat + 1) p (share ws l e st)).2
  | [], p, e, st => by simp [share]
  | q :: l, p, e, st => by
    simp only [List.cons_append, share, List.length_cons]
    rw [share_snoc ws l p (e + 1)]
    have : e + 1 + (l.length : Int) = e + ((l.length + 1 : Nat) : Int) := by omega
    rw [this]
theorem share_good : ∀ (l : List Int) (e : Int) {st : Stt}, Good ws st → (∀ p, p ∈ l → 0 ≤ p) → Good ws (share ws l e st) ∧ (share ws l e st).map (·.1) = st.map (·.1)
  | [], e, st, h, _ => ⟨h, rfl⟩
  | p :: l, e, st, h, hp => by
    have h0 := hp p (List.mem_cons_self ..)
    obtain ⟨g1, g2, g3, g4, g5, g6⟩ := run_ok e (p.toNat + 1) h h0 (by omega)
    obtain ⟨k1, k2⟩ := share_good l (e + 1) g1 fun q hq => hp q (List.mem_cons_of_mem _ hq)
    exact ⟨k1, k2.trans g4.fst⟩

/-- what each lacks, as a row that is filled -/
def lackTo (ws : List Int) (st : Stt) (k : Nat) : List Int := st.mapIdx fun i x => if i < k then lack ws st x else 0
theorem lackTo_zero : lackTo ws st 0 = List.replicate st.length 0 := by
  apply List.ext_getElem
  · simp [lackTo]
  · intro i h1 h2; simp [lackTo]
theorem lackTo_all : lackTo ws st st.length = st.map (lack ws st) := by
  apply List.ext_getElem
  · simp [lackTo]
  · intro i h1 h2
    have : i < st.length := by simpa [lackTo] using h1
    simp [lackTo, this]
theorem lackTo_len (k : Nat) : (lackTo ws st k).length = st.length := by simp [lackTo]
theorem lackTo_succ (k : Nat) (hk : k < st.length) : lackTo ws st (k + 1) = (lackTo ws st k).set k (lack ws st st[k]) := by
  apply List.ext_getElem
  · simp [lackTo]
  · intro i h1 h2
    rw [List.getElem_set]
    simp only [lackTo, List.getElem_mapIdx]
    by_cases h : k = i
    · subst h; simp
    · by_cases h3 : i < k
      · have : i < k + 1 := by omega
        simp [h, h3, this]
      · have : ¬ i < k + 1 := by omega
        simp [h, h3, this]

set_option maxHeartbeats 8000000 in
/-- a whole estate -/
theorem loop2_ok (ps : List Pr) (hlow : Low ws ps) (k : Nat) (left0 : Int) (st0 : Stt) (hg0 : Good ws st0) (hf0 : st0.map (·.1) = ps) (hl0 : 0 ≤ left0) (hl1 : left0 ≤ 1099511627776)
    (ρ : Env) (d8 d10 : D) (h1 : ρ.r 1 = ints ws) (h11 : ρ.r 11 = .int k) (h13 : ρ.r 13 = .int left0) (o8 : ρ.o 8 = d8) (o4104 : ρ.o 4104 = outs (outL st0)) (o10 : ρ.o 10 = d10) (o4106 : ρ.o 4106 = ints (rcvL ws st0)) (o5 : ρ.o 5 = .agg [prs ps])
    (K : Env → Prop) (Q : Out → Prop)
    (hK : ∀ ρ' : Env, ∀ d8 d10, ρ'.o 8 = d8 → ρ'.o 4104 = outs (outL (run ws k (left0.toNat + 1) left0 st0).2) → ρ'.o 10 = d10 → ρ'.o 4106 = ints (rcvL ws (run ws k (left0.toNat + 1) left0 st0).2) → ρ'.o 5 = .agg [prs ps] → K ρ') : EvP T lp28_2 ρ (seqQ K Q) := by
  generalize hR : run ws k (left0.toNat + 1) left0 st0 = R at *
  refine EvP.forLoop (α := Nat × Int × Stt) (fun s vr vo => Good ws s.2.2 ∧ s.2.2.map (·.1) = ps ∧ 0 ≤ s.2.1 ∧ s.2.1 ≤ 1099511627776 ∧ s.2.1 < s.1 ∧ run ws k s.1 s.2.1 s.2.2 = R ∧ vr = [.int s.2.1] ∧ ∃ d8 d10, vo = [d8, outs (outL s.2.2), d10, ints (rcvL ws s.2.2), .agg [prs ps]]) (fun s => s.1) (left0.toNat + 1, left0, st0)
    ⟨hg0, hf0, hl0, hl1, by dsimp only; omega, hR, by simp [h13], d8, d10, by simp [o8, o4104, o10, o4106, o5]⟩ ?_
  rintro ⟨fuel, left, st⟩ vr vo ⟨hg, hf, hl, hl2, hlt, hrun, rfl, e8, e10, rfl⟩
  dsimp only at hg hf hl hl2 hlt hrun
  have hlen : ps.length = st.length := by rw [← hf]; simp
  have hlow' : Low ws (st.map (·.1)) := by rw [hf]; exact hlow
  have h100 := hlow.len
  have h50 := hlow.wlen
  match fuel, hlt, hrun with
  | 0, hlt, _ => omega
  | fuel + 1, hlt, hrun =>
    simp [rd28_2_eq, rd28_2]
    refine ⟨by omega, ?_⟩
    refine EvP.forRounds st.length (fun j => [.int j]) (fun j => [ints (lackTo ws st j)]) ?_ (fun j hj => ?_) ?_
    · simp [lackTo_zero, hlen, ints]
    · have hw : IntKind.i64.wrap ((j : Int) + 1) = (j : Int) + 1 := wrap64_id (by omega)
      rw [lackTo_succ j hj]
      have hj' : j < ps.length := by omega
      have hpj : ps[j] = st[j].1 := by subst hf; simp
      have hb := hlow.bill ps[j] (List.getElem_mem hj')
      have hs := hlow.sum ps[j] (List.getElem_mem hj')
      rw [hpj] at hb hs
      have hbl : st[j].1.bill.toNat < ws.length := by omega
      have hmem := List.getElem_mem hj
      have g1 := hg.low _ hmem
      have g2 := hg.high _ hmem
      have g3 := rcv_nonneg hg st[j].1.bill
      have g4 := hg.rcv _ hbl
      have hbe : ((st[j].1.bill.toNat : Nat) : Int) = st[j].1.bill := by omega
      rw [hbe] at g4
      have hwb : ws.getD st[j].1.bill.toNat 0 ≤ 1099511627776 := by
        rw [List.getD_eq_getElem?_getD, List.getElem?_eq_getElem hbl]
        exact (hlow.whole _ (List.getElem_mem hbl)).2
      have hwg : ws[st[j].1.bill.toNat] = ws.getD st[j].1.bill.toNat 0 := by simp [hbl]
      simp [rd28_1_eq, rd28_1, splice3, hj, hj', hw, hpj, h1, hbl, lackTo_len]
      have hmx : max st[j].1.bill 0 = st[j].1.bill := by omega
      have wA : IntKind.i64.wrap (ws.getD st[j].1.bill.toNat 0 - rcv st st[j].1.bill) = ws.getD st[j].1.bill.toNat 0 - rcv st st[j].1.bill := wrap64_id (by omega)
      have wB : IntKind.i64.wrap (st[j].1.sum - st[j].2) = st[j].1.sum - st[j].2 := wrap64_id (by omega)
      have hif : (if ws.getD st[j].1.bill.toNat 0 - rcv st st[j].1.bill < st[j].1.sum - st[j].2 then D.int (ws.getD st[j].1.bill.toNat 0 - rcv st st[j].1.bill) else D.int (st[j].1.sum - st[j].2)) = D.int (lack ws st st[j]) := by
        unfold lack
        split
        · congr 1; omega
        · congr 1; omega
      rw [hmx, hwg, wA, wB, hif]
      refine ⟨hb, ?_⟩
      simp [ints]
    · rw [lackTo_all]
      simp [rd28_1_eq, rd28_1, hlen, h11]
      have hrr := round_runs (e := k) hg hlow' hl hl2 e8 e10
      rw [hf] at hrr
      refine ⟨_, hrr, ?_⟩
      have hp0 := paid_nonneg (e := k) hg hl
      have hp1 := paid_le (e := k) hg hl
      have hnx := hg.next (e := k) hl
      simp only [run] at hrun
      by_cases c : paidS ws st k left = 0
      · rw [if_pos c] at hrun
        rw [next_same hg hl c]
        subst hrun
        simp [c]
        exact hK _ e8 e10 (by simp) (by simp) (by simp) (by simp) (by simp)
      · rw [if_neg c] at hrun
        have hw : IntKind.i64.wrap (left - paidS ws st k left) = left - paidS ws st k left := wrap64_id (by omega)
        have hnf : (next ws st k left).map (·.1) = ps := by rw [← hf]; exact Like.next.fst
        simp [c, hw]
        exact ⟨fuel, by omega, _, _, hnx, hnf, by omega, by omega, by omega, hrun, rfl, rfl, rfl⟩

theorem wo5 (n : Nat) (h : n ≤ 4294967296) : (n : Int) ≤ 4294967296 := by omega
theorem outL_start (ps : List Pr) : outL (start ps) = (List.range ps.length).map fun (i : Nat) => ((i : Int), (0 : Int)) := by
  apply List.ext_getElem
  · simp [outL, start]
  · intro i h1 h2; simp [outL, start]
theorem rcvL_start (ws : List Int) (ps : List Pr) : rcvL ws (start ps) = List.replicate ws.length 0 := by
  apply List.ext_getElem
  · simp
  · intro i h1 h2
    simp only [rcvL_get, List.getElem_replicate]
    unfold rcv start
    rw [List.map_map, sum_congr (g := fun _ => 0) fun x _ => by simp]
    exact sum_zero ps

def shareF (es : List Est) (ws : List Int) (ps : List Pr) : Stt := share ws (es.map (·.pot)) 0 (start ps)
set_option maxHeartbeats 8000000 in
theorem share_runs (es : List Est) (ws : List Int) (ps : List Pr) : Runs T 28 [ests es, ints ws, prs ps]
    (if rightF es ws ps = true then .tup [outs (outL (shareF es ws ps)), .int 0] else .tup [.list [], .int 1]) := by
  refine .of_tree rfl rfl tr28_eq ?_
  simp [tr28]
  refine ⟨_, right_runs es ws ps, ?_⟩
  cases hr : rightF es ws ps with
  | false => simp
  | true =>
    obtain ⟨f1, f2, f3, f4, f5⟩ := rightF_facts hr
    have h100 := f3.len
    have h50 := f3.wlen
    simp
    refine EvP.forLoop (α := Nat) (fun k vr vo => k ≤ ps.length ∧ vr = [.int k] ∧ ∃ d, vo = [outs ((List.range k).map fun (i : Nat) => ((i : Int), (0 : Int))), d]) (fun k => ps.length - k) 0 ⟨Nat.zero_le _, by simp, _, by simp [outs]; rfl⟩ ?_
    rintro k vr vo ⟨hk, rfl, d8, rfl⟩
    by_cases hlt : k < ps.length
    · have hw : IntKind.i64.wrap ((k : Int) + 1) = (k : Int) + 1 := wrap64_id (by omega)
      simp [rd28_0_eq, rd28_0, hlt, hw]
      refine ⟨by omega, k + 1, by omega, by omega, by simp, ?_⟩
      rw [List.range_succ]
      simp [outs, encO]
    · obtain rfl : k = ps.length := by omega
      simp [rd28_0_eq, rd28_0]
      refine ⟨by omega, ?_⟩
      refine EvP.forLoop (α := Nat) (fun k vr vo => k ≤ es.length ∧ vr = [.int k] ∧ ∃ d8 d10, vo = [.agg [prs ps], ints (rcvL ws (share ws ((es.map (·.pot)).take k) 0 (start ps))), d10, outs (outL (share ws ((es.map (·.pot)).take k) 0 (start ps))), d8]) (fun k => es.length - k) 0 ⟨Nat.zero_le _, by simp, _, _, by simp [share, outL_start, rcvL_start, ints]; exact ⟨rfl, rfl⟩⟩ ?_
      rintro k vr vo ⟨hk, rfl, e8, e10, rfl⟩
      by_cases hlt : k < es.length
      · have hw : IntKind.i64.wrap ((k : Int) + 1) = (k : Int) + 1 := wrap64_id (by omega)
        have hpot := f2 es[k] (List.getElem_mem hlt)
        obtain ⟨g1, g2⟩ := share_good ((es.map (·.pot)).take k) 0 f5 fun p hp => by
          obtain ⟨x, hx, rfl⟩ := List.mem_map.1 (List.mem_of_mem_take hp)
          exact (f2 x hx).1
        rw [start_fst] at g2
        have htk : share ws ((es.map (·.pot)).take (k + 1)) 0 (start ps) = (run ws k (es[k].pot.toNat + 1) es[k].pot (share ws ((es.map (·.pot)).take k) 0 (start ps))).2 := by
          have hk' : k < (es.map (·.pot)).length := by simpa using hlt
          rw [List.take_succ_eq_append_getElem hk', share_snoc]
          have : ((es.map (·.pot)).take k).length = k := by rw [List.length_take]; omega
          rw [this]; simp
        simp [rd28_3_eq, rd28_3, hlt, hw]
        refine loop2_ok ps f3 k es[k].pot _ g1 g2 hpot.1 hpot.2 _ e8 e10 (by simp) (by simp) (by simp [hlt]) (by simp) (by simp) (by simp) (by simp) (by simp) _ _ fun σ d8 d10 k8 k4104 k10 k4106 k5 => ?_
        exact ⟨k + 1, by omega, by omega, by simp, k5, by rw [htk]; exact k4106, by rw [htk]; exact k4104⟩
      · obtain rfl : k = es.length := by omega
        have hta : (es.map (·.pot)).take es.length = es.map (·.pot) := List.take_of_length_le (by simp)
        simp [rd28_3_eq, rd28_3, hta, shareF]
        try trace_state
end Esta
