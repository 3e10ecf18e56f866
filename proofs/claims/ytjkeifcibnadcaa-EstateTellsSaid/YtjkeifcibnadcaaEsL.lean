/-
  Received, Left, paid.
-/
import Derived.Test.YtjkeifcibnadcaaEsK
set_option linter.unusedSimpArgs false
set_option linter.unusedVariables false
namespace Esta
open Go Go.Proofs Cx

def hits (ps : List Pr) (x : Int × Int) (f : Pr → Int) (b : Int) : Bool := inn x.1 0 (ps.length - 1) && decide (f (ps.getD x.1.toNat default) = b)
def recvW (ps : List Pr) (l : List (Int × Int)) (b : Int) : Int := l.foldl (fun a x => if hits ps x (·.bill) b then IntKind.i64.wrap (a + x.2) else a) 0
def leftW (ps : List Pr) (l : List (Int × Int)) (pot : Int) (b : Int) : Int := l.foldl (fun a x => if hits ps x (·.est) b then IntKind.i64.wrap (a - x.2) else a) pot
theorem foldl_take {α β : Type} (f : β → α → β) (z : β) (l : List α) (k : Nat) (hk : k < l.length) : (l.take (k + 1)).foldl f z = f ((l.take k).foldl f z) l[k] := by
  rw [List.take_succ_eq_append_getElem hk, List.foldl_append]; rfl

theorem few_runs (es : List Est) (ws : List Int) (ps : List Pr) : ∃ b, Runs T 27 [ests es, ints ws, prs ps] (.bool b) ∧ (b = true → es.length ≤ 12 ∧ ws.length ≤ 60 ∧ ps.length ≤ 120) := by
  refine ⟨decide (es.length ≤ 12) && decide (ws.length ≤ 60) && (decide (ps.length ≤ 30) || (decide (100 < ps.length) && decide (ps.length < 120))), .of_tree rfl rfl tr27_eq ?_, fun h => ?_⟩
  · by_cases c1 : es.length ≤ 12 <;> by_cases c2 : ws.length ≤ 60 <;> by_cases c3 : ps.length ≤ 30 <;> by_cases c4 : 100 < ps.length
    all_goals
      have d1 : (es.length : Int) ≤ 12 ↔ es.length ≤ 12 := by omega
      have d2 : (ws.length : Int) ≤ 60 ↔ ws.length ≤ 60 := by omega
      have d3 : (ps.length : Int) ≤ 30 ↔ ps.length ≤ 30 := by omega
      have d4 : (100 : Int) < ps.length ↔ 100 < ps.length := by omega
      have d5 : (ps.length : Int) < 120 ↔ ps.length < 120 := by omega
      simp [tr27, d1, d2, d3, d4, d5, c1, c2, c3, c4]
  · simp at h; omega

theorem received_runs (ps : List Pr) (l : List (Int × Int)) (b : Int) (hp : ps.length ≤ 1000) (hl : l.length ≤ 1000000) : Runs T 33 [prs ps, outs l, .int b] (.int (recvW ps l b)) := by
  refine .of_tree rfl rfl tr33_eq ?_
  simp [tr33]
  refine EvP.forRounds l.length (fun k => [.int (recvW ps (l.take k) b), .int k]) (fun k => []) ?_ (fun k hk => ?_) ?_
  · simp [recvW]
  · have hw : IntKind.i64.wrap ((k : Int) + 1) = (k : Int) + 1 := wrap64_id (by omega)
    have hs : recvW ps (l.take (k + 1)) b = if hits ps l[k] (·.bill) b then IntKind.i64.wrap (recvW ps (l.take k) b + l[k].2) else recvW ps (l.take k) b := foldl_take _ _ l k hk
    rw [hs]
    generalize recvW ps (l.take k) b = z
    generalize hx : l[k] = x
    simp [rd33_0_eq, rd33_0, hk, hw, hx, wrapm1 _ (show ps.length ≤ 1000000 by omega)]
    refine ⟨_, in_runs _ _ _, ?_⟩
    unfold hits
    cases h : inn x.1 0 (ps.length - 1) with
    | false => simp [hw]
    | true =>
      have h' := inn_iff.1 h
      have hb : x.1.toNat < ps.length := by omega
      by_cases c : ps[x.1.toNat].bill = b <;> simp [hw, hb, c]
      all_goals omega
  · simp [rd33_0_eq, rd33_0]

theorem left_runs (es : List Est) (ps : List Pr) (l : List (Int × Int)) (he : es.length ≤ 1000) (hp : ps.length ≤ 1000) (hl : l.length ≤ 1000000) : Runs T 35 [ests es, prs ps, outs l] (ints (es.mapIdx fun i x => leftW ps l x.pot i)) := by
  refine .of_tree rfl rfl tr35_eq ?_
  simp [tr35]
  refine ⟨by omega, ?_⟩
  refine EvP.forRounds es.length (fun k => [.int k]) (fun k => [ints (es.mapIdx fun i x => if i < k then leftW ps l x.pot i else 0)]) ?_ (fun k hk => ?_) ?_
  · have : (es.mapIdx fun i x => if i < 0 then leftW ps l x.pot i else 0) = List.replicate es.length 0 := by
      apply List.ext_getElem
      · simp
      · intro i h1 h2; simp
    rw [this]; simp [ints]
  · have hw : IntKind.i64.wrap ((k : Int) + 1) = (k : Int) + 1 := wrap64_id (by omega)
    simp [rd35_1_eq, rd35_1, splice3, hk, hw]
    refine EvP.forRounds l.length (fun j => [.int j]) (fun j => [ints ((es.mapIdx fun i x => if i < k then leftW ps l x.pot i else 0).set k (leftW ps (l.take j) es[k].pot k))]) ?_ (fun j hj => ?_) ?_
    · simp [leftW, ints, hk]
    · have hwj : IntKind.i64.wrap ((j : Int) + 1) = (j : Int) + 1 := wrap64_id (by omega)
      have hs : leftW ps (l.take (j + 1)) es[k].pot k = if hits ps l[j] (·.est) k then IntKind.i64.wrap (leftW ps (l.take j) es[k].pot k - l[j].2) else leftW ps (l.take j) es[k].pot k := foldl_take _ _ l j hj
      rw [hs]
      generalize leftW ps (l.take j) es[k].pot k = z
      generalize hx : l[j] = x
      simp [rd35_0_eq, rd35_0, hj, hwj, hx, wrapm1 _ (show ps.length ≤ 1000000 by omega)]
      refine ⟨_, in_runs _ _ _, ?_⟩
      unfold hits
      cases h : inn x.1 0 (ps.length - 1) with
      | false => simp [hwj]
      | true =>
        have h' := inn_iff.1 h
        have hb : x.1.toNat < ps.length := by omega
        by_cases c : ps[x.1.toNat].est = k <;> simp [hwj, hb, hk, c]
        · exact ⟨by omega, by simp [ints]⟩
        · omega
    · rw [List.take_length]
      simp [rd35_0_eq, rd35_0]
      refine congrArg ints ?_
      apply List.ext_getElem
      · simp
      · intro i h1 h2
        rw [List.getElem_set]
        simp only [List.getElem_mapIdx]
        by_cases h : k = i
        · subst h; simp
        · by_cases h3 : i < k
          · have : i < k + 1 := by omega
            simp [h, h3, this]
          · have : ¬ i < k + 1 := by omega
            simp [h, h3, this]
  · have : (es.mapIdx fun i x => if i < es.length then leftW ps l x.pot i else 0) = es.mapIdx fun i x => leftW ps l x.pot i := by
      apply List.ext_getElem
      · simp
      · intro i h1 h2
        have : i < es.length := by simpa using h1
        simp [this]
    rw [this]
    simp [rd35_1_eq, rd35_1]

/-! what comes of a share -/
theorem get_fst {st : Stt} {ps : List Pr} (hf : st.map (·.1) = ps) {k : Nat} (hk : k < st.length) : ps.getD k default = st[k].1 := by
  subst hf; simp [hk]
theorem hits_out {st : Stt} {ps : List Pr} (hf : st.map (·.1) = ps) (f : Pr → Int) (b : Int) {k : Nat} (hk : k < st.length) : hits ps ((k : Int), st[k].2) f b = decide (f st[k].1 = b) := by
  unfold hits
  have hl : ps.length = st.length := by subst hf; simp
  have h1 : inn (k : Int) 0 (ps.length - 1) = true := inn_iff.2 (by omega)
  have h2 : ps.getD (k : Int).toNat default = st[k].1 := by rw [Int.toNat_natCast]; exact get_fst hf hk
  dsimp only
  rw [h1, h2]; rfl
theorem fold_add {st : Stt} {ps : List Pr} (hf : st.map (·.1) = ps) (f : Pr → Int) (b : Int) (hb : ∀ x, x ∈ st → 0 ≤ x.2 ∧ x.2 ≤ 1099511627776) (hl : st.length ≤ 1000) : ∀ k, k ≤ st.length →
    ((outL st).take k).foldl (fun a x => if hits ps x f b then IntKind.i64.wrap (a + x.2) else a) 0 = ((st.take k).map fun x => if f x.1 = b then x.2 else 0).sum
  | 0, _ => by simp
  | k + 1, hk => by
    have ih := fold_add hf f b hb hl k (by omega)
    rw [foldl_take _ _ _ k (by simp; omega), ih, sum_take _ st k (by omega), outL_get, hits_out hf f b (by omega)]
    have h1 := sum_bound (f := fun x : Pr × Int => if f x.1 = b then x.2 else 0) (M := 1099511627776) (l := st.take k) fun x hx => by
      have := hb x (List.mem_of_mem_take hx); split <;> omega
    have h2 : (st.take k).length ≤ 1000 := by rw [List.length_take]; omega
    have h3 := hb st[k] (List.getElem_mem (by omega))
    generalize ((st.take k).map fun x => if f x.1 = b then x.2 else 0).sum = z at *
    by_cases c : f st[k].1 = b
    · simp [c]; exact wrap64_id (by omega)
    · simp [c]
theorem fold_sub {st : Stt} {ps : List Pr} (hf : st.map (·.1) = ps) (f : Pr → Int) (b pot : Int) (hp : 0 ≤ pot ∧ pot ≤ 1099511627776) (hb : ∀ x, x ∈ st → 0 ≤ x.2 ∧ x.2 ≤ 1099511627776) (hl : st.length ≤ 1000) : ∀ k, k ≤ st.length →
    ((outL st).take k).foldl (fun a x => if hits ps x f b then IntKind.i64.wrap (a - x.2) else a) pot = pot - ((st.take k).map fun x => if f x.1 = b then x.2 else 0).sum
  | 0, _ => by simp
  | k + 1, hk => by
    have ih := fold_sub hf f b pot hp hb hl k (by omega)
    rw [foldl_take _ _ _ k (by simp; omega), ih, sum_take _ st k (by omega), outL_get, hits_out hf f b (by omega)]
    have h1 := sum_bound (f := fun x : Pr × Int => if f x.1 = b then x.2 else 0) (M := 1099511627776) (l := st.take k) fun x hx => by
      have := hb x (List.mem_of_mem_take hx); split <;> omega
    have h2 : (st.take k).length ≤ 1000 := by rw [List.length_take]; omega
    have h3 := hb st[k] (List.getElem_mem (by omega))
    generalize ((st.take k).map fun x => if f x.1 = b then x.2 else 0).sum = z at *
    by_cases c : f st[k].1 = b
    · simp [c]; rw [wrap64_id (by omega)]; omega
    · simp [c]
structure Fine (ws : List Int) (ps : List Pr) (st : Stt) : Prop where
  good : Good ws st
  fst : st.map (·.1) = ps
  low : Low ws ps
theorem Fine.b {ws : List Int} {ps : List Pr} {st : Stt} (h : Fine ws ps st) : ∀ x, x ∈ st → 0 ≤ x.2 ∧ x.2 ≤ 1099511627776 := fun x hx => by
  have h1 := h.good.low x hx
  have h2 := h.good.high x hx
  have h3 := h.low.sum x.1 (by rw [← h.fst]; exact List.mem_map_of_mem hx)
  omega
theorem Fine.len {ws : List Int} {ps : List Pr} {st : Stt} (h : Fine ws ps st) : st.length = ps.length := by rw [← h.fst]; simp
theorem recv_out {ws : List Int} {ps : List Pr} {st : Stt} (h : Fine ws ps st) (b : Int) : recvW ps (outL st) b = rcv st b := by
  have h100 := h.low.len
  have := fold_add h.fst (·.bill) b h.b (by rw [h.len]; omega) st.length (by omega)
  rw [List.take_length, List.take_of_length_le (by simp)] at this
  exact this
theorem left_out {ws : List Int} {ps : List Pr} {st : Stt} (h : Fine ws ps st) (pot b : Int) (hp : 0 ≤ pot ∧ pot ≤ 1099511627776) : leftW ps (outL st) pot b = pot - outOf st b := by
  have h100 := h.low.len
  have := fold_sub h.fst (·.est) b pot hp h.b (by rw [h.len]; omega) st.length (by omega)
  rw [List.take_length, List.take_of_length_le (by simp)] at this
  exact this
theorem share_fine {es : List Est} {ws : List Int} {ps : List Pr} (h : rightF es ws ps = true) : Fine ws ps (shareF es ws ps) := by
  obtain ⟨f1, f2, f3, f4, f5⟩ := rightF_facts h
  obtain ⟨g1, g2⟩ := share_good (es.map (·.pot)) 0 f5 fun p hp => by
    obtain ⟨x, hx, rfl⟩ := List.mem_map.1 hp
    exact (f2 x hx).1
  exact ⟨g1, g2.trans (start_fst ps), f3⟩
theorem share_out (ws : List Int) : ∀ (l : List Int) (e : Int) {st : Stt}, Good ws st → (∀ p, p ∈ l → 0 ≤ p) →
    (∀ e', e' < e ∨ e + l.length ≤ e' → outOf (share ws l e st) e' = outOf st e') ∧ ∀ i (hi : i < l.length), outOf (share ws l e st) (e + i) ≤ outOf st (e + i) + l[i]
  | [], e, st, _, _ => ⟨fun _ _ => rfl, fun i hi => absurd hi (by simp)⟩
  | p :: l, e, st, h, hp => by
    have h0 := hp p (List.mem_cons_self ..)
    obtain ⟨g1, g2, g3, g4, g5, g6⟩ := run_ok e (p.toNat + 1) h h0 (by omega)
    obtain ⟨k1, k2⟩ := share_out ws l (e + 1) g1 fun q hq => hp q (List.mem_cons_of_mem _ hq)
    refine ⟨fun e' he => ?_, fun i hi => ?_⟩
    · simp only [List.length_cons] at he
      show outOf (share ws l (e + 1) _) e' = _
      rw [k1 e' (by omega), g6 e' (by omega)]
    · match i, hi with
      | 0, _ =>
        show outOf (share ws l (e + 1) _) (e + (0 : Nat)) ≤ _
        have e0 : e + ((0 : Nat) : Int) = e := by omega
        rw [e0, k1 e (by omega)]
        simp only [List.getElem_cons_zero]; omega
      | i + 1, hi =>
        show outOf (share ws l (e + 1) _) (e + (i + 1 : Nat)) ≤ _
        have e1 : e + ((i + 1 : Nat) : Int) = e + 1 + (i : Int) := by omega
        rw [e1]
        have := k2 i (by simpa using hi)
        rw [g6 (e + 1 + (i : Int)) (by omega)] at this
        simpa using this
theorem outOf_start (ps : List Pr) (e : Int) : outOf (start ps) e = 0 := by
  unfold outOf start
  rw [List.map_map, sum_congr (g := fun _ => 0) fun x _ => by simp]
  exact sum_zero ps

def paidL (st : Stt) : List Int := st.map (·.2)
set_option maxHeartbeats 2000000 in
theorem paid_runs (es : List Est) (ws : List Int) (ps : List Pr) (h : rightF es ws ps = true) : Runs T 37 [ests es, ints ws, prs ps] (.tup [ints (paidL (shareF es ws ps)), .bool true]) := by
  refine .of_tree rfl rfl tr37_eq ?_
  have hs := share_runs es ws ps
  rw [if_pos h] at hs
  have hf := share_fine h
  have h100 := hf.low.len
  have hlen := hf.len
  generalize shareF es ws ps = st at *
  simp [tr37]
  refine ⟨_, hs, ?_⟩
  simp [hlen]
  refine EvP.forRounds st.length (fun k => [.list [], .bool false, .none, .int k]) (fun k => [ints ((st.take k).map (·.2))]) ?_ (fun k hk => ?_) ?_
  · simp [ints]
  · have hw : IntKind.i64.wrap ((k : Int) + 1) = (k : Int) + 1 := wrap64_id (by omega)
    have hx := hf.b st[k] (List.getElem_mem hk)
    have hx1 : ¬ st[k].2 < 0 := by omega
    have hlt : (st.take k).length ≤ 100 := by rw [List.length_take]; omega
    rw [List.take_succ_eq_append_getElem hk, List.map_append]
    simp [rd37_0_eq, rd37_0, hk, hw, hx.1, hx1, ints]
    omega
  · simp [rd37_0_eq, rd37_0, paidL]
end Esta
