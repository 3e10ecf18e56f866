/-
  The reference's Right, Received, Left, Same, sum.
-/
import Derived.Test.YtjkeifcibnadcaaEsQ
set_option linter.unusedSimpArgs false
set_option linter.unusedVariables false
namespace Esta
open Go Go.Proofs Cx

theorem within_runs (n lo hi : Int) : Runs T 52 [.int n, .int lo, .int hi] (.bool (inn n lo hi)) := by
  refine .of_tree rfl rfl tr52_eq ?_
  simp [tr52, inn]
  by_cases h : lo ≤ n <;> simp [h]

theorem sameO_runs (l : List (Int × Int)) (hl : l.length ≤ 100000) : Runs T 30 [outs l, outs l] (.bool true) := by
  refine .of_tree rfl rfl tr30_eq ?_
  simp [tr30]
  refine EvP.forRounds l.length (fun k => [.bool false, .int k]) (fun _ => []) ?_ (fun k hk => ?_) ?_
  · simp
  · have hw : IntKind.i64.wrap ((k : Int) + 1) = (k : Int) + 1 := wrap64_id (by omega)
    simp [rd30_0_eq, rd30_0, hk, hw]
  · simp [rd30_0_eq, rd30_0]

theorem sum50_runs (l : List Int) (hl : l.length ≤ 1000) (hb : ∀ x, x ∈ l → 0 ≤ x ∧ x ≤ 1099511627776) : Runs T 50 [ints l] (.int l.sum) := by
  refine .of_tree rfl rfl tr50_eq ?_
  simp [tr50]
  refine EvP.forRounds l.length (fun k => [.int ((l.take k).map id).sum, .int k]) (fun _ => []) ?_ (fun k hk => ?_) ?_
  · simp
  · have hw : IntKind.i64.wrap ((k : Int) + 1) = (k : Int) + 1 := wrap64_id (by omega)
    have h1 := sum_bound (f := id) (M := 1099511627776) (l := l.take k) fun x hx => hb x (List.mem_of_mem_take hx)
    have h2 : (l.take k).length ≤ 1000 := by rw [List.length_take]; omega
    have h3 := hb l[k] (List.getElem_mem hk)
    rw [sum_take id l k hk]
    generalize ((l.take k).map id).sum = z at *
    have hw2 : IntKind.i64.wrap (z + l[k]) = z + l[k] := wrap64_id (by omega)
    simp [rd50_0_eq, rd50_0, hk, hw, hw2, ints]
  · simp [rd50_0_eq, rd50_0, ints]

theorem inn_lt (x : Int) (n : Nat) : inn x 0 (n - 1) = (decide (0 ≤ x) && decide (x < n)) := by
  unfold inn
  have : decide (x ≤ (n : Int) - 1) = decide (x < n) := decide_eq_decide.2 (by omega)
  rw [this]
theorem received34_runs (ps : List Pr) (l : List (Int × Int)) (b : Int) (hp : ps.length ≤ 1000) (hl : l.length ≤ 1000000) : Runs T 34 [prs ps, outs l, .int b] (.int (recvW ps l b)) := by
  refine .of_tree rfl rfl tr34_eq ?_
  simp [tr34]
  refine EvP.forRounds l.length (fun k => [.int (recvW ps (l.take k) b), .int k]) (fun k => []) ?_ (fun k hk => ?_) ?_
  · simp [recvW]
  · have hw : IntKind.i64.wrap ((k : Int) + 1) = (k : Int) + 1 := wrap64_id (by omega)
    have hs : recvW ps (l.take (k + 1)) b = if hits ps l[k] (·.bill) b then IntKind.i64.wrap (recvW ps (l.take k) b + l[k].2) else recvW ps (l.take k) b := foldl_take _ _ l k hk
    rw [hs]
    generalize recvW ps (l.take k) b = z
    generalize hx : l[k] = x
    unfold hits
    rw [inn_lt]
    by_cases h1 : 0 ≤ x.1
    · by_cases h2 : x.1 < ps.length
      · have hb : x.1.toNat < ps.length := by omega
        by_cases c : ps[x.1.toNat].bill = b <;> simp [rd34_0_eq, rd34_0, hk, hw, hx, h1, h2, hb, c]
      · simp [rd34_0_eq, rd34_0, hk, hw, hx, h1, h2]
    · simp [rd34_0_eq, rd34_0, hk, hw, hx, h1]
  · simp [rd34_0_eq, rd34_0]

theorem left36_runs (es : List Est) (ps : List Pr) (l : List (Int × Int)) (he : es.length ≤ 1000) (hp : ps.length ≤ 1000) (hl : l.length ≤ 1000000) : Runs T 36 [ests es, prs ps, outs l] (ints (es.mapIdx fun i x => leftW ps l x.pot i)) := by
  refine .of_tree rfl rfl tr36_eq ?_
  simp [tr36]
  refine EvP.forRounds es.length (fun k => [.none, .int k]) (fun k => [ints ((es.take k).mapIdx fun i x => leftW ps l x.pot i)]) ?_ (fun k hk => ?_) ?_
  · simp [ints]
  · have hw : IntKind.i64.wrap ((k : Int) + 1) = (k : Int) + 1 := wrap64_id (by omega)
    have hm : min k es.length = k := by omega
    have hlen : ((es.take k).mapIdx fun i x => leftW ps l x.pot i).length ≤ 1000 := by simp; omega
    rw [List.take_succ_eq_append_getElem hk, List.mapIdx_append]
    generalize ((es.take k).mapIdx fun i x => leftW ps l x.pot i) = LL at *
    simp [rd36_1_eq, rd36_1, hk, hw]
    refine EvP.forRounds l.length (fun j => [.int (leftW ps (l.take j) es[k].pot k), .int j]) (fun j => []) ?_ (fun j hj => ?_) ?_
    · simp [leftW, hk]
    · have hwj : IntKind.i64.wrap ((j : Int) + 1) = (j : Int) + 1 := wrap64_id (by omega)
      have hs : leftW ps (l.take (j + 1)) es[k].pot k = if hits ps l[j] (·.est) k then IntKind.i64.wrap (leftW ps (l.take j) es[k].pot k - l[j].2) else leftW ps (l.take j) es[k].pot k := foldl_take _ _ l j hj
      rw [hs]
      generalize leftW ps (l.take j) es[k].pot k = z
      generalize hx : l[j] = x
      unfold hits
      rw [inn_lt]
      by_cases h1 : 0 ≤ x.1
      · by_cases h2 : x.1 < ps.length
        · have hb : x.1.toNat < ps.length := by omega
          by_cases c : ps[x.1.toNat].est = k <;> simp [rd36_0_eq, rd36_0, hj, hwj, hx, h1, h2, hb, c]
        · simp [rd36_0_eq, rd36_0, hj, hwj, hx, h1, h2]
      · simp [rd36_0_eq, rd36_0, hj, hwj, hx, h1]
    · rw [List.take_length]
      simp [rd36_0_eq, rd36_0, ints, hm]
      omega
  · simp [rd36_1_eq, rd36_1]

set_option maxHeartbeats 4000000 in
theorem right32_runs (es : List Est) (ws : List Int) (ps : List Pr) : Runs T 32 [ests es, ints ws, prs ps] (.bool (rightF es ws ps)) := by
  refine .of_tree rfl rfl tr32_eq ?_
  by_cases c1 : es.length ≤ 10
  case neg =>
    have : (10 : Int) < es.length := by omega
    simp [tr32, rightF, c1, this]
  by_cases c2 : ws.length ≤ 50
  case neg =>
    have : (50 : Int) < ws.length := by omega
    simp [tr32, rightF, c2, this]
  by_cases c3 : ps.length ≤ 100
  case neg =>
    have : (100 : Int) < ps.length := by omega
    simp [tr32, rightF, c3, this]
  have c1' : ¬ (10 : Int) < es.length := by omega
  have c2' : ¬ (50 : Int) < ws.length := by omega
  have c3' : ¬ (100 : Int) < ps.length := by omega
  simp [tr32, c1', c2', c3']
  refine EvP.scan es.length (fun k => inn (es.getD k default).pot 0 1099511627776 = true) (fun k => [.bool false, .int k]) (fun _ => []) ?_ (fun k hk hj ho => ?_) (fun k hk hj ho => ?_) (fun hj => ?_)
  · simp
  · have hw : IntKind.i64.wrap ((k : Int) + 1) = (k : Int) + 1 := wrap64_id (by omega)
    simp [hk] at ho
    simp [rd32_0_eq, rd32_0, hk, hw]
    refine ⟨_, within_runs _ _ _, ?_⟩
    simp [ho]
  · have hf : rightF es ws ps = false := by
      unfold rightF
      have : es.all (fun x => inn x.pot 0 1099511627776) = false := by
        rw [List.all_eq_false]; exact ⟨_, List.getElem_mem hk, by simpa [hk] using ho⟩
      rw [this]; simp
    simp [hk] at ho
    simp [rd32_0_eq, rd32_0, hk]
    refine ⟨_, within_runs _ _ _, ?_⟩
    simp [ho, hf]
  have a1 : es.all (fun x => inn x.pot 0 1099511627776) = true := by
    rw [List.all_eq_true]; intro x hx
    obtain ⟨j, hjl, rfl⟩ := List.getElem_of_mem hx
    simpa [hjl] using hj j hjl
  simp [rd32_0_eq, rd32_0]
  refine EvP.scan ws.length (fun k => inn (ws.getD k 0) 1 1099511627776 = true) (fun k => [.bool false, .int k]) (fun _ => []) ?_ (fun k hk hj ho => ?_) (fun k hk hj ho => ?_) (fun hj => ?_)
  · simp
  · have hw : IntKind.i64.wrap ((k : Int) + 1) = (k : Int) + 1 := wrap64_id (by omega)
    simp [hk] at ho
    simp [rd32_1_eq, rd32_1, hk, hw]
    refine ⟨_, within_runs _ _ _, ?_⟩
    simp [ho]
  · have hf : rightF es ws ps = false := by
      unfold rightF
      have : ws.all (fun w => inn w 1 1099511627776) = false := by
        rw [List.all_eq_false]; exact ⟨_, List.getElem_mem hk, by simpa [hk] using ho⟩
      rw [this]; simp
    simp [hk] at ho
    simp [rd32_1_eq, rd32_1, hk]
    refine ⟨_, within_runs _ _ _, ?_⟩
    simp [ho, hf]
  have a2 : ws.all (fun w => inn w 1 1099511627776) = true := by
    rw [List.all_eq_true]; intro x hx
    obtain ⟨j, hjl, rfl⟩ := List.getElem_of_mem hx
    simpa [hjl] using hj j hjl
  simp [rd32_1_eq, rd32_1]
  have hrf : rightF es ws ps = (List.range ps.length).all (okP ws es.length ps) := by
    unfold rightF; rw [a1, a2]; simp [c1, c2, c3]
  rw [hrf]
  refine EvP.scan ps.length (fun k => okP ws es.length ps k = true) (fun k => [.bool false, .int k]) (fun k => []) ?_ (fun k hk hj ho => ?_) (fun k hk hj ho => ?_) (fun hj => ?_)
  · simp
  · have hw : IntKind.i64.wrap ((k : Int) + 1) = (k : Int) + 1 := wrap64_id (by omega)
    simp only [okP, Bool.and_eq_true, Bool.not_eq_true'] at ho
    obtain ⟨⟨⟨o1, o2⟩, o3⟩, o4⟩ := ho
    have o1' := inn_iff.1 o1
    generalize hp : ps.getD k default = p at *
    have hg : ps[k] = p := by rw [← hp]; simp [hk]
    have hb : p.bill.toNat < ws.length := by omega
    have hgw : (Option.map D.int ws[p.bill.toNat]?).getD D.none = .int (ws.getD p.bill.toNat 0) := by simp [hb]
    simp [rd32_3_eq, rd32_3, hk, hw, hg, wrapm1 _ (show ws.length ≤ 1000000 by omega), wrapm1 _ (show es.length ≤ 1000000 by omega)]
    refine ⟨_, within_runs _ _ _, ?_⟩
    simp [o1]
    refine ⟨_, within_runs _ _ _, ?_⟩
    simp [o2]
    rw [hgw]
    refine ⟨by omega, _, within_runs _ _ _, ?_⟩
    simp only [dbool_b]
    rw [if_pos o4]
    refine EvP.forRounds k (fun j => [.bool false, .int j]) (fun _ => []) ?_ (fun j hj => ?_) ?_
    · simp
    · have hwj : IntKind.i64.wrap ((j : Int) + 1) = (j : Int) + 1 := wrap64_id (by omega)
      have hjl : j < ps.length := by omega
      rw [List.any_eq_false] at o3
      have hs := o3 ps[j] (List.mem_take_iff_getElem.2 ⟨j, by omega, rfl⟩)
      have hs' : ps[j].bill = p.bill → ¬ ps[j].est = p.est := fun e1 e2 => hs (by simp [same, e1, e2])
      by_cases e1 : ps[j].bill = p.bill
      · simp [rd32_2_eq, rd32_2, hk, hg, hj, hjl, hwj, e1, hs' e1]
      · simp [rd32_2_eq, rd32_2, hk, hg, hj, hjl, hwj, e1]
    · simp [rd32_2_eq, rd32_2]
  · have hof : okP ws es.length ps k = false := Bool.eq_false_iff.2 ho
    have hrf0 : (List.range ps.length).all (okP ws es.length ps) = false := by
      rw [List.all_eq_false]; exact ⟨k, List.mem_range.2 hk, ho⟩
    rw [hrf0]
    simp only [okP] at hof
    generalize hp : ps.getD k default = p at *
    have hg : ps[k] = p := by rw [← hp]; simp [hk]
    simp [rd32_3_eq, rd32_3, hk, hg, wrapm1 _ (show ws.length ≤ 1000000 by omega), wrapm1 _ (show es.length ≤ 1000000 by omega)]
    refine ⟨_, within_runs _ _ _, ?_⟩
    cases o1 : inn p.bill 0 (ws.length - 1) with
    | false => simp
    | true =>
      have o1' := inn_iff.1 o1
      have hb : p.bill.toNat < ws.length := by omega
      have hgw : (Option.map D.int ws[p.bill.toNat]?).getD D.none = .int (ws.getD p.bill.toNat 0) := by simp [hb]
      simp
      refine ⟨_, within_runs _ _ _, ?_⟩
      cases o2 : inn p.est 0 (es.length - 1) with
      | false => simp
      | true =>
        simp
        rw [hgw]
        refine ⟨by omega, _, within_runs _ _ _, ?_⟩
        simp only [dbool_b]
        cases o4 : inn p.sum 1 (ws.getD p.bill.toNat 0) with
        | false => simp
        | true =>
          rw [o1, o2, o4] at hof
          have o3 : (ps.take k).any (same p) = true := by simpa using hof
          have fin : ∀ {P : Prop}, P → (true = true → P) := fun h _ => h
          refine fin ?_
          refine EvP.scan k (fun j => same p (ps.getD j default) = false) (fun j => [.bool false, .int j]) (fun _ => []) ?_ (fun j hj hjj ho => ?_) (fun j hj hjj ho => ?_) (fun hjj => ?_)
          · simp
          · have hwj : IntKind.i64.wrap ((j : Int) + 1) = (j : Int) + 1 := wrap64_id (by omega)
            have hjl : j < ps.length := by omega
            rw [getD_at ps j hjl] at ho
            have hs' : ps[j].bill = p.bill → ¬ ps[j].est = p.est := fun e1 e2 => by simp [same, e1, e2] at ho
            by_cases e1 : ps[j].bill = p.bill
            · simp [rd32_2_eq, rd32_2, hk, hg, hj, hjl, hwj, e1, hs' e1]
            · simp [rd32_2_eq, rd32_2, hk, hg, hj, hjl, hwj, e1]
          · have hjl : j < ps.length := by omega
            rw [getD_at ps j hjl] at ho
            have hs : p.bill = ps[j].bill ∧ p.est = ps[j].est := by simpa [same] using ho
            simp [rd32_2_eq, rd32_2, hk, hg, hj, hjl, hs.1.symm, hs.2.symm]
          · exfalso
            obtain ⟨q, hq, hs⟩ := List.any_eq_true.1 o3
            obtain ⟨j, hj, rfl⟩ := List.mem_take_iff_getElem.1 hq
            have := hjj j (by omega)
            rw [getD_at ps j (by omega), hs] at this
            cases this
  · have : (List.range ps.length).all (okP ws es.length ps) = true := by
      rw [List.all_eq_true]; intro k hk; exact hj k (List.mem_range.1 hk)
    simp [rd32_3_eq, rd32_3, this]
end Esta
