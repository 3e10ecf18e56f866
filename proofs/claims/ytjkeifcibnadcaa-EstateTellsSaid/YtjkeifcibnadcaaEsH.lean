/-
  Estates, wholes, proofs as Lean's own data; Right.
-/
import Derived.Test.YtjkeifcibnadcaaEsG
set_option linter.unusedSimpArgs false
set_option linter.unusedVariables false
namespace Esta
open Go Go.Proofs Cx

structure Est where
  (firm day pot : Int)
instance : Inhabited Est := ⟨⟨0, 0, 0⟩⟩
def encE (x : Est) : D := .agg [.int x.firm, .int x.day, .int x.pot]
def encP (p : Pr) : D := .agg [.int p.bill, .int p.est, .int p.sum]
def encO (x : Int × Int) : D := .agg [.int x.1, .int x.2]
@[simp] theorem encE_cells (x : Est) : (encE x).cells = [.int x.firm, .int x.day, .int x.pot] := _root_.id rfl
@[simp] theorem encP_cells (p : Pr) : (encP p).cells = [.int p.bill, .int p.est, .int p.sum] := _root_.id rfl
@[simp] theorem encO_cells (x : Int × Int) : (encO x).cells = [.int x.1, .int x.2] := _root_.id rfl
@[simp] theorem encE_over (x : Est) : D.agg (splice [.int 0, .int 0, .int 0] 0 [.int x.firm, .int x.day, .int x.pot]) = encE x := _root_.id rfl
@[simp] theorem encP_over (p : Pr) : D.agg (splice [.int 0, .int 0, .int 0] 0 [.int p.bill, .int p.est, .int p.sum]) = encP p := _root_.id rfl
@[simp] theorem encO_over (x : Int × Int) : D.agg (splice [.int 0, .int 0] 0 [.int x.1, .int x.2]) = encO x := _root_.id rfl
@[simp] theorem E_c2 (x : Est) : (encE x).c 2 = .int x.pot := _root_.id rfl
@[simp] theorem P_c0 (x : Pr) : (encP x).c 0 = .int x.bill := _root_.id rfl
@[simp] theorem P_c1 (x : Pr) : (encP x).c 1 = .int x.est := _root_.id rfl
@[simp] theorem P_c2 (x : Pr) : (encP x).c 2 = .int x.sum := _root_.id rfl
@[simp] theorem O_c0 (x : Int × Int) : (encO x).c 0 = .int x.1 := _root_.id rfl
@[simp] theorem O_c1 (x : Int × Int) : (encO x).c 1 = .int x.2 := _root_.id rfl
def ests (l : List Est) : D := .list (l.map encE)
def prs (l : List Pr) : D := .list (l.map encP)
def outs (l : List (Int × Int)) : D := .list (l.map encO)
@[simp] theorem ests_l (l : List Est) : (ests l).l = l.map encE := _root_.id rfl
@[simp] theorem prs_l (l : List Pr) : (prs l).l = l.map encP := _root_.id rfl
@[simp] theorem outs_l (l : List (Int × Int)) : (outs l).l = l.map encO := _root_.id rfl
@[simp] theorem ests_cells (l : List Est) : (ests l).cells = [ests l] := _root_.id rfl
@[simp] theorem prs_cells (l : List Pr) : (prs l).cells = [prs l] := _root_.id rfl
@[simp] theorem outs_cells (l : List (Int × Int)) : (outs l).cells = [outs l] := _root_.id rfl

def inn (n lo hi : Int) : Bool := decide (lo ≤ n) && decide (n ≤ hi)
theorem inn_iff {n lo hi : Int} : inn n lo hi = true ↔ lo ≤ n ∧ n ≤ hi := by simp [inn]
theorem in_runs (n lo hi : Int) : Runs T 51 [.int n, .int lo, .int hi] (.bool (inn n lo hi)) := by
  refine .of_tree rfl rfl tr51_eq ?_
  simp [tr51, inn]
  by_cases h : lo ≤ n <;> simp [h]

def keyP (p : Pr) : D := .agg [.int p.bill, .int p.est]
theorem keyEq_P (p q : Pr) : keyEq (keyP p) (keyP q) = (decide (p.bill = q.bill) && decide (p.est = q.est)) := by
  show ((p.bill == q.bill) && ((p.est == q.est) && true)) = _
  rw [Bool.and_true]; rfl
def same (p q : Pr) : Bool := decide (p.bill = q.bill) && decide (p.est = q.est)
def okP (ws : List Int) (nE : Nat) (ps : List Pr) (k : Nat) : Bool :=
  let p := ps.getD k default
  inn p.bill 0 (ws.length - 1) && inn p.est 0 (nE - 1) && !((ps.take k).any (same p)) && inn p.sum 1 (ws.getD p.bill.toNat 0)
def rightF (es : List Est) (ws : List Int) (ps : List Pr) : Bool :=
  decide (es.length ≤ 10) && decide (ws.length ≤ 50) && decide (ps.length ≤ 100) && es.all (fun x => inn x.pot 0 1099511627776) && ws.all (fun w => inn w 1 1099511627776) && (List.range ps.length).all (okP ws es.length ps)

def seenM (l : List Pr) : List (D × D) := l.map fun q => (keyP q, D.bool true)
theorem look_seen (p : Pr) : ∀ l : List Pr, lookM (keyP p) (seenM l) = if l.any (same p) then some (.bool true) else none
  | [] => rfl
  | q :: l => by
    show (if keyEq (keyP p) (keyP q) = true then some (D.bool true) else lookM (keyP p) (seenM l)) = _
    rw [keyEq_P, look_seen p l, List.any_cons]
    by_cases h : (decide (p.bill = q.bill) && decide (p.est = q.est)) = true
    · rw [if_pos h, show same p q = true from h]; rfl
    · rw [if_neg h, show same p q = false from Bool.eq_false_iff.2 h]; rfl
theorem put_seen (p : Pr) : ∀ l : List Pr, l.any (same p) = false → putM (keyP p) (.bool true) (seenM l) = seenM (l ++ [p])
  | [], _ => rfl
  | q :: l, h => by
    rw [List.any_cons, Bool.or_eq_false_iff] at h
    show (if keyEq (keyP p) (keyP q) = true then (keyP p, D.bool true) :: seenM l else (keyP q, D.bool true) :: putM (keyP p) (.bool true) (seenM l)) = _
    rw [keyEq_P, if_neg (by rw [show (decide (p.bill = q.bill) && decide (p.est = q.est)) = same p q from rfl, h.1]; simp), put_seen p l h.2]
    rfl

theorem wrapm1 (n : Nat) (h : n ≤ 1000000) : IntKind.i64.wrap ((n : Int) - 1) = (n : Int) - 1 := wrap64_id (by omega)
@[simp] theorem keyP_mk (p : Pr) : D.agg [.int p.bill, .int p.est] = keyP p := _root_.id rfl
@[simp] theorem keyP_cells (p : Pr) : (keyP p).cells = [.int p.bill, .int p.est] := _root_.id rfl
@[simp] theorem keyP_c0 (x : Pr) : (keyP x).c 0 = .int x.bill := _root_.id rfl
@[simp] theorem keyP_c1 (x : Pr) : (keyP x).c 1 = .int x.est := _root_.id rfl
@[simp] theorem keyP_over (x : Pr) : D.agg (splice [.int 0, .int 0] 0 [.int x.bill, .int x.est]) = keyP x := _root_.id rfl

set_option maxHeartbeats 4000000 in
theorem right_runs (es : List Est) (ws : List Int) (ps : List Pr) : Runs T 31 [ests es, ints ws, prs ps] (.bool (rightF es ws ps)) := by
  refine .of_tree rfl rfl tr31_eq ?_
  by_cases c1 : es.length ≤ 10
  case neg =>
    have : (10 : Int) < es.length := by omega
    simp [tr31, rightF, c1, this]
  by_cases c2 : ws.length ≤ 50
  case neg =>
    have : (50 : Int) < ws.length := by omega
    simp [tr31, rightF, c2, this]
  by_cases c3 : ps.length ≤ 100
  case neg =>
    have : (100 : Int) < ps.length := by omega
    simp [tr31, rightF, c3, this]
  have c1' : ¬ (10 : Int) < es.length := by omega
  have c2' : ¬ (50 : Int) < ws.length := by omega
  have c3' : ¬ (100 : Int) < ps.length := by omega
  simp [tr31, c1', c2', c3']
  refine EvP.scan es.length (fun k => inn (es.getD k default).pot 0 1099511627776 = true) (fun k => [.bool false, .int k]) (fun _ => []) ?_ (fun k hk hj ho => ?_) (fun k hk hj ho => ?_) (fun hj => ?_)
  · simp
  · have hw : IntKind.i64.wrap ((k : Int) + 1) = (k : Int) + 1 := wrap64_id (by omega)
    simp [hk] at ho
    simp [rd31_0_eq, rd31_0, hk, hw]
    refine ⟨_, in_runs _ _ _, ?_⟩
    simp [ho]
  · have hf : rightF es ws ps = false := by
      unfold rightF
      have : es.all (fun x => inn x.pot 0 1099511627776) = false := by
        rw [List.all_eq_false]; exact ⟨_, List.getElem_mem hk, by simpa [hk] using ho⟩
      rw [this]; simp
    simp [hk] at ho
    simp [rd31_0_eq, rd31_0, hk]
    refine ⟨_, in_runs _ _ _, ?_⟩
    simp [ho, hf]
  have a1 : es.all (fun x => inn x.pot 0 1099511627776) = true := by
    rw [List.all_eq_true]; intro x hx
    obtain ⟨j, hjl, rfl⟩ := List.getElem_of_mem hx
    simpa [hjl] using hj j hjl
  simp [rd31_0_eq, rd31_0]
  refine EvP.scan ws.length (fun k => inn (ws.getD k 0) 1 1099511627776 = true) (fun k => [.bool false, .int k]) (fun _ => []) ?_ (fun k hk hj ho => ?_) (fun k hk hj ho => ?_) (fun hj => ?_)
  · simp
  · have hw : IntKind.i64.wrap ((k : Int) + 1) = (k : Int) + 1 := wrap64_id (by omega)
    simp [hk] at ho
    simp [rd31_1_eq, rd31_1, hk, hw]
    refine ⟨_, in_runs _ _ _, ?_⟩
    simp [ho]
  · have hf : rightF es ws ps = false := by
      unfold rightF
      have : ws.all (fun w => inn w 1 1099511627776) = false := by
        rw [List.all_eq_false]; exact ⟨_, List.getElem_mem hk, by simpa [hk] using ho⟩
      rw [this]; simp
    simp [hk] at ho
    simp [rd31_1_eq, rd31_1, hk]
    refine ⟨_, in_runs _ _ _, ?_⟩
    simp [ho, hf]
  have a2 : ws.all (fun w => inn w 1 1099511627776) = true := by
    rw [List.all_eq_true]; intro x hx
    obtain ⟨j, hjl, rfl⟩ := List.getElem_of_mem hx
    simpa [hjl] using hj j hjl
  simp [rd31_1_eq, rd31_1]
  have hrf : rightF es ws ps = (List.range ps.length).all (okP ws es.length ps) := by
    unfold rightF; rw [a1, a2]; simp [c1, c2, c3]
  rw [hrf]
  refine EvP.scan ps.length (fun k => okP ws es.length ps k = true) (fun k => [.bool false, .int k]) (fun k => [.map (seenM (ps.take k))]) ?_ (fun k hk hj ho => ?_) (fun k hk hj ho => ?_) (fun hj => ?_)
  · simp [seenM]
  · have hw : IntKind.i64.wrap ((k : Int) + 1) = (k : Int) + 1 := wrap64_id (by omega)
    have hlen : (seenM (ps.take k)).length ≤ 100 := by simp [seenM]; omega
    have hlk := look_seen (ps.getD k default) (ps.take k)
    have hpk := put_seen (ps.getD k default) (ps.take k)
    have htk : ps.take (k + 1) = ps.take k ++ [ps.getD k default] := by rw [List.take_succ_eq_append_getElem hk]; simp [hk]
    rw [htk]
    simp only [okP, Bool.and_eq_true, Bool.not_eq_true'] at ho
    obtain ⟨⟨⟨o1, o2⟩, o3⟩, o4⟩ := ho
    rw [o3] at hlk
    have hpk := hpk o3
    have o1' := inn_iff.1 o1
    have o2' := inn_iff.1 o2
    generalize hp : ps.getD k default = p at *
    have hg : ps[k] = p := by rw [← hp]; simp [hk]
    have hb : p.bill.toNat < ws.length := by omega
    simp [rd31_2_eq, rd31_2, hk, hw, hg, wrapm1 _ (show ws.length ≤ 1000000 by omega), wrapm1 _ (show es.length ≤ 1000000 by omega)]
    refine ⟨_, in_runs _ _ _, ?_⟩
    simp [o1]
    refine ⟨_, in_runs _ _ _, ?_⟩
    simp [o2, hlk]
    have hgw : (Option.map D.int ws[p.bill.toNat]?).getD D.none = .int (ws.getD p.bill.toNat 0) := by simp [hb]
    rw [hgw]
    refine ⟨by omega, _, in_runs _ _ _, ?_⟩
    simp only [dbool_b]
    rw [if_pos o4]
    exact ⟨by omega, hpk⟩
  · have hlk := look_seen (ps.getD k default) (ps.take k)
    have hof : okP ws es.length ps k = false := Bool.eq_false_iff.2 ho
    have hrf0 : (List.range ps.length).all (okP ws es.length ps) = false := by
      rw [List.all_eq_false]; exact ⟨k, List.mem_range.2 hk, ho⟩
    rw [hrf0]
    simp only [okP] at hof
    generalize hp : ps.getD k default = p at *
    have hg : ps[k] = p := by rw [← hp]; simp [hk]
    simp [rd31_2_eq, rd31_2, hk, hg, wrapm1 _ (show ws.length ≤ 1000000 by omega), wrapm1 _ (show es.length ≤ 1000000 by omega)]
    refine ⟨_, in_runs _ _ _, ?_⟩
    cases o1 : inn p.bill 0 (ws.length - 1) with
    | false => simp
    | true =>
      have o1' := inn_iff.1 o1
      have hb : p.bill.toNat < ws.length := by omega
      simp
      refine ⟨_, in_runs _ _ _, ?_⟩
      cases o2 : inn p.est 0 (es.length - 1) with
      | false => simp
      | true =>
        cases o3 : (ps.take k).any (same p) with
        | true => rw [o3] at hlk; simp [hlk]
        | false =>
          rw [o3] at hlk
          rw [o1, o2, o3] at hof
          have o4 : inn p.sum 1 (ws.getD p.bill.toNat 0) = false := by simpa using hof
          have hgw : (Option.map D.int ws[p.bill.toNat]?).getD D.none = .int (ws.getD p.bill.toNat 0) := by simp [hb]
          simp [hlk]
          rw [hgw]
          refine ⟨by omega, _, in_runs _ _ _, ?_⟩
          simp only [dbool_b]
          rw [o4]
  · have : (List.range ps.length).all (okP ws es.length ps) = true := by
      rw [List.all_eq_true]; intro k hk; exact hj k (List.mem_range.1 hk)
    simp [rd31_2_eq, rd31_2, this]
end Esta
