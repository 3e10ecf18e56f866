/-
  Pools as Lean's own data; what the functions compute: Check, Value, cover, Cover.
-/
import Derived.Test.YtaihcmbfhgmjgaaPoC
set_option linter.unusedSimpArgs false
set_option linter.unusedVariables false
namespace Pool
open Go Go.Proofs Cx

structure Tm where
  (loan hc days signs price : Int)
structure Pl where
  (price due signs : Int)
instance : Inhabited Pl := ⟨⟨0, 0, 0⟩⟩
def encT (t : Tm) : D := .agg [.int t.loan, .int t.hc, .int t.days, .int t.signs, .int t.price]
def encP (p : Pl) : D := .agg [.int p.price, .int p.due, .int p.signs]
def pls (l : List Pl) : D := .list (l.map encP)
@[simp] theorem encT_cells (t : Tm) : (encT t).cells = [.int t.loan, .int t.hc, .int t.days, .int t.signs, .int t.price] := _root_.id rfl
@[simp] theorem encP_cells (p : Pl) : (encP p).cells = [.int p.price, .int p.due, .int p.signs] := _root_.id rfl
@[simp] theorem encT_mk (t : Tm) : D.agg [.int t.loan, .int t.hc, .int t.days, .int t.signs, .int t.price] = encT t := _root_.id rfl
@[simp] theorem encP_mk (p : Pl) : D.agg [.int p.price, .int p.due, .int p.signs] = encP p := _root_.id rfl
@[simp] theorem encT_all (t : Tm) : allc 5 (encT t) = encT t := _root_.id rfl
@[simp] theorem encP_over (p : Pl) : D.agg (splice [.int 0, .int 0, .int 0] 0 [.int p.price, .int p.due, .int p.signs]) = encP p := _root_.id rfl
@[simp] theorem T_c0 (t : Tm) : (encT t).c 0 = .int t.loan := _root_.id rfl
@[simp] theorem T_c1 (t : Tm) : (encT t).c 1 = .int t.hc := _root_.id rfl
@[simp] theorem T_c2 (t : Tm) : (encT t).c 2 = .int t.days := _root_.id rfl
@[simp] theorem T_c3 (t : Tm) : (encT t).c 3 = .int t.signs := _root_.id rfl
@[simp] theorem T_c4 (t : Tm) : (encT t).c 4 = .int t.price := _root_.id rfl
@[simp] theorem P_c0 (p : Pl) : (encP p).c 0 = .int p.price := _root_.id rfl
@[simp] theorem P_c1 (p : Pl) : (encP p).c 1 = .int p.due := _root_.id rfl
@[simp] theorem P_c2 (p : Pl) : (encP p).c 2 = .int p.signs := _root_.id rfl
@[simp] theorem pls_l (l : List Pl) : (pls l).l = l.map encP := _root_.id rfl

def wi (n m : Int) : Bool := decide (0 ≤ n) && decide (n ≤ m)
def tmOK (t : Tm) : Bool := wi t.loan 1099511627776 && wi t.price 1099511627776 && wi t.hc 1000 && wi t.days 20000 && wi t.signs 40
def plOK (p : Pl) : Bool := wi p.price 1099511627776 && wi p.due 100000 && wi p.signs 40
def checkF (t : Tm) (l : List Pl) (day : Int) : Int := if 50 < l.length then 6 else if tmOK t && wi day 100000 && l.all plOK then 0 else 1

theorem within_runs (n m : Int) : Runs T 34 [.int n, .int m] (.bool (wi n m)) := by
  refine .of_tree rfl rfl tr34_eq ?_
  simp [tr34, wi]
  by_cases h : 0 ≤ n <;> simp [h]

theorem terms_runs (t : Tm) : Runs T 33 [encT t] (.bool (tmOK t)) := by
  refine .of_tree rfl rfl tr33_eq ?_
  simp [tr33]
  refine ⟨_, within_runs _ _, ?_⟩
  simp [tmOK]
  cases h1 : wi t.loan 1099511627776 <;> simp
  refine ⟨_, within_runs _ _, ?_⟩
  simp
  cases h2 : wi t.price 1099511627776 <;> simp
  refine ⟨_, within_runs _ _, ?_⟩
  simp
  cases h3 : wi t.hc 1000 <;> simp
  refine ⟨_, within_runs _ _, ?_⟩
  simp
  cases h4 : wi t.days 20000 <;> simp
  exact within_runs _ _

theorem pledge_runs (p : Pl) : Runs T 37 [encP p] (.bool (plOK p)) := by
  refine .of_tree rfl rfl tr37_eq ?_
  simp [tr37]
  refine ⟨_, within_runs _ _, ?_⟩
  simp [plOK]
  cases h1 : wi p.price 1099511627776 <;> simp
  refine ⟨_, within_runs _ _, ?_⟩
  simp
  cases h2 : wi p.due 100000 <;> simp
  exact within_runs _ _

theorem bad_runs (p : Pl) : Runs T 36 [encP p] (.bool (!plOK p)) := by
  refine .of_tree rfl rfl tr36_eq ?_
  simp [tr36]
  refine ⟨_, pledge_runs _, ?_⟩
  simp

/-- the first that is not right -/
def idxF (l : List Pl) : Int := if l.findIdx (fun p => !plOK p) < l.length then (l.findIdx (fun p => !plOK p) : Nat) else -1
theorem idxF_ge (l : List Pl) : decide (0 ≤ idxF l) = !(l.all plOK) := by
  unfold idxF
  cases h : l.all plOK with
  | true =>
    have : ¬ l.findIdx (fun p => !plOK p) < l.length := by
      rw [List.findIdx_lt_length]
      rintro ⟨x, hx, hp⟩
      rw [List.all_eq_true.1 h x hx] at hp; cases hp
    rw [if_neg this]; rfl
  | false =>
    have : l.findIdx (fun p => !plOK p) < l.length := by
      rw [List.findIdx_lt_length]
      rw [List.all_eq_false] at h
      obtain ⟨x, hx, hp⟩ := h
      exact ⟨x, hx, by simpa using hp⟩
    rw [if_pos this]; simp

theorem idx_runs (l : List Pl) (hl : l.length ≤ maxLen) : Runs T 44 [pls l, .clo 36 []] (.int (idxF l)) := by
  refine .of_tree rfl rfl tr44_eq ?_
  simp [tr44]
  rw [maxLen_eq] at hl
  refine EvP.scan l.length (fun k => plOK (l.getD k default) = true) (fun k => [.int 0, .int k]) (fun _ => []) ?_ (fun k hk hj ho => ?_) (fun k hk hj ho => ?_) (fun hj => ?_)
  · simp
  · have hw : IntKind.i64.wrap ((k : Int) + 1) = (k : Int) + 1 := wrap64_id (by omega)
    simp [hk] at ho
    simp [rd44_0_eq, rd44_0, hk, hw]
    refine ⟨36, _, ⟨rfl, rfl⟩, _, bad_runs _, ?_⟩
    simp [ho]
  · simp [hk] at ho
    simp [rd44_0_eq, rd44_0, hk]
    refine ⟨36, _, ⟨rfl, rfl⟩, _, bad_runs _, ?_⟩
    have e : l.findIdx (fun p => !plOK p) = k := (List.findIdx_eq hk).2 ⟨by simp [ho], fun j hji => by
      have := hj j hji
      have hjl : j < l.length := by omega
      simpa [List.getD_eq_getElem?_getD, List.getElem?_eq_getElem hjl] using this⟩
    simp [ho, idxF, e, hk]
  · simp [rd44_0_eq, rd44_0]
    have : ¬ l.findIdx (fun p => !plOK p) < l.length := by
      rw [List.findIdx_lt_length]
      rintro ⟨x, hx, hp⟩
      obtain ⟨j, hjl, rfl⟩ := List.getElem_of_mem hx
      have := hj j hjl
      rw [List.getD_eq_getElem?_getD, List.getElem?_eq_getElem hjl] at this
      simp only [Option.getD_some] at this
      rw [this] at hp; cases hp
    simp [idxF, this]

theorem contains_runs (l : List Pl) (hl : l.length ≤ maxLen) : Runs T 35 [pls l, .clo 36 []] (.bool (!(l.all plOK))) := by
  refine .of_tree rfl rfl tr35_eq ?_
  simp [tr35]
  refine ⟨_, idx_runs l hl, ?_⟩
  have := idxF_ge l
  simp at this ⊢
  exact this

theorem check_runs (t : Tm) (l : List Pl) (day : Int) (hl : l.length ≤ maxLen) : Runs T 18 [encT t, pls l, .int day] (.int (checkF t l day)) := by
  refine .of_tree rfl rfl tr18_eq ?_
  by_cases h : 50 < l.length
  · have h' : (50 : Int) < l.length := by omega
    simp [tr18, checkF, h, h']
  · have h' : ¬ (50 : Int) < l.length := by omega
    simp [tr18, checkF, h, h']
    refine ⟨_, terms_runs t, ?_⟩
    simp
    cases h1 : tmOK t <;> simp
    refine ⟨_, within_runs _ _, ?_⟩
    simp
    cases h2 : wi day 100000 <;> simp
    refine ⟨_, contains_runs l hl, ?_⟩
    cases h3 : l.all plOK <;> simp_all

/-! ### the value -/
def valF (t : Tm) (p : Pl) (day : Int) : Int :=
  if tmOK t && wi day 100000 && plOK p then
    if p.price < t.price ∨ p.signs < t.signs ∨ p.due < day ∨ day + t.days < p.due then 0 else p.price * (1000 - t.hc) / 1000
  else 0
theorem wi_iff {n m : Int} : wi n m = true ↔ 0 ≤ n ∧ n ≤ m := by simp [wi]
theorem tmOK_iff {t : Tm} : tmOK t = true ↔ (0 ≤ t.loan ∧ t.loan ≤ 1099511627776) ∧ (0 ≤ t.price ∧ t.price ≤ 1099511627776) ∧ (0 ≤ t.hc ∧ t.hc ≤ 1000) ∧ (0 ≤ t.days ∧ t.days ≤ 20000) ∧ (0 ≤ t.signs ∧ t.signs ≤ 40) := by
  simp [tmOK, wi_iff, and_assoc]
theorem plOK_iff {p : Pl} : plOK p = true ↔ (0 ≤ p.price ∧ p.price ≤ 1099511627776) ∧ (0 ≤ p.due ∧ p.due ≤ 100000) ∧ (0 ≤ p.signs ∧ p.signs ≤ 40) := by
  simp [plOK, wi_iff, and_assoc]
theorem val_bounds (t : Tm) (p : Pl) (day : Int) : 0 ≤ valF t p day ∧ valF t p day ≤ 1099511627776 := by
  unfold valF
  split
  · rename_i h
    simp only [Bool.and_eq_true] at h
    have ht := tmOK_iff.1 h.1.1
    have hp := plOK_iff.1 h.2
    split
    · omega
    · have h1 : 0 ≤ p.price * (1000 - t.hc) := Int.mul_nonneg hp.1.1 (by omega)
      have h2 : p.price * (1000 - t.hc) ≤ p.price * 1000 := Int.mul_le_mul_of_nonneg_left (by omega) hp.1.1
      omega
  · omega

theorem value_runs (t : Tm) (p : Pl) (day : Int) : Runs T 22 [encT t, encP p, .int day] (.int (valF t p day)) := by
  refine .of_tree rfl rfl tr22_eq ?_
  simp [tr22]
  have hc := check_runs t [p] day (by rw [maxLen_eq]; simp)
  refine ⟨_, hc, ?_⟩
  have e : checkF t [p] day = if tmOK t && wi day 100000 && plOK p then 0 else 1 := by simp [checkF]
  rw [e]
  unfold valF
  cases h : tmOK t && wi day 100000 && plOK p with
  | false => simp
  | true =>
    simp only [Bool.and_eq_true] at h
    have ht := tmOK_iff.1 h.1.1
    have hp := plOK_iff.1 h.2
    have hd := wi_iff.1 h.1.2
    have hw : IntKind.i64.wrap (day + t.days) = day + t.days := wrap64_id (by omega)
    have h1 : 0 ≤ p.price * (1000 - t.hc) := Int.mul_nonneg hp.1.1 (by omega)
    have h2 : p.price * (1000 - t.hc) ≤ p.price * 1000 := Int.mul_le_mul_of_nonneg_left (by omega) hp.1.1
    have hw1 : IntKind.i64.wrap (1000 - t.hc) = 1000 - t.hc := wrap64_id (by omega)
    have hw2 : IntKind.i64.wrap (p.price * (1000 - t.hc)) = p.price * (1000 - t.hc) := wrap64_id (by omega)
    have hq : (p.price * (1000 - t.hc)).tdiv 1000 = p.price * (1000 - t.hc) / 1000 := Int.tdiv_eq_ediv_of_nonneg h1
    have hw3 : IntKind.i64.wrap (p.price * (1000 - t.hc) / 1000) = p.price * (1000 - t.hc) / 1000 := wrap64_id (by omega)
    by_cases c1 : p.price < t.price
    · simp [c1]
    by_cases c2 : p.signs < t.signs
    · simp [c1, c2]
    by_cases c3 : p.due < day
    · simp [c1, c2, c3]
    by_cases c4 : day + t.days < p.due
    · simp [c1, c2, c3, hw, c4]
    · simp [c1, c2, c3, hw, c4, hw1, hw2, hq, hw3]

def coverF (t : Tm) (l : List Pl) (day : Int) : Int := (l.map fun p => valF t p day).sum
theorem cover_append (t : Tm) (a b : List Pl) (day : Int) : coverF t (a ++ b) day = coverF t a day + coverF t b day := by
  unfold coverF
  induction a with
  | nil => simp
  | cons x a ih => simp only [List.cons_append, List.map_cons, List.sum_cons, ih]; omega
theorem cover_bounds (t : Tm) (l : List Pl) (day : Int) : 0 ≤ coverF t l day ∧ coverF t l day ≤ 1099511627776 * l.length := by
  unfold coverF
  induction l with
  | nil => simp
  | cons x l ih =>
    have := val_bounds t x day
    simp only [List.map_cons, List.sum_cons, List.length_cons]
    omega

theorem cover_runs (t : Tm) (l : List Pl) (day : Int) (hl : l.length ≤ 1000000) : Runs T 27 [encT t, pls l, .int day] (.int (coverF t l day)) := by
  refine .of_tree rfl rfl tr27_eq ?_
  simp [tr27]
  refine EvP.forRounds l.length (fun k => [.int (coverF t (l.take k) day), .int k]) (fun k => []) ?_ (fun k hk => ?_) ?_
  · simp [coverF]
  · have hw : IntKind.i64.wrap ((k : Int) + 1) = (k : Int) + 1 := wrap64_id (by omega)
    have hs : coverF t (l.take (k + 1)) day = coverF t (l.take k) day + valF t l[k] day := by
      rw [List.take_succ_eq_append_getElem hk, cover_append]; simp [coverF]
    have hb := cover_bounds t (l.take k) day
    have hv := val_bounds t l[k] day
    have hlen : (l.take k).length ≤ 1000000 := by rw [List.length_take]; omega
    have hw2 : IntKind.i64.wrap (coverF t (l.take k) day + valF t l[k] day) = coverF t (l.take k) day + valF t l[k] day := wrap64_id (by omega)
    rw [hs]
    simp [rd27_0_eq, rd27_0, hk, hw]
    refine ⟨_, value_runs t _ day, ?_⟩
    simp [hw, hw2]
  · simp [rd27_0_eq, rd27_0]

theorem cover10_runs (t : Tm) (l : List Pl) (day : Int) (hl : l.length ≤ maxLen) : Runs T 10 [encT t, pls l, .int day] (if checkF t l day = 0 then .tup [.int (coverF t l day), .int 0] else .tup [.int 0, .int (checkF t l day)]) := by
  refine .of_tree rfl rfl tr10_eq ?_
  simp [tr10]
  refine ⟨_, check_runs t l day hl, ?_⟩
  by_cases h : checkF t l day = 0
  · have hl' : l.length ≤ 50 := by
      unfold checkF at h
      split at h
      · omega
      · omega
    simp [h]
    exact cover_runs t l day (by omega)
  · simp [h]
end Pool
