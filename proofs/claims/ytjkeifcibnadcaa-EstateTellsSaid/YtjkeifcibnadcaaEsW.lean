/-
  Numbers of five digits to the base 2^30.
-/
import Derived.Test.YtjkeifcibnadcaaEsV
set_option linter.unusedSimpArgs false
set_option linter.unusedVariables false
namespace Esta
open Go Go.Proofs Cx

/-- the k-th digit -/
def dg (x k : Nat) : Nat := match k with
  | 0 => x % 1073741824
  | 1 => x / 1073741824 % 1073741824
  | 2 => x / 1152921504606846976 % 1073741824
  | 3 => x / 1237940039285380274899124224 % 1073741824
  | _ => x / 1329227995784915872903807060280344576 % 1073741824
def L5 (f : Nat → Nat) (k : Nat) : List Int := [if 0 < k then (f 0 : Int) else 0, if 1 < k then (f 1 : Int) else 0, if 2 < k then (f 2 : Int) else 0, if 3 < k then (f 3 : Int) else 0, if 4 < k then (f 4 : Int) else 0]
def D5 (x : Nat) : List Int := [(dg x 0 : Int), (dg x 1 : Int), (dg x 2 : Int), (dg x 3 : Int), (dg x 4 : Int)]
def V (x : Nat) : D := ints (D5 x)
theorem dg_lt (x k : Nat) : dg x k < 1073741824 := by unfold dg; split <;> omega
theorem five {k : Nat} (h : k < 5) : k = 0 ∨ k = 1 ∨ k = 2 ∨ k = 3 ∨ k = 4 := by omega
theorem quo_rem {t c r : Int} (h : t = c * 1073741824 + r) (hc : 0 ≤ c ∧ c < 8589934592) (hr : 0 ≤ r ∧ r < 1073741824) : IntKind.i64.wrap (t.tdiv 1073741824) = c ∧ t.tmod 1073741824 = r := by
  have h0 : 0 ≤ t := by omega
  rw [Int.tdiv_eq_ediv_of_nonneg h0, Int.tmod_eq_emod_of_nonneg h0, wrap64_id (by omega)]
  omega

/-! plus -/
def car (x y k : Nat) : Nat := match k with
  | 0 => 0
  | 1 => (x % 1073741824 + y % 1073741824) / 1073741824
  | 2 => (x % 1152921504606846976 + y % 1152921504606846976) / 1152921504606846976
  | 3 => (x % 1237940039285380274899124224 + y % 1237940039285380274899124224) / 1237940039285380274899124224
  | 4 => (x % 1329227995784915872903807060280344576 + y % 1329227995784915872903807060280344576) / 1329227995784915872903807060280344576
  | _ => (x % 1427247692705959881058285969449495136382746624 + y % 1427247692705959881058285969449495136382746624) / 1427247692705959881058285969449495136382746624
theorem plus_step (x y : Nat) {k : Nat} (h : k < 5) : car x y k + dg x k + dg y k = car x y (k + 1) * 1073741824 + dg (x + y) k ∧ car x y k ≤ 1 := by
  rcases five h with rfl | rfl | rfl | rfl | rfl <;> simp only [car, dg] <;> omega
theorem plus_runs (x y : Nat) : Runs T 62 [V x, V y] (V (x + y)) := by
  refine .of_tree rfl rfl tr62_eq ?_
  simp [tr62]
  refine EvP.forRounds 5 (fun k => [.int (car x y k), .int k]) (fun k => [ints (L5 (dg (x + y)) k)]) ?_ (fun k hk => ?_) ?_
  · simp [car, L5, ints]
  · have hw : IntKind.i64.wrap ((k : Int) + 1) = (k : Int) + 1 := wrap64_id (by omega)
    obtain ⟨h1, h2⟩ := plus_step x y hk
    have h3 := dg_lt x k
    have h4 := dg_lt y k
    have h5 := dg_lt (x + y) k
    have w1 : IntKind.i64.wrap ((car x y k : Int) + dg x k) = (car x y k : Int) + dg x k := wrap64_id (by omega)
    have w2 : IntKind.i64.wrap ((car x y k : Int) + dg x k + dg y k) = (car x y k : Int) + dg x k + dg y k := wrap64_id (by omega)
    obtain ⟨q1, q2⟩ := quo_rem (t := (car x y k : Int) + dg x k + dg y k) (c := car x y (k + 1)) (r := dg (x + y) k) (by omega) (by omega) (by omega)
    rcases five hk with rfl | rfl | rfl | rfl | rfl <;> simp [rd62_0_eq, rd62_0, V, D5, L5] at * <;> simp [rd62_0_eq, rd62_0, V, D5, L5, ints, w1, w2, q1, q2, hw] <;> (repeat' (first | exact wrap64_id (by omega) | apply And.intro))
  · simp [rd62_0_eq, rd62_0, L5, V, D5, ints]

theorem natneg (n : Nat) : ((n : Int) < 0) = False := by simp
/-! minus -/
def bor (x y k : Nat) : Nat := match k with
  | 0 => 0
  | 1 => if x % 1073741824 < y % 1073741824 then 1 else 0
  | 2 => if x % 1152921504606846976 < y % 1152921504606846976 then 1 else 0
  | 3 => if x % 1237940039285380274899124224 < y % 1237940039285380274899124224 then 1 else 0
  | 4 => if x % 1329227995784915872903807060280344576 < y % 1329227995784915872903807060280344576 then 1 else 0
  | _ => if x % 1427247692705959881058285969449495136382746624 < y % 1427247692705959881058285969449495136382746624 then 1 else 0
theorem minus_step (x y : Nat) (hxy : y ≤ x) {k : Nat} (h : k < 5) : (dg x k : Int) - dg y k - bor x y k = (dg (x - y) k : Int) - bor x y (k + 1) * 1073741824 ∧ bor x y k ≤ 1 ∧ bor x y (k + 1) ≤ 1 := by
  rcases five h with rfl | rfl | rfl | rfl | rfl <;> simp only [bor, dg] <;> (repeat' split) <;> omega
theorem minus_runs (x y : Nat) (hxy : y ≤ x) : Runs T 64 [V x, V y] (V (x - y)) := by
  refine .of_tree rfl rfl tr64_eq ?_
  simp [tr64]
  refine EvP.forRounds 5 (fun k => [.int (bor x y k), .int k]) (fun k => [ints (L5 (dg (x - y)) k)]) ?_ (fun k hk => ?_) ?_
  · simp [bor, L5, ints]
  · have hw : IntKind.i64.wrap ((k : Int) + 1) = (k : Int) + 1 := wrap64_id (by omega)
    obtain ⟨h1, h2, h6⟩ := minus_step x y hxy hk
    have h3 := dg_lt x k
    have h4 := dg_lt y k
    have h5 := dg_lt (x - y) k
    have w1 : IntKind.i64.wrap ((dg x k : Int) - dg y k) = (dg x k : Int) - dg y k := wrap64_id (by omega)
    have w2 : IntKind.i64.wrap ((dg x k : Int) - dg y k - bor x y k) = (dg x k : Int) - dg y k - bor x y k := wrap64_id (by omega)
    have w3 : IntKind.i64.wrap ((dg x k : Int) - dg y k - bor x y k + 1073741824) = (dg x k : Int) - dg y k - bor x y k + 1073741824 := wrap64_id (by omega)
    have w4 : IntKind.i64.wrap (dg (x - y) k : Int) = dg (x - y) k := wrap64_id (by omega)
    have n4 : ¬ (dg (x - y) k : Int) < 0 := by omega
    by_cases c : bor x y (k + 1) = 1
    · have hn : (dg x k : Int) - dg y k - bor x y k < 0 := by omega
      have hv : (dg x k : Int) - dg y k - bor x y k + 1073741824 = dg (x - y) k := by omega
      rcases five hk with rfl | rfl | rfl | rfl | rfl <;> simp at c hn hv w1 w2 w3 w4 <;> simp [rd64_0_eq, rd64_0, V, D5, L5, ints, w1, w2, w3, w4, natneg, hw, hn, hv, c] <;> (repeat' (first | exact wrap64_id (by omega) | apply And.intro))
    · have c0 : bor x y (k + 1) = 0 := by omega
      have hn : ¬ (dg x k : Int) - dg y k - bor x y k < 0 := by omega
      have hv : (dg x k : Int) - dg y k - bor x y k = dg (x - y) k := by omega
      rcases five hk with rfl | rfl | rfl | rfl | rfl <;> simp at c0 hn hv w1 w2 w3 w4 <;> simp [rd64_0_eq, rd64_0, V, D5, L5, ints, w1, w2, w3, w4, natneg, hw, hn, hv, c0] <;> (repeat' (first | exact wrap64_id (by omega) | apply And.intro))
  · simp [rd64_0_eq, rd64_0, L5, V, D5, ints]

/-! which is greater -/
theorem cmp_runs (x y : Nat) (hx : x < 1427247692705959881058285969449495136382746624) (hy : y < 1427247692705959881058285969449495136382746624) : Runs T 63 [V x, V y] (.int (if x < y then -1 else if y < x then 1 else 0)) := by
  refine .of_tree rfl rfl tr63_eq ?_
  simp [tr63]
  refine EvP.forLoop (α := Nat) (fun m vr vo => m ≤ 5 ∧ (∀ k, m ≤ k → k < 5 → dg x k = dg y k) ∧ vr = [.int 0, .int ((m : Int) - 1)] ∧ vo = []) (fun m => m) 5 ⟨by omega, fun k h1 h2 => by omega, by simp, by simp⟩ ?_
  rintro m vr vo ⟨hm, heq, rfl, rfl⟩
  have hh : ∀ k, k < 5 → dg x k < dg y k → (∀ j, k < j → j < 5 → dg x j = dg y j) → x < y := fun k hk h he => by
    have e1 := he 1; have e2 := he 2; have e3 := he 3; have e4 := he 4
    rcases five hk with rfl | rfl | rfl | rfl | rfl <;> simp [dg] at h e1 e2 e3 e4 <;> omega
  have hh2 : ∀ k, k < 5 → dg y k < dg x k → (∀ j, k < j → j < 5 → dg x j = dg y j) → y < x := fun k hk h he => by
    have e1 := he 1; have e2 := he 2; have e3 := he 3; have e4 := he 4
    rcases five hk with rfl | rfl | rfl | rfl | rfl <;> simp [dg] at h e1 e2 e3 e4 <;> omega
  by_cases h0 : m = 0
  · subst h0
    have e0 := heq 0; have e1 := heq 1; have e2 := heq 2; have e3 := heq 3; have e4 := heq 4
    have : x = y := by simp [dg] at e0 e1 e2 e3 e4; omega
    subst this
    simp [rd63_0_eq, rd63_0]
  · obtain ⟨k, rfl⟩ : ∃ k, m = k + 1 := ⟨m - 1, by omega⟩
    have hk : k < 5 := by omega
    have hgx : ∀ z, (D5 z).getD k 0 = dg z k := fun z => by rcases five hk with rfl | rfl | rfl | rfl | rfl <;> simp [D5]
    have hl : ∀ z, (D5 z).length = 5 := fun z => rfl
    have hgx2 : ∀ z, (D5 z)[k]'(by rw [hl]; exact hk) = dg z k := fun z => by rw [← hgx z]; simp [hl, hk]
    have hkI : (k : Int) < 5 := by omega
    have hwk : IntKind.i64.wrap ((k : Int) - 1) = (k : Int) - 1 := wrap64_id (by omega)
    by_cases c1 : dg x k < dg y k
    · have := hh k hk c1 fun j h1 h2 => heq j (by omega) h2
      simp [rd63_0_eq, rd63_0, V, ints, hl, hk, hkI, hgx2, c1, this]
    · by_cases c2 : dg y k < dg x k
      · have h3 := hh2 k hk c2 fun j h1 h2 => heq j (by omega) h2
        have h4 : ¬ x < y := by omega
        simp [rd63_0_eq, rd63_0, V, ints, hl, hk, hkI, hgx2, c1, c2, h3, h4]
      · simp [rd63_0_eq, rd63_0, V, ints, hl, hk, hkI, hgx2, c1, c2, hwk]
        exact ⟨k, by omega, by omega, fun j h1 h2 => by
          by_cases e : j = k
          · subst e; omega
          · exact heq j (by omega) h2, by omega⟩

/-! of a number -/
theorem of_runs (n : Nat) (hn : n < 9223372036854775808) : Runs T 60 [.int n] (V n) := by
  refine .of_tree rfl rfl tr60_eq ?_
  simp [tr60]
  refine EvP.forRounds 3 (fun k => [.int ((match k with | 0 => n | 1 => n / 1073741824 | 2 => n / 1152921504606846976 | _ => n / 1237940039285380274899124224 : Nat) : Int), .int k]) (fun k => [ints (L5 (dg n) k)]) ?_ (fun k hk => ?_) ?_
  · simp [L5, ints]
  · have key : ∀ m : Nat, m < 9223372036854775808 → IntKind.i64.wrap ((m : Int).tdiv 1073741824) = ((m / 1073741824 : Nat) : Int) ∧ (m : Int).tmod 1073741824 = ((m % 1073741824 : Nat) : Int) := fun m hm => by
      rw [Int.tdiv_eq_ediv_of_nonneg (by omega), Int.tmod_eq_emod_of_nonneg (by omega), wrap64_id (by omega)]
      omega
    have hw : IntKind.i64.wrap ((k : Int) + 1) = (k : Int) + 1 := wrap64_id (by omega)
    have h3 : k = 0 ∨ k = 1 ∨ k = 2 := by omega
    rcases h3 with rfl | rfl | rfl
    · obtain ⟨k1, k2⟩ := key n hn
      have k3 : IntKind.i64.wrap ((n : Int) / 1073741824) = ((n / 1073741824 : Nat) : Int) := by rw [Int.tdiv_eq_ediv_of_nonneg (by omega)] at k1; exact k1
      have d0 : n % 1073741824 = dg n 0 := rfl
      rw [d0] at k2
      simp [rd60_0_eq, rd60_0, L5, ints, k1, k2, k3, natneg, hw, -Int.natCast_ediv, -Int.natCast_emod] <;> (try exact wrap64_id (by omega))
    · obtain ⟨k1, k2⟩ := key (n / 1073741824) (by omega)
      have d0 : n / 1073741824 % 1073741824 = dg n 1 := rfl
      have d1 : n / 1073741824 / 1073741824 = n / 1152921504606846976 := by omega
      rw [d0] at k2
      rw [d1] at k1
      have k3 := k1
      rw [Int.tdiv_eq_ediv_of_nonneg (by omega)] at k3
      simp [rd60_0_eq, rd60_0, L5, ints, k1, k2, k3, natneg, hw, -Int.natCast_ediv, -Int.natCast_emod] <;> (try exact wrap64_id (by omega))
    · obtain ⟨k1, k2⟩ := key (n / 1152921504606846976) (by omega)
      have d0 : n / 1152921504606846976 % 1073741824 = dg n 2 := rfl
      have d1 : n / 1152921504606846976 / 1073741824 = n / 1237940039285380274899124224 := by omega
      rw [d0] at k2
      rw [d1] at k1
      have k3 := k1
      rw [Int.tdiv_eq_ediv_of_nonneg (by omega)] at k3
      simp [rd60_0_eq, rd60_0, L5, ints, k1, k2, k3, natneg, hw, -Int.natCast_ediv, -Int.natCast_emod] <;> (try exact wrap64_id (by omega))
  · have e3 : dg n 3 = 0 := by simp only [dg]; omega
    have e4 : dg n 4 = 0 := by simp only [dg]; omega
    simp [rd60_0_eq, rd60_0, L5, V, D5, ints, e3, e4]

/-! a product -/
theorem sum5 (x : Nat) (h : x < 1427247692705959881058285969449495136382746624) : x = dg x 0 + 1073741824 * dg x 1 + 1152921504606846976 * dg x 2 + 1237940039285380274899124224 * dg x 3 + 1329227995784915872903807060280344576 * dg x 4 := by
  simp only [dg]; omega
theorem dg_of {W e0 e1 e2 e3 e4 : Nat} (h : W = e0 + 1073741824 * e1 + 1152921504606846976 * e2 + 1237940039285380274899124224 * e3 + 1329227995784915872903807060280344576 * e4)
    (h0 : e0 < 1073741824) (h1 : e1 < 1073741824) (h2 : e2 < 1073741824) (h3 : e3 < 1073741824) (h4 : e4 < 1073741824) : dg W 0 = e0 ∧ dg W 1 = e1 ∧ dg W 2 = e2 ∧ dg W 3 = e3 ∧ dg W 4 = e4 := by
  simp only [dg]; omega
def cr (O i d b : Nat) : Nat → Nat
  | 0 => 0
  | k + 1 => (cr O i d b k + dg O (i + k) + d * dg b k) / 1073741824
def er (O i d b k : Nat) : Nat := (cr O i d b k + dg O (i + k) + d * dg b k) % 1073741824
def Mk (O i d b k : Nat) : List Int := (List.range 5).map fun j => ((if i ≤ j ∧ j < i + k then er O i d b (j - i) else dg O j : Nat) : Int)
theorem mul_lt (d b k : Nat) (hd : d < 1073741824) : d * dg b k ≤ 1152921502459363329 := by
  have := Nat.mul_le_mul (show d ≤ 1073741823 by omega) (show dg b k ≤ 1073741823 by have := dg_lt b k; omega)
  omega
theorem cr_lt (O i d b : Nat) (hd : d < 1073741824) : ∀ k, cr O i d b k < 1073741824
  | 0 => by simp [cr]
  | k + 1 => by
    have h1 := cr_lt O i d b hd k
    have h2 := dg_lt O (i + k)
    have h3 := mul_lt d b k hd
    show (cr O i d b k + dg O (i + k) + d * dg b k) / 1073741824 < 1073741824
    omega
def pw (i : Nat) : Nat := match i with | 0 => 1 | 1 => 1073741824 | 2 => 1152921504606846976 | 3 => 1237940039285380274899124224 | _ => 1329227995784915872903807060280344576
theorem Mk_end (O i d b : Nat) (hi : i < 5) (hO : O < 1427247692705959881058285969449495136382746624) (hb : b < 1427247692705959881058285969449495136382746624) (hW : O + pw i * (d * b) < 1427247692705959881058285969449495136382746624) : Mk O i d b (5 - i) = D5 (O + pw i * (d * b)) := by
  have sO := sum5 O hO
  have sb : d * b = d * dg b 0 + 1073741824 * (d * dg b 1) + 1152921504606846976 * (d * dg b 2) + 1237940039285380274899124224 * (d * dg b 3) + 1329227995784915872903807060280344576 * (d * dg b 4) := by
    conv => lhs; rw [sum5 b hb]
    simp only [Nat.mul_add, Nat.mul_left_comm d]
  rw [sb] at hW ⊢
  have st : ∀ k, cr O i d b k + dg O (i + k) + d * dg b k = 1073741824 * cr O i d b (k + 1) + er O i d b k := fun k => (Nat.div_add_mod _ _).symm
  have el : ∀ k, er O i d b k < 1073741824 := fun k => Nat.mod_lt _ (by decide)
  have z0 : cr O i d b 0 = 0 := rfl
  have s0 := st 0; have s1 := st 1; have s2 := st 2; have s3 := st 3; have s4 := st 4
  have l0 := el 0; have l1 := el 1; have l2 := el 2; have l3 := el 3; have l4 := el 4
  have o0 := dg_lt O 0; have o1 := dg_lt O 1; have o2 := dg_lt O 2; have o3 := dg_lt O 3
  clear st el
  rcases five hi with rfl | rfl | rfl | rfl | rfl
  · simp only [pw, Nat.zero_add, Nat.reduceAdd] at hW s0 s1 s2 s3 s4 z0 l0 l1 l2 l3 l4 ⊢
    generalize d * dg b 0 = p0 at *
    generalize d * dg b 1 = p1 at *
    generalize d * dg b 2 = p2 at *
    generalize d * dg b 3 = p3 at *
    generalize d * dg b 4 = p4 at *
    obtain ⟨q0, q1, q2, q3, q4⟩ := dg_of (W := O + 1 * (p0 + 1073741824 * p1 + 1152921504606846976 * p2 + 1237940039285380274899124224 * p3 + 1329227995784915872903807060280344576 * p4)) (e0 := er O 0 d b 0) (e1 := er O 0 d b 1) (e2 := er O 0 d b 2) (e3 := er O 0 d b 3) (e4 := er O 0 d b 4) (by omega) l0 l1 l2 l3 l4
    unfold D5
    rw [q0, q1, q2, q3, q4]
    rfl
  · simp only [pw, Nat.zero_add, Nat.reduceAdd] at hW s0 s1 s2 s3 s4 z0 l0 l1 l2 l3 l4 ⊢
    generalize d * dg b 0 = p0 at *
    generalize d * dg b 1 = p1 at *
    generalize d * dg b 2 = p2 at *
    generalize d * dg b 3 = p3 at *
    generalize d * dg b 4 = p4 at *
    obtain ⟨q0, q1, q2, q3, q4⟩ := dg_of (W := O + 1073741824 * (p0 + 1073741824 * p1 + 1152921504606846976 * p2 + 1237940039285380274899124224 * p3 + 1329227995784915872903807060280344576 * p4)) (e0 := dg O 0) (e1 := er O 1 d b 0) (e2 := er O 1 d b 1) (e3 := er O 1 d b 2) (e4 := er O 1 d b 3) (by omega) o0 l0 l1 l2 l3
    unfold D5
    rw [q0, q1, q2, q3, q4]
    rfl
  · simp only [pw, Nat.zero_add, Nat.reduceAdd] at hW s0 s1 s2 s3 s4 z0 l0 l1 l2 l3 l4 ⊢
    generalize d * dg b 0 = p0 at *
    generalize d * dg b 1 = p1 at *
    generalize d * dg b 2 = p2 at *
    generalize d * dg b 3 = p3 at *
    generalize d * dg b 4 = p4 at *
    obtain ⟨q0, q1, q2, q3, q4⟩ := dg_of (W := O + 1152921504606846976 * (p0 + 1073741824 * p1 + 1152921504606846976 * p2 + 1237940039285380274899124224 * p3 + 1329227995784915872903807060280344576 * p4)) (e0 := dg O 0) (e1 := dg O 1) (e2 := er O 2 d b 0) (e3 := er O 2 d b 1) (e4 := er O 2 d b 2) (by omega) o0 o1 l0 l1 l2
    unfold D5
    rw [q0, q1, q2, q3, q4]
    rfl
  · simp only [pw, Nat.zero_add, Nat.reduceAdd] at hW s0 s1 s2 s3 s4 z0 l0 l1 l2 l3 l4 ⊢
    generalize d * dg b 0 = p0 at *
    generalize d * dg b 1 = p1 at *
    generalize d * dg b 2 = p2 at *
    generalize d * dg b 3 = p3 at *
    generalize d * dg b 4 = p4 at *
    obtain ⟨q0, q1, q2, q3, q4⟩ := dg_of (W := O + 1237940039285380274899124224 * (p0 + 1073741824 * p1 + 1152921504606846976 * p2 + 1237940039285380274899124224 * p3 + 1329227995784915872903807060280344576 * p4)) (e0 := dg O 0) (e1 := dg O 1) (e2 := dg O 2) (e3 := er O 3 d b 0) (e4 := er O 3 d b 1) (by omega) o0 o1 o2 l0 l1
    unfold D5
    rw [q0, q1, q2, q3, q4]
    rfl
  · simp only [pw, Nat.zero_add, Nat.reduceAdd] at hW s0 s1 s2 s3 s4 z0 l0 l1 l2 l3 l4 ⊢
    generalize d * dg b 0 = p0 at *
    generalize d * dg b 1 = p1 at *
    generalize d * dg b 2 = p2 at *
    generalize d * dg b 3 = p3 at *
    generalize d * dg b 4 = p4 at *
    obtain ⟨q0, q1, q2, q3, q4⟩ := dg_of (W := O + 1329227995784915872903807060280344576 * (p0 + 1073741824 * p1 + 1152921504606846976 * p2 + 1237940039285380274899124224 * p3 + 1329227995784915872903807060280344576 * p4)) (e0 := dg O 0) (e1 := dg O 1) (e2 := dg O 2) (e3 := dg O 3) (e4 := er O 4 d b 0) (by omega) o0 o1 o2 o3 l0
    unfold D5
    rw [q0, q1, q2, q3, q4]
    rfl
end Esta
