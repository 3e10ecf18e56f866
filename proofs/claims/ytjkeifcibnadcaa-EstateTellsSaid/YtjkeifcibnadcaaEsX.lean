/-
  The product and the quotient of numbers of five digits.
-/
import Derived.Test.YtjkeifcibnadcaaEsW
set_option linter.unusedSimpArgs false
set_option linter.unusedVariables false
namespace Esta
open Go Go.Proofs Cx

theorem Mk_len (O i d b k : Nat) : (Mk O i d b k).length = 5 := by simp [Mk]
theorem Mk_zero (O i d b : Nat) : Mk O i d b 0 = D5 O := by
  have h : ∀ j, ¬ (i ≤ j ∧ j < i + 0) := fun j => by omega
  unfold Mk
  simp only [h, if_false]
  rfl
theorem Mk_at (O i d b k : Nat) (h : i + k < 5) : (Mk O i d b k)[i + k]'(by rw [Mk_len]; exact h) = (dg O (i + k) : Int) := by simp [Mk]
theorem Mk_succ (O i d b k : Nat) (h : i + k < 5) : Mk O i d b (k + 1) = (Mk O i d b k).set (i + k) (er O i d b k : Int) := by
  apply List.ext_getElem
  · simp [Mk]
  · intro j h1 h2
    rw [List.getElem_set]
    simp only [Mk, List.getElem_map, List.getElem_range]
    by_cases e : i + k = j
    · subst e
      have : i ≤ i + k ∧ i + k < i + (k + 1) := by omega
      rw [if_pos this, if_pos rfl, show i + k - i = k by omega]
    · rw [if_neg e]
      by_cases c : i ≤ j ∧ j < i + k
      · rw [if_pos c, if_pos (by omega)]
      · rw [if_neg c, if_neg (by omega)]
def lw (a i : Nat) : Nat := match i with | 0 => 0 | 1 => a % 1073741824 | 2 => a % 1152921504606846976 | 3 => a % 1237940039285380274899124224 | 4 => a % 1329227995784915872903807060280344576 | _ => a % 1427247692705959881058285969449495136382746624
theorem lw_succ (a : Nat) {i : Nat} (hi : i < 5) : lw a (i + 1) = lw a i + pw i * dg a i := by
  rcases five hi with rfl | rfl | rfl | rfl | rfl <;> simp only [lw, pw, dg] <;> omega
theorem lw_le (a : Nat) (i : Nat) : lw a i ≤ a := by
  unfold lw; split <;> omega
theorem D5_len (x : Nat) : (D5 x).length = 5 := rfl
theorem D5_at (x : Nat) {k : Nat} (h : k < 5) : (D5 x)[k]'(by rw [D5_len]; exact h) = (dg x k : Int) := by
  rcases five h with rfl | rfl | rfl | rfl | rfl <;> rfl

set_option maxHeartbeats 4000000 in
theorem times59_runs (a b : Nat) (ha : a < 1427247692705959881058285969449495136382746624) (hb : b < 1427247692705959881058285969449495136382746624) (hab : a * b < 1427247692705959881058285969449495136382746624) : Runs T 59 [V a, V b] (V (a * b)) := by
  refine .of_tree rfl rfl tr59_eq ?_
  simp [tr59]
  refine EvP.forRounds 5 (fun i => [.int i]) (fun i => [V (lw a i * b)]) ?_ (fun i hi => ?_) ?_
  · simp [lw, V, D5, ints, dg]
  · have hw : IntKind.i64.wrap ((i : Int) + 1) = (i : Int) + 1 := wrap64_id (by omega)
    have hi5 : (i : Int) < 5 := by omega
    have hlw : lw a i * b ≤ a * b := Nat.mul_le_mul_right _ (lw_le a i)
    have hlw2 : lw a (i + 1) * b ≤ a * b := Nat.mul_le_mul_right _ (lw_le a (i + 1))
    have hsucc : lw a (i + 1) * b = lw a i * b + pw i * (dg a i * b) := by rw [lw_succ a hi, Nat.add_mul, Nat.mul_assoc]
    rw [hsucc] at hlw2 ⊢
    have hend := Mk_end (lw a i * b) i (dg a i) b hi (by omega) hb (by omega)
    have hd := dg_lt a i
    generalize lw a i * b = O at *
    generalize hdd : dg a i = d at *
    simp [rd59_1_eq, rd59_1, hi5, hw]
    refine EvP.forRounds (5 - i) (fun k => [.int (cr O i d b k), .int k]) (fun k => [ints (Mk O i d b k)]) ?_ (fun k hk => ?_) ?_
    · simp [cr, Mk_zero, V]
    · have hik : i + k < 5 := by omega
      have hk5 : k < 5 := by omega
      have hwk : IntKind.i64.wrap ((k : Int) + 1) = (k : Int) + 1 := wrap64_id (by omega)
      have hwi : IntKind.i64.wrap ((i : Int) + (k : Int)) = ((i + k : Nat) : Int) := by rw [wrap64_id (by omega)]; omega
      have hikI : ((i + k : Nat) : Int) < 5 := by omega
      have h1 := cr_lt O i d b hd k
      have h1' := cr_lt O i d b hd (k + 1)
      have h2 := dg_lt O (i + k)
      have h3 := mul_lt d b k hd
      have hst : cr O i d b k + dg O (i + k) + d * dg b k = 1073741824 * cr O i d b (k + 1) + er O i d b k := (Nat.div_add_mod _ _).symm
      have hel : er O i d b k < 1073741824 := Nat.mod_lt _ (by decide)
      have wp : IntKind.i64.wrap ((d : Int) * (dg b k : Int)) = ((d * dg b k : Nat) : Int) := by rw [← Int.natCast_mul]; exact wrap64_id (by omega)
      have g1 := Mk_at O i d b k hik
      have g2 := D5_at a hi
      rw [hdd] at g2
      have g3 := D5_at b hk5
      rw [Mk_succ O i d b k hik]
      have hml := Mk_len O i d b k
      generalize d * dg b k = P at *
      have w1 : IntKind.i64.wrap ((cr O i d b k : Int) + (dg O (i + k) : Int)) = (cr O i d b k : Int) + (dg O (i + k) : Int) := wrap64_id (by omega)
      have w2 : IntKind.i64.wrap ((cr O i d b k : Int) + (dg O (i + k) : Int) + (P : Int)) = (cr O i d b k : Int) + (dg O (i + k) : Int) + (P : Int) := wrap64_id (by omega)
      obtain ⟨q1, q2⟩ := quo_rem (t := (cr O i d b k : Int) + (dg O (i + k) : Int) + (P : Int)) (c := cr O i d b (k + 1)) (r := er O i d b k) (by omega) (by omega) (by omega)
      simp [rd59_0_eq, rd59_0, V, hwi, hikI, hik, hi, hk5, hml, D5_len, g1, g2, g3, wp, w1, w2, q1, q2, hwk, -Int.natCast_add]
      exact ⟨by omega, by omega, by omega, by simp [ints]⟩
    · have hwi : IntKind.i64.wrap ((i : Int) + ((5 - i : Nat) : Int)) = 5 := by rw [wrap64_id (by omega)]; omega
      simp [rd59_0_eq, rd59_0, hwi, hend, V]
  · have : lw a 5 = a := by simp only [lw]; omega
    simp [rd59_1_eq, rd59_1, this]

/-! the quotient, bit by bit -/
theorem dg_pw (x : Nat) {m : Nat} (h : m < 5) : dg x m = x / pw m % 1073741824 := by
  rcases five h with rfl | rfl | rfl | rfl | rfl <;> simp [dg, pw]
theorem pw_eq {m : Nat} (h : m < 5) : pw m = 2 ^ (30 * m) := by
  rcases five h with rfl | rfl | rfl | rfl | rfl <;> rfl
theorem bit_of (A : Nat) {m j : Nat} (hm : m < 5) (hj : j < 30) : dg A m / 2 ^ j % 2 = A / 2 ^ (30 * m + j) % 2 := by
  have hB : 1073741824 = 2 ^ j * 2 ^ (30 - j) := by rw [← Nat.pow_add, show j + (30 - j) = 30 by omega]
  have h2 : 2 ∣ 2 ^ (30 - j) := by
    rw [show 30 - j = (29 - j) + 1 by omega, Nat.pow_succ]; exact Nat.dvd_mul_left _ _
  rw [dg_pw A hm, hB, Nat.mod_mul_right_div_self, Nat.mod_mod_of_dvd _ h2, Nat.div_div_eq_div_mul, pw_eq hm, ← Nat.pow_add]
theorem room (q : Nat) {m j : Nat} (hm : m < 5) (hj : j < 30) : dg (q * 2 ^ (30 * m + j + 1)) m + 2 ^ j < 1073741824 := by
  have hB : 1073741824 = 2 ^ (j + 1) * 2 ^ (29 - j) := by rw [← Nat.pow_add, show j + 1 + (29 - j) = 30 by omega]
  have h1 : q * 2 ^ (30 * m + j + 1) / 2 ^ (30 * m) = 2 ^ (j + 1) * q := by
    rw [show 30 * m + j + 1 = (j + 1) + 30 * m by omega, Nat.pow_add, ← Nat.mul_assoc, Nat.mul_div_cancel _ (Nat.two_pow_pos _), Nat.mul_comm]
  rw [dg_pw _ hm, pw_eq hm, h1]
  have h2 : 2 ^ (j + 1) * q % 1073741824 = 2 ^ (j + 1) * (q % 2 ^ (29 - j)) := by
    conv => lhs; rw [hB]
    exact Nat.mul_mod_mul_left _ _ _
  rw [h2]
  have h3 : q % 2 ^ (29 - j) + 1 ≤ 2 ^ (29 - j) := Nat.mod_lt _ (Nat.two_pow_pos _)
  have h4 : 2 ^ (j + 1) * (q % 2 ^ (29 - j) + 1) ≤ 2 ^ (j + 1) * 2 ^ (29 - j) := Nat.mul_le_mul_left _ h3
  rw [← hB, Nat.mul_add, Nat.mul_one] at h4
  have h5 : 2 ^ (j + 1) = 2 * 2 ^ j := by rw [Nat.pow_succ, Nat.mul_comm]
  have h6 := Nat.two_pow_pos j
  omega
theorem D5_set (Q w : Nat) {m : Nat} (hm : m < 5) (hQ : Q < 1427247692705959881058285969449495136382746624) (h : dg Q m + w < 1073741824) : (D5 Q).set m ((dg Q m : Int) + w) = D5 (Q + pw m * w) := by
  have s := sum5 Q hQ
  have l0 := dg_lt Q 0; have l1 := dg_lt Q 1; have l2 := dg_lt Q 2; have l3 := dg_lt Q 3; have l4 := dg_lt Q 4
  have fin : ∀ f : Nat → Nat, dg (Q + pw m * w) 0 = f 0 ∧ dg (Q + pw m * w) 1 = f 1 ∧ dg (Q + pw m * w) 2 = f 2 ∧ dg (Q + pw m * w) 3 = f 3 ∧ dg (Q + pw m * w) 4 = f 4 → D5 (Q + pw m * w) = [(f 0 : Int), (f 1 : Int), (f 2 : Int), (f 3 : Int), (f 4 : Int)] := fun f ⟨a, b, c, d, e⟩ => by unfold D5; rw [a, b, c, d, e]
  rw [fin (fun j => if j = m then dg Q m + w else dg Q j) ?_]
  · rcases five hm with rfl | rfl | rfl | rfl | rfl <;> simp [D5]
  · rcases five hm with rfl | rfl | rfl | rfl | rfl <;> simp only [pw] at * <;> exact dg_of (by simp; omega) (by simp; omega) (by simp; omega) (by simp; omega) (by simp; omega) (by simp; omega)

theorem shr64 (a s : Nat) (h : s ≤ 64) : arI .shr .i64 a s = ((a / 2 ^ s : Nat) : Int) := by
  show Int.fdiv (a : Int) (2 ^ (min (s : Int).toNat 64)) = _
  have : min (s : Int).toNat 64 = s := by simp; omega
  rw [this, Int.fdiv_eq_ediv_of_nonneg _ (Int.le_of_lt (Int.pow_pos (by decide)))]
  rw [Int.natCast_ediv, Int.natCast_pow]; rfl
theorem shl64 (s : Nat) (h : s < 30) : arI .shl .i64 1 s = ((2 ^ s : Nat) : Int) := by
  show IntKind.i64.wrap ((1 : Int) * (2 ^ (min (s : Int).toNat 64))) = _
  have : min (s : Int).toNat 64 = s := by simp; omega
  have hp : 2 ^ s ≤ 2 ^ 29 := Nat.pow_le_pow_right (by decide) (by omega)
  have e : (1 : Int) * 2 ^ s = ((2 ^ s : Nat) : Int) := by rw [Int.one_mul, Int.natCast_pow]; rfl
  rw [this, e]
  generalize 2 ^ s = z at hp ⊢
  exact wrap64_id (by omega)
theorem half_bit (A i : Nat) : A / 2 ^ i = 2 * (A / 2 ^ (i + 1)) + A / 2 ^ i % 2 := by
  rw [Nat.pow_succ, ← Nat.div_div_eq_div_mul]; omega
theorem div_step (A b i : Nat) (hb : 0 < b) : let r1 := 2 * (A / 2 ^ (i + 1) % b) + A / 2 ^ i % 2
    (A / 2 ^ i % b = if b ≤ r1 then r1 - b else r1) ∧ (A / 2 ^ i / b = 2 * (A / 2 ^ (i + 1) / b) + if b ≤ r1 then 1 else 0) := by
  intro r1
  have h1 := half_bit A i
  have h2 := Nat.div_add_mod (A / 2 ^ (i + 1)) b
  have h3 := Nat.mod_lt (A / 2 ^ (i + 1)) hb
  have h4 : A / 2 ^ i % 2 < 2 := Nat.mod_lt _ (by decide)
  have hr : A / 2 ^ i = b * (2 * (A / 2 ^ (i + 1) / b)) + r1 := by
    have : b * (2 * (A / 2 ^ (i + 1) / b)) = 2 * (b * (A / 2 ^ (i + 1) / b)) := Nat.mul_left_comm ..
    omega
  have hlt : r1 < 2 * b := by omega
  generalize A / 2 ^ (i + 1) / b = Q at *
  by_cases c : b ≤ r1
  · rw [if_pos c, if_pos c]
    have : A / 2 ^ i = (r1 - b) + b * (2 * Q + 1) := by rw [Nat.mul_add]; omega
    rw [this]
    constructor
    · rw [Nat.add_mul_mod_self_left, Nat.mod_eq_of_lt (by omega)]
    · rw [Nat.add_mul_div_left _ _ hb, Nat.div_eq_of_lt (by omega)]; omega
  · rw [if_neg c, if_neg c]
    have : A / 2 ^ i = r1 + b * (2 * Q) := by omega
    rw [this]
    constructor
    · rw [Nat.add_mul_mod_self_left, Nat.mod_eq_of_lt (by omega)]
    · rw [Nat.add_mul_div_left _ _ hb, Nat.div_eq_of_lt (by omega)]; omega

set_option maxHeartbeats 4000000 in
theorem over_runs (A b : Nat) (hA : A < 1427247692705959881058285969449495136382746624) (hb : 0 < b) (hb2 : b < 9223372036854775808) : Runs T 58 [V A, V b] (.tup [V (A / b), V (A % b)]) := by
  refine .of_tree rfl rfl tr58_eq ?_
  simp [tr58]
  have hA' : A / 2 ^ 150 = 0 := Nat.div_eq_of_lt (by simpa using hA)
  refine EvP.forLoop (α := Nat) (fun m vr vo => m ≤ 150 ∧ vr = [.none, .int ((m : Int) - 1)] ∧ vo = [V (A / 2 ^ m % b), V (A / 2 ^ m / b * 2 ^ m)]) (fun m => m) 150 ⟨Nat.le_refl _, by simp, by rw [hA']; simp [V, D5, dg, ints]⟩ ?_
  rintro m vr vo ⟨hm, rfl, rfl⟩
  by_cases h0 : m = 0
  · subst h0
    simp [rd58_0_eq, rd58_0]
  · obtain ⟨i, rfl⟩ : ∃ i, m = i + 1 := ⟨m - 1, by omega⟩
    have hi : i < 150 := by omega
    obtain ⟨hr, hq⟩ := div_step A b i hb
    have hbit : A / 2 ^ i % 2 < 2 := Nat.mod_lt _ (by decide)
    have hr0 : A / 2 ^ (i + 1) % b < b := Nat.mod_lt _ hb
    have hmm : i / 30 < 5 := by omega
    have hjj : i % 30 < 30 := Nat.mod_lt _ (by decide)
    have hij : 30 * (i / 30) + i % 30 = i := Nat.div_add_mod i 30
    have hb1 := bit_of A hmm hjj
    rw [hij] at hb1
    have hQlt : A / 2 ^ (i + 1) / b * 2 ^ (i + 1) ≤ A := Nat.le_trans (Nat.mul_le_mul_right _ (Nat.div_le_self _ _)) (Nat.div_mul_le_self _ _)
    have hroom := room (A / 2 ^ (i + 1) / b) hmm hjj
    rw [hij] at hroom
    have hset := D5_set (A / 2 ^ (i + 1) / b * 2 ^ (i + 1)) (2 ^ (i % 30)) hmm (by omega) hroom
    have hpw : pw (i / 30) * 2 ^ (i % 30) = 2 ^ i := by rw [pw_eq hmm, ← Nat.pow_add, hij]
    rw [hpw] at hset
    have hqd : IntKind.i64.wrap ((i : Int).tdiv 30) = ((i / 30 : Nat) : Int) := by rw [Int.tdiv_eq_ediv_of_nonneg (by omega), wrap64_id (by omega)]; omega
    have hqd2 : IntKind.i64.wrap ((i : Int) / 30) = ((i / 30 : Nat) : Int) := by rw [wrap64_id (by omega)]; omega
    have hrm : (i : Int).tmod 30 = ((i % 30 : Nat) : Int) := by rw [Int.tmod_eq_emod_of_nonneg (by omega)]; omega
    have hwi : IntKind.i64.wrap ((i : Int) - 1) = (i : Int) - 1 := wrap64_id (by omega)
    have hpl := plus_runs (A / 2 ^ (i + 1) % b) (A / 2 ^ (i + 1) % b)
    have hga := D5_at A hmm
    generalize A / 2 ^ (i + 1) % b = r0 at *
    have hd0 : dg (r0 + r0) 0 + A / 2 ^ i % 2 < 1073741824 := by
      have := dg_lt (r0 + r0) 0
      simp only [dg] at *; omega
    have hset0 := D5_set (r0 + r0) (A / 2 ^ i % 2) (m := 0) (by decide) (by omega) hd0
    simp only [pw, Nat.one_mul] at hset0
    have hshr : arI .shr .i64 (dg A (i / 30) : Int) ((i % 30 : Nat) : Int) = ((dg A (i / 30) / 2 ^ (i % 30) : Nat) : Int) := shr64 _ _ (by omega)
    have hshl := shl64 (i % 30) hjj
    have hm2 : ((dg A (i / 30) / 2 ^ (i % 30) : Nat) : Int).tmod 2 = ((A / 2 ^ i % 2 : Nat) : Int) := by
      rw [Int.tmod_eq_emod_of_nonneg (Int.natCast_nonneg _), ← hb1]; rfl
    have hcm := cmp_runs (r0 + r0 + A / 2 ^ i % 2) b (by omega) (by omega)
    generalize A / 2 ^ i % 2 = t at *
    have wt : IntKind.i64.wrap ((dg (r0 + r0) 0 : Int) + (t : Int)) = (dg (r0 + r0) 0 : Int) + (t : Int) := wrap64_id (by omega)
    have hgo : (D5 A)[i / 30]? = some (dg A (i / 30) : Int) := by rw [List.getElem?_eq_getElem (by rw [D5_len]; exact hmm), hga]
    have hz : (D5 (r0 + r0))[0]'(by rw [D5_len]; decide) = (dg (r0 + r0) 0 : Int) := rfl
    have hv0 : D.list ((List.map D.int (D5 (r0 + r0))).set 0 (D.int ((dg (r0 + r0) 0 : Int) + (t : Int)))) = ints (D5 (r0 + r0 + t)) := by rw [← hset0]; simp [ints]
    have hmI : ((i / 30 : Nat) : Int) < 5 := by omega
    simp [rd58_0_eq, rd58_0, -Int.natCast_ediv, -Int.natCast_emod]
    refine ⟨_, hpl, ?_⟩
    simp [hqd, hqd2, hrm, V, D5_len, hgo, hz, hshr, hm2, wt, hv0, hmI, -Int.natCast_ediv, -Int.natCast_emod, -Int.natCast_add]
    refine ⟨_, hcm, ?_⟩
    have h2r : r0 + r0 + t = 2 * r0 + t := by omega
    by_cases c : b ≤ 2 * r0 + t
    · rw [if_pos c] at hr hq
      have c1 : ¬ r0 + r0 + t < b := by omega
      have hmi := minus_runs (r0 + r0 + t) b (by omega)
      have hcv : (0 : Int) ≤ (if r0 + r0 + t < b then -1 else if b < r0 + r0 + t then 1 else 0) := by
        rw [if_neg c1]; split <;> decide
      simp [hcv]
      refine ⟨_, hmi, ?_⟩
      have hval : A / 2 ^ i / b * 2 ^ i = A / 2 ^ (i + 1) / b * 2 ^ (i + 1) + 2 ^ i := by
        rw [hq, Nat.add_mul, Nat.one_mul, Nat.mul_comm 2 (A / 2 ^ (i + 1) / b), Nat.mul_assoc, Nat.mul_comm 2 (2 ^ i), ← Nat.pow_succ]
      generalize A / 2 ^ (i + 1) / b * 2 ^ (i + 1) = QQ at *
      have hgq : (D5 QQ)[i / 30]? = some (dg QQ (i / 30) : Int) := by rw [List.getElem?_eq_getElem (by rw [D5_len]; exact hmm), D5_at QQ hmm]
      have hshl2 : arI .shl .i64 1 ((i : Int) % 30) = ((2 ^ (i % 30) : Nat) : Int) := by
        have : ((i : Int) % 30) = ((i % 30 : Nat) : Int) := by omega
        rw [this]; exact hshl
      refine ⟨i, by omega, by omega, hwi, by rw [hr, h2r]; rfl, ?_⟩
      rw [hval, ← hset, hgq, hshl2]
      have hwq : IntKind.i64.wrap ((dg QQ (i / 30) : Int) + ((2 ^ (i % 30) : Nat) : Int)) = (dg QQ (i / 30) : Int) + ((2 ^ (i % 30) : Nat) : Int) := by
        generalize 2 ^ (i % 30) = z at *
        exact wrap64_id (by omega)
      simp only [Option.map_some, Option.getD_some, dint_i, hwq, splice_I]
      simp [ints]
    · rw [if_neg c] at hr hq
      have c1 : r0 + r0 + t < b := by omega
      simp [c1]
      have hval : A / 2 ^ i / b * 2 ^ i = A / 2 ^ (i + 1) / b * 2 ^ (i + 1) := by
        rw [hq, Nat.add_zero, Nat.mul_comm 2 (A / 2 ^ (i + 1) / b), Nat.mul_assoc, Nat.mul_comm 2 (2 ^ i), ← Nat.pow_succ]
      exact ⟨i, by omega, by omega, hwi, by rw [hr, h2r], by rw [hval]⟩

theorem shl30 (n : Int) : arI .shl .i64 n 30 = IntKind.i64.wrap (n * 1073741824) := rfl
theorem shl60 (n : Int) : arI .shl .i64 n 60 = IntKind.i64.wrap (n * 1152921504606846976) := rfl
theorem three (x0 x1 x2 q : Int) (h : q = x0 + x1 * 1073741824 + x2 * 1152921504606846976) (h0 : 0 ≤ x0 ∧ x0 < 1073741824) (h1 : 0 ≤ x1 ∧ x1 < 1073741824) (h2 : 0 ≤ x2 ∧ x2 < 8) :
    IntKind.i64.wrap (IntKind.i64.wrap (x0 + IntKind.i64.wrap (x1 * 1073741824)) + IntKind.i64.wrap (x2 * 1152921504606846976)) = q := by
  rw [wrap64_id (n := x1 * 1073741824) (by omega), wrap64_id (n := x2 * 1152921504606846976) (by omega), wrap64_id (n := x0 + x1 * 1073741824) (by omega), wrap64_id (by omega), h]
theorem times55_runs (a b c : Nat) (ha : a ≤ 1099511627776) (hb : b ≤ 1099511627776) (hbc : b ≤ c) (hc : 0 < c) (hc2 : c < 9223372036854775808) : Runs T 55 [.int a, .int b, .int c] (.int ((a * b / c : Nat) : Int)) := by
  refine .of_tree rfl rfl tr55_eq ?_
  have hm : a * b ≤ 1099511627776 * b := Nat.mul_le_mul_right _ ha
  have hq : a * b / c ≤ a := by
    have : a * b ≤ a * c := Nat.mul_le_mul_left _ hbc
    have h2 := Nat.div_le_div_right (c := c) this
    rwa [Nat.mul_div_cancel _ hc] at h2
  have ht := times59_runs a b (by omega) (by omega) (by omega)
  have ho := over_runs (a * b) c (by omega) hc hc2
  generalize a * b / c = Q at *
  have e3 : (Q : Int) = (dg Q 0 : Int) + (dg Q 1 : Int) * 1073741824 + (dg Q 2 : Int) * 1152921504606846976 := by simp only [dg]; omega
  have l0 := dg_lt Q 0
  have l1 := dg_lt Q 1
  have l2 : dg Q 2 < 8 := by simp only [dg]; omega
  have w := three (dg Q 0) (dg Q 1) (dg Q 2) Q e3 (by omega) (by omega) (by omega)
  generalize hV : V Q = v at *
  have hv : v.l = [.int (dg Q 0), .int (dg Q 1), .int (dg Q 2), .int (dg Q 3), .int (dg Q 4)] := by rw [← hV]; rfl
  simp [tr55]
  refine ⟨_, of_runs a (by omega), _, of_runs b (by omega), _, ht, _, of_runs c hc2, _, ho, ?_⟩
  simp [hv, shl30, shl60]
  exact w
theorem times_int (a b c : Int) (ha : 0 ≤ a) (ha2 : a ≤ 1099511627776) (hb : 0 ≤ b) (hb2 : b ≤ 1099511627776) (hc : b ≤ c) (hc0 : 0 < c) (hc2 : c < 9223372036854775808) : Runs T 55 [.int a, .int b, .int c] (.int (a * b / c)) := by
  obtain ⟨n, rfl⟩ := Int.eq_ofNat_of_zero_le ha
  obtain ⟨m, rfl⟩ := Int.eq_ofNat_of_zero_le hb
  obtain ⟨k, rfl⟩ := Int.eq_ofNat_of_zero_le (show 0 ≤ c by omega)
  have := times55_runs n m k (by omega) (by omega) (by omega) (by omega) (by omega)
  rw [Int.natCast_ediv, Int.natCast_mul] at this
  exact this
end Esta
