/-
  What Spare returns: greedily, in the order of value and number.
-/
import Derived.Test.YtaihcmbfhgmjgaaPoL
import Derived.Test.YtaihcmbfhgmjgaaPoJ
set_option linter.unusedSimpArgs false
set_option linter.unusedVariables false
namespace Pool
open Go Go.Proofs Cx

def rng (n : Nat) : List Int := (List.range n).map fun i => ((i : Nat) : Int)
theorem rng_len (n : Nat) : (rng n).length = n := by simp [rng]
theorem rng_succ (n : Nat) : rng (n + 1) = rng n ++ [(n : Int)] := by simp [rng, List.range_succ]
theorem rng_mem {n : Nat} {x : Int} : x ∈ rng n ↔ 0 ≤ x ∧ x < n := by
  simp only [rng, List.mem_map, List.mem_range]
  constructor
  · rintro ⟨i, h, rfl⟩; omega
  · intro h; exact ⟨x.toNat, by omega, by omega⟩
theorem rng_sorted (n : Nat) : (rng n).Pairwise (· < ·) := by
  unfold rng
  refine List.pairwise_map.2 (List.pairwise_lt_range.imp fun h => by omega)
theorem rng_getD {n k : Nat} (h : k < n) : (rng n).getD k 0 = k := by
  simp [rng, List.getD_eq_getElem?_getD, List.getElem?_range, h]

/-- the value of a pledge by its number -/
def vI (t : Tm) (l : List Pl) (day : Int) (i : Int) : Int := valF t (l.getD i.toNat default) day
theorem vI_bounds (t : Tm) (l : List Pl) (day : Int) (i : Int) : 0 ≤ vI t l day i ∧ vI t l day i ≤ 1099511627776 := val_bounds _ _ _

def gre (v : Int → Int) : Int → List Int → List Int
  | _, [] => []
  | left, i :: s => if left - v i < 0 then [] else i :: gre v (left - v i) s
def sumV (v : Int → Int) (l : List Int) : Int := (l.map v).sum
theorem sumV_append (v : Int → Int) (a b : List Int) : sumV v (a ++ b) = sumV v a + sumV v b := by
  unfold sumV; rw [List.map_append]
  induction a with
  | nil => simp
  | cons x a ih => simp only [List.map_cons, List.cons_append, List.sum_cons, ih]; omega

@[simp] theorem pls_cells (l : List Pl) : (pls l).cells = [pls l] := _root_.id rfl
theorem diff_runs (t : Tm) (l : List Pl) (day : Int) (a b : Int) (ha : 0 ≤ a ∧ a < l.length) (hb : 0 ≤ b ∧ b < l.length) :
    Runs T 31 [.int a, .int b, .ref (encT t), .ref (pls l), .ref (.int day)] (.int (vI t l day a - vI t l day b)) := by
  obtain ⟨i, rfl⟩ : ∃ i : Nat, a = i := ⟨a.toNat, by omega⟩
  obtain ⟨j, rfl⟩ : ∃ j : Nat, b = j := ⟨b.toNat, by omega⟩
  have hi : i < l.length := by omega
  have hj : j < l.length := by omega
  have b1 := vI_bounds t l day i
  have b2 := vI_bounds t l day j
  have hw : IntKind.i64.wrap (vI t l day i - vI t l day j) = vI t l day i - vI t l day j := wrap64_id (by omega)
  have e1 : valF t l[i] day = vI t l day i := by simp [vI, List.getD_eq_getElem?_getD, List.getElem?_eq_getElem hi]
  have e2 : valF t l[j] day = vI t l day j := by simp [vI, List.getD_eq_getElem?_getD, List.getElem?_eq_getElem hj]
  refine .of_tree rfl rfl tr31_eq ?_
  simp [tr31, hi, hj]
  refine ⟨_, value_runs t _ day, ?_⟩
  simp [hj]
  refine ⟨_, value_runs t _ day, ?_⟩
  simp [e1, e2, hw]

theorem cmp_ok (t : Tm) (l : List Pl) (day : Int) : CmpOK (.clo 31 [.ref (encT t), .ref (pls l), .ref (.int day)]) l.length (vI t l day) :=
  ⟨31, _, rfl, fun x y h1 h2 h3 h4 => ⟨_, diff_runs t l day x y ⟨h1, h2⟩ ⟨h3, h4⟩, by omega⟩⟩

/-- what is given back, in the order in which it is taken -/
def preF (t : Tm) (l : List Pl) (day : Int) : List Int := gre (vI t l day) (coverF t l day - t.loan) (srt (vI t l day) (rng l.length))
def spareF (t : Tm) (l : List Pl) (day : Int) : D :=
  if checkF t l day = 0 then
    if coverF t l day - t.loan < 0 then .tup [.list [], .int 7] else .tup [ints (insSort (preF t l day)), .int 0]
  else .tup [.list [], .int (checkF t l day)]

theorem gre_split (v : Int → Int) : ∀ (S : List Int) (left : Int) (k : Nat), (∀ j, j < k → ¬ left - sumV v (S.take (j + 1)) < 0) → k ≤ S.length → gre v left S = S.take k ++ gre v (left - sumV v (S.take k)) (S.drop k)
  | S, left, 0, _, _ => by simp [sumV]
  | [], left, k + 1, _, h => by simp at h
  | x :: S, left, k + 1, hj, hk => by
    have h0 := hj 0 (by omega)
    simp [sumV] at h0
    have ih := gre_split v S (left - v x) k (fun j hjk => by
      have := hj (j + 1) (by omega)
      simp [sumV] at this ⊢
      omega) (by simpa using hk)
    have h0' : ¬ left - v x < 0 := by omega
    simp only [gre, if_neg h0', ih, List.take_succ_cons, List.drop_succ_cons, List.cons_append]
    have : left - v x - sumV v (S.take k) = left - sumV v (x :: S.take k) := by simp [sumV]; omega
    rw [this]

theorem spare_runs (t : Tm) (l : List Pl) (day : Int) (hl : l.length ≤ maxLen) : Runs T 14 [encT t, pls l, .int day] (spareF t l day) := by
  refine .of_tree rfl rfl tr14_eq ?_
  simp [tr14]
  refine ⟨_, check_runs t l day hl, ?_⟩
  unfold spareF
  by_cases c1 : checkF t l day = 0
  case neg => simp [c1]
  have hc := check_zero.1 c1
  have ht := tmOK_iff.1 hc.2.1
  have hcb := cover_bounds t l day
  have hw0 : IntKind.i64.wrap (coverF t l day - t.loan) = coverF t l day - t.loan := wrap64_id (by omega)
  simp [c1]
  refine ⟨_, cover_runs t l day (by omega), ?_⟩
  simp [hw0]
  by_cases c2 : coverF t l day - t.loan < 0
  · have c2' : coverF t l day < t.loan := by omega
    simp [c2, c2']
  have c2' : ¬ coverF t l day < t.loan := by omega
  simp [c2, c2']
  refine ⟨by omega, ?_⟩
  refine EvP.forRounds l.length (fun k => [.int k]) (fun k => [ints (rng k ++ List.replicate (l.length - k) 0)]) ?_ (fun k hk => ?_) ?_
  · simp [rng, ints]
  · have hw : IntKind.i64.wrap ((k : Int) + 1) = (k : Int) + 1 := wrap64_id (by omega)
    have hlen : (rng k ++ List.replicate (l.length - k) (0 : Int)).length = l.length := by simp [rng_len]; omega
    have hset : (rng k ++ List.replicate (l.length - k) (0 : Int)).set k (k : Int) = rng (k + 1) ++ List.replicate (l.length - (k + 1)) 0 := by
      rw [show l.length - k = (l.length - (k + 1)) + 1 by omega, List.replicate_succ, set_mid _ _ _ _ (by rw [rng_len]), rng_succ]
      simp
    generalize rng k ++ List.replicate (l.length - k) (0 : Int) = W at *
    have i1 : k < W.length := by omega
    rw [← hset]
    simp [rd14_0_eq, rd14_0, hk, hw, i1, spliceI]
    simp [ints, List.map_set]
  · have hS : (srt (vI t l day) (rng l.length)).length = l.length := by rw [(srt_perm _ _).length_eq, rng_len]
    simp [rd14_0_eq, rd14_0]
    refine ⟨_, stable_runs (cmp_ok t l day) (rng l.length) (rng_sorted _) (fun x hx => rng_mem.1 hx) (by rw [rng_len]; omega), ?_⟩
    unfold preF
    generalize hSe : srt (vI t l day) (rng l.length) = S at *
    have hmem : ∀ k (h : k < S.length), 0 ≤ S[k] ∧ S[k] < l.length := fun k h => rng_mem.1 ((srt_perm (vI t l day) _).mem_iff.1 (by rw [hSe]; exact List.getElem_mem h))
    generalize hL : coverF t l day - t.loan = L at *
    refine EvP.forLoop (α := Nat)
      (fun k vr vo => k ≤ S.length ∧ (∀ j, j < k → ¬ L - sumV (vI t l day) (S.take (j + 1)) < 0) ∧ vr = [.int (L - sumV (vI t l day) (S.take k)), .none, .int k] ∧ vo = [ints (S.take k)])
      (fun k => S.length - k) 0 ⟨by omega, by simp, by simp [sumV, hL, hw0], by simp [ints]⟩ ?_
    rintro k vr vo ⟨hk, hj, rfl, rfl⟩
    have hsum0 : ∀ X : List Int, 0 ≤ sumV (vI t l day) X ∧ sumV (vI t l day) X ≤ 1099511627776 * X.length := fun X => by
      induction X with
      | nil => simp [sumV]
      | cons x X ih =>
        have := vI_bounds t l day x
        simp only [sumV, List.map_cons, List.sum_cons, List.length_cons] at *
        omega
    have hg := gre_split (vI t l day) S L k hj hk
    by_cases hlt : k < S.length
    · have hm := hmem k hlt
      obtain ⟨i, hi⟩ : ∃ i : Nat, S[k] = i := ⟨S[k].toNat, by omega⟩
      have hil : i < l.length := by omega
      have hvi : valF t l[i] day = vI t l day S[k] := by rw [hi]; simp [vI, List.getD_eq_getElem?_getD, List.getElem?_eq_getElem hil]
      have hs : sumV (vI t l day) (S.take (k + 1)) = sumV (vI t l day) (S.take k) + vI t l day S[k] := by
        rw [List.take_succ_eq_append_getElem hlt, sumV_append]; simp [sumV]
      have b1 := hsum0 (S.take (k + 1))
      have b2 := hsum0 (S.take k)
      have hb3 : (S.take k).length ≤ 50 := by rw [List.length_take]; omega
      have hb4 : (S.take (k + 1)).length ≤ 50 := by rw [List.length_take]; omega
      have hkl : k < l.length := by omega
      have hw : IntKind.i64.wrap ((k : Int) + 1) = (k : Int) + 1 := wrap64_id (by omega)
      have hw1 : IntKind.i64.wrap (L - sumV (vI t l day) (S.take k) - vI t l day S[k]) = L - sumV (vI t l day) (S.take (k + 1)) := by rw [wrap64_id (by omega)]; omega
      simp only [rd14_1_eq, rd14_1]
      simp [hS, hkl, hi, hil]
      refine ⟨_, value_runs t _ day, ?_⟩
      simp only [dint_i]
      rw [hvi, hw1]
      by_cases hneg : L - sumV (vI t l day) (S.take (k + 1)) < 0
      · rw [if_pos hneg]
        have hg1 : gre (vI t l day) L S = S.take k := by
          rw [hg, List.drop_eq_getElem_cons hlt]
          have : L - sumV (vI t l day) (S.take k) - vI t l day S[k] < 0 := by omega
          simp [gre, this]
        rw [hg1]
        refine ⟨_, sort_runs _ (by omega), ?_⟩
        simp
      · rw [if_neg hneg]
        have hw' : IntKind.i64.wrap ((k : Int) + 1) = ((k + 1 : Nat) : Int) := by rw [hw]; omega
        refine ⟨by omega, k + 1, by omega, by omega, fun j hjk => ?_, ⟨rfl, hw'⟩, ?_⟩
        · by_cases e : j = k
          · subst e; omega
          · have := hj j (by omega); omega
        · rw [List.take_succ_eq_append_getElem hlt, hi]
          simp [ints]
    · obtain rfl : k = S.length := by omega
      simp [List.take_length, gre] at hg
      rw [hg]
      simp [rd14_1_eq, rd14_1, hS]
      rw [← hS, List.take_length]
      refine ⟨_, sort_runs _ (by omega), ?_⟩
      simp
end Pool
