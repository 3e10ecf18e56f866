/-
  PoolSpare: the plain law; the statement's function returns true.
-/
import Derived.Test.YtaihcmbfhgmjgaaPoS
import Derived.Test.YtaihcmbfhgmjgaaPoE
set_option linter.unusedSimpArgs false
set_option linter.unusedVariables false
namespace Pool
open Go Go.Proofs Cx

theorem sumV_perm {v : Int → Int} {a b : List Int} (h : a.Perm b) : sumV v a = sumV v b := by
  induction h with
  | nil => rfl
  | cons x _ ih => simp only [sumV, List.map_cons, List.sum_cons] at *; omega
  | swap x y l => simp only [sumV, List.map_cons, List.sum_cons]; omega
  | trans _ _ i1 i2 => omega
theorem sumV_cons (v : Int → Int) (x : Int) (l : List Int) : sumV v (x :: l) = v x + sumV v l := by simp [sumV]

/-- what is left, and what has gone -/
theorem cover_wo (t : Tm) (l : List Pl) (day : Int) (out : List Int) : ∀ k, k ≤ l.length → coverF t (woF (l.take k) out) day + sumV (vI t l day) ((rng k).filter fun i => out.contains i) = coverF t (l.take k) day
  | 0, _ => by simp [woF, coverF, rng, sumV]
  | k + 1, hk => by
    have hkl : k < l.length := by omega
    have ih := cover_wo t l day out k (by omega)
    have hs : coverF t (l.take (k + 1)) day = coverF t (l.take k) day + valF t l[k] day := by
      rw [List.take_succ_eq_append_getElem hkl, cover_append]; simp [coverF]
    have hv : vI t l day (k : Int) = valF t l[k] day := by simp [vI, List.getD_eq_getElem?_getD, List.getElem?_eq_getElem hkl]
    rw [woF_succ l out k hkl, rng_succ, List.filter_append, sumV_append, hs]
    by_cases h : (k : Int) ∈ out
    · have h' : out.contains (k : Int) = true := by simpa using h
      rw [if_pos h]
      simp [List.filter_cons, h, sumV] at *
      omega
    · rw [if_neg h, cover_append]
      simp [List.filter_cons, h, sumV, coverF] at *
      omega

theorem gre_take (v : Int → Int) : ∀ (S : List Int) (L : Int), 0 ≤ L → ∃ k, k ≤ S.length ∧ gre v L S = S.take k ∧ sumV v (S.take k) ≤ L ∧ (k < S.length → L < sumV v (S.take (k + 1)))
  | [], L, h => ⟨0, by simp, rfl, by simpa [sumV] using h, by simp⟩
  | x :: S, L, h => by
    by_cases hx : L - v x < 0
    · exact ⟨0, by simp, by simp [gre, hx], by simpa [sumV] using h, fun _ => by simp [sumV]; omega⟩
    · obtain ⟨k, h1, h2, h3, h4⟩ := gre_take v S (L - v x) (by omega)
      refine ⟨k + 1, by simp; omega, by simp [gre, hx, h2], by simp [sumV_cons]; omega, fun hk => ?_⟩
      have := h4 (by simpa using hk)
      simp only [List.take_succ_cons, sumV_cons]; omega

/-- the least sums -/
theorem take_less (v : Int → Int) : ∀ (m : Nat) (S : List Int) (x : Int), (x :: S).Pairwise (fun a b => v a ≤ v b) → m ≤ S.length → sumV v ((x :: S).take m) ≤ sumV v (S.take m)
  | 0, _, _, _, _ => by simp
  | m + 1, [], _, _, h => by simp at h
  | m + 1, y :: S, x, hp, h => by
    have h1 := List.pairwise_cons.1 hp
    have ih := take_less v m S y h1.2 (by simpa using h)
    have := h1.1 y List.mem_cons_self
    simp only [List.take_succ_cons, sumV_cons] at *
    omega
theorem least_sum (v : Int → Int) {O S : List Int} (h : O.Sublist S) (hp : S.Pairwise (fun a b => v a ≤ v b)) : sumV v (S.take O.length) ≤ sumV v O := by
  induction h with
  | slnil => simp
  | @cons O S x hs ih =>
    have := ih (List.pairwise_cons.1 hp).2
    have := take_less v O.length S x hp hs.length_le
    omega
  | @cons_cons O S x hs ih =>
    have := ih (List.pairwise_cons.1 hp).2
    simp only [List.length_cons, List.take_succ_cons, sumV_cons]; omega
theorem sum_take_mono (v : Int → Int) (h0 : ∀ x, 0 ≤ v x) (S : List Int) {a b : Nat} (h : a ≤ b) : sumV v (S.take a) ≤ sumV v (S.take b) := by
  have e : S.take b = S.take a ++ (S.drop a).take (b - a) := by
    rw [show b = a + (b - a) by omega, List.take_add]; simp
  have : ∀ X : List Int, 0 ≤ sumV v X := fun X => by
    induction X with
    | nil => simp [sumV]
    | cons x X ih => have := h0 x; rw [sumV_cons]; omega
  have := this ((S.drop a).take (b - a))
  rw [e, sumV_append]; omega

/-- what Spare gives back, as plain lists -/
theorem spare_law (t : Tm) (l : List Pl) (day : Int) (hL : 0 ≤ coverF t l day - t.loan) :
    (insSort (preF t l day)).Pairwise (· < ·) ∧ (∀ x, x ∈ insSort (preF t l day) → 0 ≤ x ∧ x < l.length) ∧ t.loan ≤ coverF t (woF l (insSort (preF t l day))) day ∧
    ∀ p : Int → Bool, (insSort (preF t l day)).length < ((rng l.length).filter p).length → coverF t (woF l ((rng l.length).filter p)) day < t.loan := by
  obtain ⟨k, h1, h2, h3, h4⟩ := gre_take (vI t l day) (srt (vI t l day) (rng l.length)) (coverF t l day - t.loan) hL
  have hnd : (rng l.length).Nodup := (rng_sorted l.length).imp fun h => by omega
  have hp : preF t l day = (srt (vI t l day) (rng l.length)).take k := h2
  have hperm := insSort_perm (preF t l day)
  have hsub : (preF t l day).Sublist (srt (vI t l day) (rng l.length)) := by rw [hp]; exact List.take_sublist _ _
  have hSnd : (srt (vI t l day) (rng l.length)).Nodup := (srt_perm _ _).nodup_iff.2 hnd
  have hSl : (srt (vI t l day) (rng l.length)).length = l.length := by rw [(srt_perm _ _).length_eq, rng_len]
  have hpnd : (insSort (preF t l day)).Nodup := hperm.nodup_iff.2 (hSnd.sublist hsub)
  have hmem : ∀ x, x ∈ insSort (preF t l day) → 0 ≤ x ∧ x < l.length := fun x hx => rng_mem.1 ((srt_perm _ _).mem_iff.1 (hsub.subset (hperm.mem_iff.1 hx)))
  have hall := fun out => cover_wo t l day out l.length (Nat.le_refl _)
  rw [List.take_length] at hall
  refine ⟨?_, hmem, ?_, fun p hlen => ?_⟩
  · exact ((insSort_sorted (preF t l day)).and hpnd).imp fun ⟨h, hne⟩ => by omega
  · have e : sumV (vI t l day) ((rng l.length).filter fun i => (insSort (preF t l day)).contains i) = sumV (vI t l day) (preF t l day) := by
      refine sumV_perm (List.Perm.trans ?_ hperm)
      refine (List.perm_ext_iff_of_nodup (hnd.sublist List.filter_sublist) hpnd).2 fun x => ?_
      simp only [List.mem_filter, List.contains_eq_mem, decide_eq_true_eq]
      exact ⟨fun h => h.2, fun h => ⟨rng_mem.2 (hmem x h), h⟩⟩
    have := hall (insSort (preF t l day))
    have h3' : sumV (vI t l day) (preF t l day) ≤ coverF t l day - t.loan := by rw [hp]; exact h3
    rw [e] at this
    omega
  · have e : (rng l.length).filter (fun i => ((rng l.length).filter p).contains i) = (rng l.length).filter p := by
      refine List.filter_congr fun x hx => ?_
      simp only [List.contains_eq_mem, List.mem_filter, hx, true_and]
      cases p x <;> simp
    have e2 : sumV (vI t l day) ((rng l.length).filter p) = sumV (vI t l day) ((srt (vI t l day) (rng l.length)).filter p) := sumV_perm ((srt_perm _ _).symm.filter p)
    have e3 : ((rng l.length).filter p).length = ((srt (vI t l day) (rng l.length)).filter p).length := ((srt_perm (vI t l day) (rng l.length)).symm.filter p).length_eq
    have hk : (insSort (preF t l day)).length = k := by rw [hperm.length_eq, hp, List.length_take]; omega
    have hml : ((srt (vI t l day) (rng l.length)).filter p).length ≤ l.length := by
      have := (List.filter_sublist (p := p) (l := srt (vI t l day) (rng l.length))).length_le
      omega
    have hs := least_sum (vI t l day) (List.filter_sublist (p := p) (l := srt (vI t l day) (rng l.length))) ((srt_sorted _ _ hnd).imp fun h => by unfold ltV at h; omega)
    have hm := sum_take_mono (vI t l day) (fun x => (vI_bounds t l day x).1) (srt (vI t l day) (rng l.length)) (a := k + 1) (b := ((srt (vI t l day) (rng l.length)).filter p).length) (by omega)
    have h4 := h4 (by omega)
    have := hall ((rng l.length).filter p)
    rw [e, e2] at this
    omega

/-- is a number in the set? -/
def bitU (set : Int) (i : Int) : Bool := arI .and .u64 (arI .shr .u64 set i) 1 == 1

theorem wo_sub {l : List Pl} {out : List Int} {p : Pl} (h : p ∈ woF l out) : p ∈ l := by
  unfold woF at h
  obtain ⟨x, hx, rfl⟩ := List.mem_map.1 h
  exact (List.mem_zipIdx (List.mem_filter.1 hx).1).2.2 ▸ List.getElem_mem _
theorem wo_check {t : Tm} {l : List Pl} {day : Int} (out : List Int) (h : checkF t l day = 0) : checkF t (woF l out) day = 0 := by
  have hc := check_zero.1 h
  have := woF_len l out
  exact check_zero.2 ⟨by omega, hc.2.1, hc.2.2.1, fun p hp => hc.2.2.2 p (wo_sub hp)⟩

theorem spare5_runs (t : Tm) (l : List Pl) (day set : Int) (hl : l.length ≤ maxLen) : Runs T 5 [encT t, pls l, .int day, .v (.int .u64 set)] (.bool true) := by
  refine .of_tree rfl rfl tr5_eq ?_
  simp [tr5]
  refine ⟨_, sane_runs, ?_⟩
  simp
  refine ⟨_, few_runs l, ?_⟩
  simp
  by_cases hf : l.length ≤ 60
  case neg => simp [hf]
  simp [hf]
  refine ⟨_, check_runs t l day hl, ?_⟩
  by_cases c1 : checkF t l day = 0
  case neg => simp [c1]
  have hc := check_zero.1 c1
  simp [c1]
  refine ⟨_, cover10_runs t l day hl, ?_⟩
  simp [c1]
  refine ⟨_, spare_runs t l day hl, ?_⟩
  by_cases c2 : coverF t l day - t.loan < 0
  · have c2' : coverF t l day < t.loan := by omega
    simp [spareF, c1, c2, c2']
  have c2' : ¬ coverF t l day < t.loan := by omega
  obtain ⟨g1, g2, g3, g4⟩ := spare_law t l day (by omega)
  simp [spareF, c1, c2, c2']
  have hol : (insSort (preF t l day)).length ≤ 50 := by
    obtain ⟨k, h1, h2, _⟩ := gre_take (vI t l day) (srt (vI t l day) (rng l.length)) (coverF t l day - t.loan) (by omega)
    have hp : preF t l day = (srt (vI t l day) (rng l.length)).take k := h2
    have hS : (srt (vI t l day) (rng l.length)).length = l.length := by rw [(srt_perm _ _).length_eq, rng_len]
    rw [(insSort_perm _).length_eq, hp, List.length_take]; omega
  generalize insSort (preF t l day) = out at *
  refine EvP.forRounds out.length (fun k => [.bool false, .int k]) (fun _ => []) ?_ (fun k hk => ?_) ?_
  · simp
  · have hw : IntKind.i64.wrap ((k : Int) + 1) = (k : Int) + 1 := wrap64_id (by omega)
    have hm := g2 out[k] (List.getElem_mem hk)
    have n1 : ¬ out[k] < 0 := by omega
    have n2 : ¬ (l.length : Int) ≤ out[k] := by omega
    have hrise : 0 < k → ¬ out[k] ≤ out.getD (k - 1) 0 := fun h0 => by
      have := List.pairwise_iff_getElem.1 g1 (k - 1) k (by omega) hk (by omega)
      rw [List.getD_eq_getElem?_getD, List.getElem?_eq_getElem (by omega : k - 1 < out.length)]
      simp only [Option.getD_some]; omega
    simp only [rd5_0_eq, rd5_0]
    by_cases h0 : k = 0
    · subst h0
      simp [hk, n1, n2, ints]
    · have hk0 : 0 < k := by omega
      obtain ⟨j, hj⟩ : ∃ j, j = k - 1 := ⟨_, rfl⟩
      rw [← hj] at hrise
      have hw1 : IntKind.i64.wrap ((k : Int) - 1) = (j : Int) := by rw [wrap64_id (by omega)]; omega
      have hjl : j < out.length := by omega
      have hr := hrise hk0
      rw [List.getD_eq_getElem?_getD, List.getElem?_eq_getElem hjl] at hr
      simp only [Option.getD_some] at hr
      simp [hk, hw, n1, n2, ints, hk0, hw1, hjl, hr]
  · simp [rd5_0_eq, rd5_0]
    refine ⟨_, without_runs l out (by omega) (by omega), ?_⟩
    refine ⟨_, cover10_runs t (woF l out) day (by have := woF_len l out; rw [maxLen_eq]; omega), ?_⟩
    have g3' : ¬ coverF t (woF l out) day < t.loan := by omega
    simp [wo_check out c1, g3']
    refine ⟨g3, ?_⟩
    refine EvP.forRounds l.length (fun k => [.none, .int k]) (fun k => [ints ((rng k).filter (bitU set))]) ?_ (fun k hk => ?_) ?_
    · simp [rng, ints]
    · have hw : IntKind.i64.wrap ((k : Int) + 1) = (k : Int) + 1 := wrap64_id (by omega)
      have hlen : ((rng k).filter (bitU set)).length ≤ k := by
        have := (List.filter_sublist (p := bitU set) (l := rng k)).length_le
        rwa [rng_len] at this
      rw [rng_succ, List.filter_append]
      generalize (rng k).filter (bitU set) = F at *
      simp only [rd5_1_eq, rd5_1]
      by_cases hb : bitU set k = true
      · have hb' : arI .and .u64 (arI .shr .u64 set k) 1 = 1 := by simpa [bitU] using hb
        simp [hk, hw, hb, hb', ints]
        omega
      · have hb' : ¬ arI .and .u64 (arI .shr .u64 set k) 1 = 1 := by simpa [bitU] using hb
        simp [hk, hw, hb, hb', ints]
    · simp [rd5_1_eq, rd5_1]
      have hlen : ((rng l.length).filter (bitU set)).length ≤ l.length := by
        have := (List.filter_sublist (p := bitU set) (l := rng l.length)).length_le
        rwa [rng_len] at this
      have g5 := g4 (bitU set)
      generalize (rng l.length).filter (bitU set) = other at *
      refine ⟨_, without_runs l other (by omega) (by omega), ?_⟩
      refine ⟨_, cover10_runs t (woF l other) day (by have := woF_len l other; rw [maxLen_eq]; omega), ?_⟩
      by_cases hle : other.length ≤ out.length
      · simp [wo_check other c1, hle, ints]
      · have := g5 (by omega)
        simp [wo_check other c1, hle, this, ints]
end Pool
