/-
  PoolUntil: the first day on which the cover is too small.
-/
import Derived.Test.YtaihcmbfhgmjgaaPoE
set_option linter.unusedSimpArgs false
set_option linter.unusedVariables false
namespace Pool
open Go Go.Proofs Cx

def dueF (l : List Pl) (day : Int) : List Int := (l.filter fun p => decide (day ≤ p.due) && decide (p.due < 100000)).map fun p => p.due + 1
def daysF (l : List Pl) (day : Int) : List Int := day :: dueF l day
theorem dueF_len (l : List Pl) (day : Int) : (dueF l day).length ≤ l.length := by
  unfold dueF; rw [List.length_map]; exact List.length_filter_le ..
def firstF (t : Tm) (l : List Pl) : List Int → Int
  | [] => -1
  | d :: ds => if coverF t l d < t.loan then d else firstF t l ds
theorem firstF_all (t : Tm) (l : List Pl) : ∀ ds : List Int, (∀ d, d ∈ ds → ¬ coverF t l d < t.loan) → firstF t l ds = -1
  | [], _ => rfl
  | d :: ds, h => by rw [firstF, if_neg (h d (List.mem_cons_self ..)), firstF_all t l ds fun x hx => h x (List.mem_cons_of_mem _ hx)]
theorem firstF_at (t : Tm) (l : List Pl) : ∀ (ds : List Int) (k : Nat) (hk : k < ds.length), (∀ j, j < k → ¬ coverF t l (ds.getD j 0) < t.loan) → coverF t l ds[k] < t.loan → firstF t l ds = ds[k]
  | d :: ds, 0, _, _, h => by
    have h' : coverF t l d < t.loan := h
    rw [firstF, if_pos h']; rfl
  | d :: ds, k + 1, hk, hj, h => by
    have h' : ¬ coverF t l d < t.loan := hj 0 (by omega)
    rw [firstF, if_neg h']
    exact firstF_at t l ds k (by simpa using hk) (fun j hjk => by simpa using hj (j + 1) (by omega)) h

theorem until_runs (t : Tm) (l : List Pl) (day : Int) (hl : l.length ≤ maxLen) : Runs T 16 [encT t, pls l, .int day]
    (if checkF t l day = 0 then .tup [.int (firstF t l (insSort (daysF l day))), .int 0] else .tup [.int 0, .int (checkF t l day)]) := by
  refine .of_tree rfl rfl tr16_eq ?_
  simp [tr16]
  refine ⟨_, check_runs t l day hl, ?_⟩
  by_cases c1 : checkF t l day = 0
  case neg => simp [c1]
  have hc := check_zero.1 c1
  simp [c1]
  refine EvP.forRounds l.length (fun k => [.none, .int k]) (fun k => [ints (daysF (l.take k) day)]) ?_ (fun k hk => ?_) ?_
  · simp [daysF, dueF, ints]
  · have hw : IntKind.i64.wrap ((k : Int) + 1) = (k : Int) + 1 := wrap64_id (by omega)
    have hp := plOK_iff.1 (hc.2.2.2 l[k] (List.getElem_mem hk))
    have hw2 : IntKind.i64.wrap (l[k].due + 1) = l[k].due + 1 := wrap64_id (by omega)
    have hlen := dueF_len (l.take k) day
    have hlen2 : (l.take k).length ≤ 50 := by rw [List.length_take]; omega
    have hs : daysF (l.take (k + 1)) day = if day ≤ l[k].due ∧ l[k].due < 100000 then daysF (l.take k) day ++ [l[k].due + 1] else daysF (l.take k) day := by
      rw [List.take_succ_eq_append_getElem hk]
      unfold daysF dueF
      rw [List.filter_append, List.map_append]
      by_cases h1 : day ≤ l[k].due <;> by_cases h2 : l[k].due < 100000 <;> simp [h1, h2]
    have hd : (daysF (l.take k) day).length ≤ 51 := by unfold daysF; rw [List.length_cons]; omega
    generalize daysF (l.take k) day = L at *
    rw [hs]
    simp [rd16_0_eq, rd16_0, hk, hw]
    by_cases h1 : day ≤ l[k].due <;> by_cases h2 : l[k].due < 100000 <;> simp [h1, h2, hw, hw2, ints]
    omega
  · simp [rd16_0_eq, rd16_0]
    have hlen : (daysF l day).length ≤ 51 := by
      have := dueF_len l day
      unfold daysF; rw [List.length_cons]; omega
    have hpos : 0 < (daysF l day).length := by simp [daysF]
    refine ⟨_, sort_runs _ (by omega), ?_⟩
    generalize hS : insSort (daysF l day) = S at *
    have hSl : S.length ≤ 51 := by rw [← hS, insSort_length]; exact hlen
    refine EvP.scan S.length (fun k => ¬ coverF t l (S.getD k 0) < t.loan) (fun k => [.int 0, .int 0, .int k]) (fun _ => []) ?_ (fun k hk hj ho => ?_) (fun k hk hj ho => ?_) (fun hj => ?_)
    · simp
    · have hw : IntKind.i64.wrap ((k : Int) + 1) = (k : Int) + 1 := wrap64_id (by omega)
      simp [hk] at ho
      simp [rd16_1_eq, rd16_1, hk, hw, ints]
      refine ⟨_, cover_runs t l _ (by omega), ?_⟩
      simp [ho, Int.not_lt.2 ho]
    · simp [hk] at ho
      simp [rd16_1_eq, rd16_1, hk, ints]
      refine ⟨_, cover_runs t l _ (by omega), ?_⟩
      simp [ho, firstF_at t l S k hk hj ho]
    · simp [rd16_1_eq, rd16_1, ints]
      refine (firstF_all t l S fun d hd => ?_).symm
      obtain ⟨j, hjl, rfl⟩ := List.getElem_of_mem hd
      have := hj j hjl
      rwa [List.getD_eq_getElem?_getD, List.getElem?_eq_getElem hjl] at this

/-! ### the law -/
theorem val_same {t : Tm} {p : Pl} {d e : Int} (h : d ≤ e) (hd : 0 ≤ d) (he : e ≤ 100000) (hn : e ≤ p.due ∨ p.due < d) : valF t p d ≤ valF t p e := by
  have hb := val_bounds t p e
  unfold valF
  have w1 : wi d 100000 = true := wi_iff.2 ⟨hd, by omega⟩
  have w2 : wi e 100000 = true := wi_iff.2 ⟨by omega, he⟩
  rw [w1, w2]
  split
  · rename_i hh
    have hh' := hh
    simp only [Bool.and_eq_true] at hh'
    have ht := tmOK_iff.1 hh'.1.1
    have hp := plOK_iff.1 hh'.2
    have h0 : 0 ≤ p.price * (1000 - t.hc) / 1000 := Int.ediv_nonneg (Int.mul_nonneg hp.1.1 (by omega)) (by omega)
    split
    · split <;> omega
    · rename_i c
      rw [if_neg (by omega)]; exact Int.le_refl _
  · exact Int.le_refl _
theorem cover_same {t : Tm} {d e : Int} (h : d ≤ e) (hd : 0 ≤ d) (he : e ≤ 100000) : ∀ l : List Pl, (∀ p, p ∈ l → e ≤ p.due ∨ p.due < d) → coverF t l d ≤ coverF t l e
  | [], _ => Int.le_refl _
  | p :: l, hp => by
    have h1 := val_same (t := t) h hd he (hp p (List.mem_cons_self ..))
    have h2 := cover_same (t := t) h hd he l fun q hq => hp q (List.mem_cons_of_mem _ hq)
    unfold coverF at *
    simp only [List.map_cons, List.sum_cons]
    omega
theorem max_below (e : Int) : ∀ (L : List Int) (a : Int), a ≤ e → ∃ m, m ∈ a :: L ∧ m ≤ e ∧ ∀ y, y ∈ a :: L → y ≤ e → y ≤ m
  | [], a, h => ⟨a, List.mem_cons_self .., h, fun y hy _ => by simp at hy; omega⟩
  | b :: L, a, h => by
    by_cases hb : b ≤ e
    · by_cases hab : a ≤ b
      · obtain ⟨m, h1, h2, h3⟩ := max_below e L b hb
        refine ⟨m, List.mem_cons_of_mem _ h1, h2, fun y hy hye => ?_⟩
        rcases List.mem_cons.1 hy with rfl | hy
        · have := h3 b (List.mem_cons_self ..) hb; omega
        · exact h3 y hy hye
      · obtain ⟨m, h1, h2, h3⟩ := max_below e L a h
        refine ⟨m, ?_, h2, fun y hy hye => ?_⟩
        · rcases List.mem_cons.1 h1 with rfl | h1
          · exact List.mem_cons_self ..
          · exact List.mem_cons_of_mem _ (List.mem_cons_of_mem _ h1)
        · rcases List.mem_cons.1 hy with rfl | hy
          · exact h3 y (List.mem_cons_self ..) hye
          · rcases List.mem_cons.1 hy with rfl | hy
            · have := h3 a (List.mem_cons_self ..) h; omega
            · exact h3 y (List.mem_cons_of_mem _ hy) hye
    · obtain ⟨m, h1, h2, h3⟩ := max_below e L a h
      refine ⟨m, ?_, h2, fun y hy hye => ?_⟩
      · rcases List.mem_cons.1 h1 with rfl | h1
        · exact List.mem_cons_self ..
        · exact List.mem_cons_of_mem _ (List.mem_cons_of_mem _ h1)
      · rcases List.mem_cons.1 hy with rfl | hy
        · exact h3 y (List.mem_cons_self ..) hye
        · rcases List.mem_cons.1 hy with rfl | hy
          · omega
          · exact h3 y (List.mem_cons_of_mem _ hy) hye

theorem firstF_cases (t : Tm) (l : List Pl) : ∀ S : List Int, (firstF t l S = -1 ∧ ∀ d, d ∈ S → t.loan ≤ coverF t l d) ∨
    (firstF t l S ∈ S ∧ coverF t l (firstF t l S) < t.loan ∧ (S.Pairwise (· ≤ ·) → ∀ d, d ∈ S → d < firstF t l S → t.loan ≤ coverF t l d))
  | [] => .inl ⟨rfl, fun d h => nomatch h⟩
  | x :: S => by
    by_cases hx : coverF t l x < t.loan
    · refine .inr ?_
      rw [firstF, if_pos hx]
      refine ⟨List.mem_cons_self .., hx, fun hS d hd hlt => ?_⟩
      rcases List.mem_cons.1 hd with rfl | hd
      · omega
      · have := (List.pairwise_cons.1 hS).1 d hd; omega
    · rw [firstF, if_neg hx]
      rcases firstF_cases t l S with ⟨h1, h2⟩ | ⟨h1, h2, h3⟩
      · refine .inl ⟨h1, fun d hd => ?_⟩
        rcases List.mem_cons.1 hd with rfl | hd
        · omega
        · exact h2 d hd
      · refine .inr ⟨List.mem_cons_of_mem _ h1, h2, fun hS d hd hlt => ?_⟩
        rcases List.mem_cons.1 hd with rfl | hd
        · omega
        · exact h3 (List.pairwise_cons.1 hS).2 d hd hlt

theorem days_mem {l : List Pl} {day d : Int} (h0 : 0 ≤ day) (h1 : day ≤ 100000) (h : d ∈ daysF l day) : day ≤ d ∧ d ≤ 100000 := by
  rcases List.mem_cons.1 h with rfl | h
  · omega
  · obtain ⟨p, hp, rfl⟩ := List.mem_map.1 h
    have := (List.mem_filter.1 hp).2
    simp at this
    omega
theorem until_law {t : Tm} {l : List Pl} {day : Int} (h0 : 0 ≤ day) (h1 : day ≤ 100000) {e : Int} (he : day ≤ e) (he2 : e ≤ 100000)
    (hu : firstF t l (insSort (daysF l day)) = -1 ∨ e < firstF t l (insSort (daysF l day))) : t.loan ≤ coverF t l e := by
  obtain ⟨m, hm, hme, hmax⟩ := max_below e (dueF l day) day he
  have hmd := days_mem h0 h1 (l := l) hm
  have hmS : m ∈ insSort (daysF l day) := (insSort_perm _).mem_iff.2 hm
  have hcm : t.loan ≤ coverF t l m := by
    rcases firstF_cases t l (insSort (daysF l day)) with ⟨a, b⟩ | ⟨a, b, c⟩
    · exact b m hmS
    · refine c (insSort_sorted _) m hmS ?_
      rcases hu with hu | hu
      · have := days_mem h0 h1 ((insSort_perm _).mem_iff.1 a)
        omega
      · omega
  refine Int.le_trans hcm (cover_same hme (by omega) he2 l fun p hp => ?_)
  by_cases c1 : e ≤ p.due
  · exact .inl c1
  · refine .inr ?_
    by_cases c2 : day ≤ p.due
    · have : p.due + 1 ∈ daysF l day := List.mem_cons_of_mem _ (List.mem_map.2 ⟨p, List.mem_filter.2 ⟨hp, by simp; omega⟩, rfl⟩)
      have := hmax _ this (by omega)
      omega
    · omega

set_option maxHeartbeats 4000000 in
theorem until6_runs (t : Tm) (l : List Pl) (day other : Int) (hl : l.length ≤ maxLen) : Runs T 6 [encT t, pls l, .int day, .int other] (.bool true) := by
  refine .of_tree rfl rfl tr6_eq ?_
  simp [tr6]
  refine ⟨_, sane_runs, _, few_runs l, ?_⟩
  by_cases h60 : l.length ≤ 60
  case neg => simp [h60]
  simp [h60]
  refine ⟨_, check_runs t l day hl, ?_⟩
  by_cases c1 : checkF t l day = 0
  case neg => simp [c1]
  have hc := check_zero.1 c1
  have hu := until_runs t l day hl
  rw [if_pos c1] at hu
  simp [c1]
  refine ⟨_, hu, ?_⟩
  have hlaw := fun e a b c => until_law (t := t) (l := l) hc.2.2.1.1 hc.2.2.1.2 (e := e) a b c
  have hcase := firstF_cases t l (insSort (daysF l day))
  have hmem : firstF t l (insSort (daysF l day)) ∈ insSort (daysF l day) → day ≤ firstF t l (insSort (daysF l day)) ∧ firstF t l (insSort (daysF l day)) ≤ 100000 := fun h => days_mem hc.2.2.1.1 hc.2.2.1.2 ((insSort_perm _).mem_iff.1 h)
  generalize firstF t l (insSort (daysF l day)) = u at *
  have chk : ∀ d, 0 ≤ d → d ≤ 100000 → checkF t l d = 0 := fun d h1 h2 => check_zero.2 ⟨hc.1, hc.2.1, ⟨h1, h2⟩, hc.2.2.2⟩
  by_cases u1 : u = -1
  · subst u1
    simp
    intro o1 o2
    have r := cover10_runs t l other hl
    rw [if_pos (chk other (by omega) (by omega))] at r
    refine ⟨_, r, ?_⟩
    simp
    exact hlaw other (by omega) (by omega) (.inl rfl)
  · have hu2 : day ≤ u ∧ u ≤ 100000 := by
      rcases hcase with ⟨a, _⟩ | ⟨a, _⟩
      · exact absurd a u1
      · exact hmem a
    have hu3 : coverF t l u < t.loan := by
      rcases hcase with ⟨a, _⟩ | ⟨_, a, _⟩
      · exact absurd a u1
      · exact a
    have a1 : ¬ u < day := by omega
    have a2 : ¬ 100000 < u := by omega
    have r := cover10_runs t l u hl
    rw [if_pos (chk u (by omega) (by omega))] at r
    have a3 : ¬ t.loan ≤ coverF t l u := by omega
    simp [u1, a1, a2]
    refine ⟨hu2, _, r, ?_⟩
    simp [a3, hu3]
    intro o1 o2 o3
    have r := cover10_runs t l other hl
    rw [if_pos (chk other (by omega) (by omega))] at r
    refine ⟨_, r, ?_⟩
    simp
    exact hlaw other (by omega) (by omega) (.inr (by omega))
end Pool
