/-
  PoolTerms: the program's own function returns true.
-/
import Derived.Test.YtaihcmbfhgmjgaaPoD
set_option linter.unusedSimpArgs false
set_option linter.unusedVariables false
namespace Pool
open Go Go.Proofs Cx

theorem ite_int (c : Prop) [Decidable c] (a b : Int) : (if c then D.int a else D.int b) = D.int (if c then a else b) := by split <;> rfl
theorem ite_intc (c : Prop) [Decidable c] (a b : Int) : (if c then D.int a else D.int b).cells = [D.int (if c then a else b)] := by split <;> rfl

theorem few_runs (l : List Pl) : Runs T 9 [pls l] (.bool (decide (l.length ≤ 60))) := by
  refine .of_tree rfl rfl tr9_eq ?_
  simp [tr9]; omega

def strictT (t u : Tm) : Tm := ⟨u.loan, if u.hc > t.hc then u.hc else t.hc, if u.days < t.days then u.days else t.days, if u.signs > t.signs then u.signs else t.signs, if u.price > t.price then u.price else t.price⟩
theorem check_zero {t : Tm} {l : List Pl} {day : Int} : checkF t l day = 0 ↔ l.length ≤ 50 ∧ tmOK t = true ∧ (0 ≤ day ∧ day ≤ 100000) ∧ ∀ p, p ∈ l → plOK p = true := by
  unfold checkF
  split
  · rename_i h
    constructor
    · intro h2; omega
    · intro h2; omega
  · rename_i h
    simp only [Bool.and_eq_true, wi_iff, List.all_eq_true]
    split
    · rename_i h2; exact ⟨fun _ => ⟨by omega, h2.1.1, h2.1.2, h2.2⟩, fun _ => rfl⟩
    · rename_i h2
      constructor
      · intro h3; cases h3
      · intro h3; exact absurd ⟨⟨h3.2.1, h3.2.2.1⟩, h3.2.2.2⟩ h2
theorem strict_ok {t u : Tm} (ht : tmOK t = true) (hu : tmOK u = true) : tmOK (strictT t u) = true := by
  rw [tmOK_iff] at *
  simp only [strictT]
  refine ⟨hu.1, ?_, ?_, ?_, ?_⟩ <;> split <;> omega
theorem strict_le {t u : Tm} (p : Pl) (day : Int) (ht : tmOK t = true) (hu : tmOK u = true) : valF (strictT t u) p day ≤ valF t p day := by
  unfold valF
  rw [strict_ok ht hu, ht]
  simp only [Bool.true_and]
  split
  · rename_i h
    simp only [Bool.and_eq_true] at h
    have hp := plOK_iff.1 h.2
    have ht' := tmOK_iff.1 ht
    have hu' := tmOK_iff.1 hu
    have key : ∀ c : Prop, ∀ [Decidable c], (¬ c → p.price * (1000 - (strictT t u).hc) / 1000 ≤ p.price * (1000 - t.hc) / 1000) := by
      intro c _ _
      have : p.price * (1000 - (strictT t u).hc) ≤ p.price * (1000 - t.hc) := Int.mul_le_mul_of_nonneg_left (by simp only [strictT]; split <;> omega) hp.1.1
      exact Int.ediv_le_ediv (by omega) this
    have h0 : 0 ≤ p.price * (1000 - t.hc) / 1000 := Int.ediv_nonneg (Int.mul_nonneg hp.1.1 (by omega)) (by omega)
    by_cases c1 : p.price < t.price ∨ p.signs < t.signs ∨ p.due < day ∨ day + t.days < p.due
    · have c2 : p.price < (strictT t u).price ∨ p.signs < (strictT t u).signs ∨ p.due < day ∨ day + (strictT t u).days < p.due := by
        simp only [strictT]
        rcases c1 with c | c | c | c
        · left; split <;> omega
        · right; left; split <;> omega
        · exact .inr (.inr (.inl c))
        · right; right; right; split <;> omega
      rw [if_pos c1, if_pos c2]; exact Int.le_refl _
    · rw [if_neg c1]
      split
      · exact h0
      · rename_i c3; exact key _ c3
  · exact Int.le_refl _
theorem cover_le {t u : Tm} (l : List Pl) (day : Int) (h : ∀ p, valF u p day ≤ valF t p day) : coverF u l day ≤ coverF t l day := by
  unfold coverF
  induction l with
  | nil => exact Int.le_refl _
  | cons x l ih => simp only [List.map_cons, List.sum_cons]; have := h x; omega
theorem val_pos {t : Tm} {p : Pl} {day : Int} (h : 0 < valF t p day) : day ≤ p.due ∧ t.signs ≤ p.signs := by
  unfold valF at h
  split at h
  · split at h
    · omega
    · rename_i c; omega
  · omega
theorem val_le {t : Tm} {p : Pl} {day : Int} (hp : plOK p = true) : valF t p day ≤ p.price := by
  have hp' := plOK_iff.1 hp
  unfold valF
  split
  · rename_i h
    simp only [Bool.and_eq_true] at h
    have ht := tmOK_iff.1 h.1.1
    split
    · omega
    · have h2 : p.price * (1000 - t.hc) ≤ p.price * 1000 := Int.mul_le_mul_of_nonneg_left (by omega) hp'.1.1
      omega
  · omega

theorem strict_enc (t u : Tm) : encT (strictT t u) = allc 5 (D.agg (splice [D.int 0, D.int 0, D.int 0, D.int 0, D.int 0] 0 (D.int u.loan :: ((if t.hc < u.hc then D.int u.hc else D.int t.hc).cells ++ ((if u.days < t.days then D.int u.days else D.int t.days).cells ++
    ((if t.signs < u.signs then D.int u.signs else D.int t.signs).cells ++ (if t.price < u.price then D.int u.price else D.int t.price).cells)))))) := by
  simp only [ite_intc]; rfl

set_option maxHeartbeats 4000000 in
set_option maxRecDepth 20000 in
theorem terms7_runs (t u : Tm) (l : List Pl) (day : Int) (hl : l.length ≤ maxLen) : Runs T 7 [encT t, encT u, pls l, .int day] (.bool true) := by
  refine .of_tree rfl rfl tr7_eq ?_
  simp [tr7]
  refine ⟨_, sane_runs, _, few_runs l, ?_⟩
  by_cases h60 : l.length ≤ 60
  case neg => simp [h60]
  simp [h60]
  refine ⟨_, check_runs t l day hl, ?_⟩
  by_cases c1 : checkF t l day = 0
  case neg => simp [c1]
  simp [c1]
  refine ⟨_, check_runs u l day hl, ?_⟩
  by_cases c2 : checkF u l day = 0
  case neg => simp [c2]
  simp [c2]
  have hc1 := check_zero.1 c1
  have hc2 := check_zero.1 c2
  have c3 : checkF (strictT t u) l day = 0 := check_zero.2 ⟨hc1.1, strict_ok hc1.2.1 hc2.2.1, hc1.2.2⟩
  have r1 := cover10_runs t l day hl
  rw [if_pos c1] at r1
  have r2 := cover10_runs (strictT t u) l day hl
  rw [if_pos c3] at r2
  refine ⟨_, r1, _, strict_enc t u ▸ r2, ?_⟩
  refine EvP.forRounds l.length (fun k => [.bool false, .int (coverF t (l.take k) day), .int k]) (fun k => []) ?_ (fun k hk => ?_) ?_
  · simp [coverF]
  · have hw : IntKind.i64.wrap ((k : Int) + 1) = (k : Int) + 1 := wrap64_id (by omega)
    have hs : coverF t (l.take (k + 1)) day = coverF t (l.take k) day + valF t l[k] day := by
      rw [List.take_succ_eq_append_getElem hk, cover_append]; simp [coverF]
    have hb := cover_bounds t (l.take k) day
    have hv := val_bounds t l[k] day
    have hlen : (l.take k).length ≤ 60 := by rw [List.length_take]; omega
    have hw2 : IntKind.i64.wrap (coverF t (l.take k) day + valF t l[k] day) = coverF t (l.take k) day + valF t l[k] day := wrap64_id (by omega)
    have hle := val_le (t := t) (day := day) (hc1.2.2.2 l[k] (List.getElem_mem hk))
    have hpos := @val_pos t l[k] day
    rw [hs]
    simp [rd7_0_eq, rd7_0, hk, hw]
    refine ⟨_, value_runs t _ day, ?_⟩
    generalize valF t l[k] day = v at *
    have h1 : ¬ v < 0 := by omega
    have h2 : ¬ l[k].price < v := by omega
    by_cases h3 : 0 < v
    · have h4 : ¬ l[k].due < day := by have := hpos h3; omega
      have h5 : ¬ l[k].signs < t.signs := by have := hpos h3; omega
      simp [h1, h2, h3, h4, h5, hw, hw2]
      exact ⟨⟨hv.1, hle⟩, hpos h3⟩
    · simp [h1, h2, h3, hw, hw2]
      exact ⟨hv.1, hle⟩
  · have h1 := cover_le (t := t) (u := strictT t u) l day fun p => strict_le p day hc1.2.1 hc2.2.1
    simp [rd7_0_eq, rd7_0, h1]
end Pool
