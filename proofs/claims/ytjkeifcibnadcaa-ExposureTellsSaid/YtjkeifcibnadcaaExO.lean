/-
  The reference: Right, Loss, equal lists.
-/
import Derived.Test.YtjkeifcibnadcaaExM
import Derived.Test.YtjkeifcibnadcaaExJ
set_option linter.unusedSimpArgs false
set_option linter.unusedVariables false
namespace Expo
open Go Go.Proofs Cx

theorem getD_in {l : List Int} {k : Nat} (h : k < l.length) : l.getD k 0 = l[k] := by rw [List.getD_eq_getElem?_getD, List.getElem?_eq_getElem h]; rfl

theorem same_runs (a b : List Int) (ha : a.length ≤ maxLen) (hb : b.length ≤ maxLen) : Runs T 15 [ints a, ints b] (.bool (decide (a = b))) := by
  rw [maxLen_eq] at ha hb
  refine .of_tree rfl rfl tr15_eq ?_
  simp only [tr15, wp_ite]
  by_cases hl : a.length = b.length
  case neg =>
    rw [if_pos (by simp; omega)]
    have : a ≠ b := fun e => hl (by rw [e])
    simp [this]
  rw [if_neg (by simp [hl])]
  simp only [wp_brk]
  refine EvP.scan a.length (fun k => a.getD k 0 = b.getD k 0) (fun k => [.bool false, .int k]) (fun _ => []) ?_ (fun k hk hj ho => ?_) (fun k hk hj ho => ?_) (fun hj => ?_)
  · simp
  · have hw1 : IntKind.i64.wrap ((k : Int) + 1) = (k : Int) + 1 := wrap64_id (by omega)
    have hk' : k < b.length := by omega
    simp [hk, hk'] at ho
    simp [rd15_0_eq, rd15_0, hk, hk', ho, hw1]
  · have hk' : k < b.length := by omega
    have : a ≠ b := fun e => ho (by rw [e])
    simp [hk, hk'] at ho
    simp [rd15_0_eq, rd15_0, hk, hk', ho, this]
  · have : a = b := ext_getD hl hj
    simp [rd15_0_eq, rd15_0, this]

/-! ### Right -/
theorem right17_loop0 (ρ : Env) (l : List Held) (i : Nat) (hi : i < l.length) (hg : l[i].2.length ≤ maxLen) (h0 : ρ.r 0 = helds l) (h2 : ρ.r 2 = .bool false) (h3 : ρ.r 3 = .int i) (h4 : ρ.r 4 = .int (-1)) (h5 : ρ.r 5 = .int 0) {Q : Out → Prop}
    (hok : gsOK l[i].2 → ∀ v4 v5 v30 v31 v32 v33 v34 v35 v36 v37, Q (.next (ρ.put [2, 4, 5, 30, 31, 32, 33, 34, 35, 36, 37] [.bool false, v4, v5, v30, v31, v32, v33, v34, v35, v36, v37] [] []))) (hbad : ¬ gsOK l[i].2 → Q (.ret (.bool false))) : EvP T lp17_0 ρ Q := by
  rw [maxLen_eq] at hg
  have e : encH l[i] = .agg [.int l[i].1, ints l[i].2] := rfl
  generalize l[i].2 = g at hg hok hbad e
  refine EvP.scan g.length (gOK g) (fun k => [.bool false, .int (if k = 0 then -1 else g.getD (k - 1) 0), .int k]) (fun _ => []) ?_ (fun k hk hj ho => ?_) (fun k hk hj ho => ?_) (fun hj => ?_)
  · simp [h2, h4, h5]
  · have hw1 : IntKind.i64.wrap ((k : Int) + 1) = (k : Int) + 1 := wrap64_id (by omega)
    unfold gOK at ho
    rw [getD_in hk] at ho
    by_cases hk0 : k = 0
    · subst hk0
      simp [rd17_0_eq, rd17_0, h0, h3, helds_l, hi, e, hk, hw1]
      omega
    · have hk1 : k - 1 < g.length := by omega
      rw [getD_in hk1] at ho
      have h3' := ho.2.2 (by omega)
      simp [rd17_0_eq, rd17_0, h0, h3, helds_l, hi, e, hk, hw1, hk0, hk1]
      omega
  · have hb := hbad fun h => ho (h k hk)
    have hw1 : IntKind.i64.wrap ((k : Int) + 1) = (k : Int) + 1 := wrap64_id (by omega)
    unfold gOK at ho
    rw [getD_in hk] at ho
    by_cases hk0 : k = 0
    · subst hk0
      simp [rd17_0_eq, rd17_0, h0, h3, helds_l, hi, e, hk, hw1, hb]
      omega
    · have hk1 : k - 1 < g.length := by omega
      have hp := (hj (k - 1) (by omega)).1
      rw [getD_in hk1] at ho hp
      simp [rd17_0_eq, rd17_0, h0, h3, helds_l, hi, e, hk, hw1, hk0, hk1, hb]
      omega
  · simp [rd17_0_eq, rd17_0, h0, h3, helds_l, hi, e]
    exact hok hj _ _ _ _ _ _ _ _ _ _

theorem right17_runs (l : List Held) (hl : l.length ≤ maxLen) (hg : ∀ h, h ∈ l → h.2.length ≤ maxLen) : Runs T 17 [helds l] (.bool (decide (Rt l))) := by
  rw [maxLen_eq] at hl
  refine .of_tree rfl rfl tr17_eq ?_
  simp only [tr17, wp_brk]
  refine EvP.scan (min l.length 101) (fun k => hOK (l.getD k default)) (fun k => [.bool false, .int k]) (fun _ => []) ?_ (fun k hk hj ho => ?_) (fun k hk hj ho => ?_) (fun hj => ?_)
  · simp
  · have hk' : k < l.length := by omega
    have hw1 : IntKind.i64.wrap ((k : Int) + 1) = (k : Int) + 1 := wrap64_id (by omega)
    have e : encH l[k] = .agg [.int l[k].1, ints l[k].2] := rfl
    have hm := hg l[k] (List.getElem_mem _)
    simp [hk'] at ho
    obtain ⟨o1, o2, o3⟩ := ho
    have hle : (k : Int) ≤ 100 := by omega
    simp only [rd17_1_eq, rd17_1, wp_ite, wp_blockS, wp_chk, wp_brk]
    rw [if_pos (by simp [helds_l, hk', hle])]
    refine ⟨by simp [helds_l, hk'], by simp [helds_l, hk'], ?_⟩
    rw [if_neg (by simp [helds_l, hk', e]; omega)]
    refine right17_loop0 _ l k hk' hm (by simp) (by simp) (by simp) (by simp) (by simp) (fun _ _ _ _ _ _ _ _ _ _ _ => ?_) (fun h => absurd o3 h)
    simp [hw1]
  · have hk' : k < l.length := by omega
    have hw1 : IntKind.i64.wrap ((k : Int) + 1) = (k : Int) + 1 := wrap64_id (by omega)
    have e : encH l[k] = .agg [.int l[k].1, ints l[k].2] := rfl
    have hm := hg l[k] (List.getElem_mem _)
    have hR : ¬ Rt l := fun h => ho (h.2 k hk')
    simp [hk'] at ho
    have hle : (k : Int) ≤ 100 := by omega
    simp only [rd17_1_eq, rd17_1, wp_ite, wp_blockS, wp_chk, wp_brk]
    rw [if_pos (by simp [helds_l, hk', hle])]
    refine ⟨by simp [helds_l, hk'], by simp [helds_l, hk'], ?_⟩
    by_cases ho1 : 0 ≤ l[k].1 ∧ l[k].1 ≤ 1099511627776
    · rw [if_neg (by simp [helds_l, hk', e]; omega)]
      refine right17_loop0 _ l k hk' hm (by simp) (by simp) (by simp) (by simp) (by simp) (fun h => absurd ⟨ho1.1, ho1.2, h⟩ ho) (fun h => ?_)
      simp [hR]
    · rw [if_pos (by simp [helds_l, hk', e]; omega)]
      simp [hR]
  · have hR : Rt l ↔ l.length ≤ 100 := ⟨fun h => h.1, fun h => ⟨h, fun k hk => hj k (by omega)⟩⟩
    simp only [rd17_1_eq, rd17_1, wp_ite]
    rw [if_neg (by simp [helds_l]; omega)]
    simp [helds_l, hR]
    omega

/-! ### Loss -/
theorem has_runs (f : List Int) (x : Int) (hf : f.length ≤ maxLen) : Runs T 53 [ints f, .int x] (.bool (decide (x ∈ f))) := by
  rw [maxLen_eq] at hf
  refine .of_tree rfl rfl tr53_eq ?_
  simp only [tr53, wp_brk]
  refine EvP.scan f.length (fun k => f.getD k 0 ≠ x) (fun k => [.bool false, .int k]) (fun _ => []) ?_ (fun k hk hj ho => ?_) (fun k hk hj ho => ?_) (fun hj => ?_)
  · simp
  · have hw1 : IntKind.i64.wrap ((k : Int) + 1) = (k : Int) + 1 := wrap64_id (by omega)
    rw [getD_in hk] at ho
    simp [rd53_0_eq, rd53_0, hk, ho, hw1]
  · rw [getD_in hk] at ho
    have ho := Decidable.not_not.1 ho
    have : x ∈ f := ho ▸ List.getElem_mem _
    simp [rd53_0_eq, rd53_0, hk, ho, this]
  · have : x ∉ f := fun h => by
      obtain ⟨k, hk, e⟩ := List.getElem_of_mem h
      exact hj k hk (by rw [getD_in hk]; exact e)
    simp [rd53_0_eq, rd53_0, this]

theorem lost_runs (h : Held) (f : List Int) (hm : h.2.length ≤ maxLen) (hf : f.length ≤ maxLen) : Runs T 45 [encH h, ints f] (.bool (decide (lostP h f))) := by
  rw [maxLen_eq] at hm
  have e : encH h = .agg [.int h.1, ints h.2] := rfl
  refine .of_tree rfl rfl tr45_eq ?_
  simp only [tr45, wp_brk]
  refine EvP.scan h.2.length (fun k => h.2.getD k 0 ∈ f) (fun k => [.bool false, .int k]) (fun _ => []) ?_ (fun k hk hj ho => ?_) (fun k hk hj ho => ?_) (fun hj => ?_)
  · simp
  · have hw1 : IntKind.i64.wrap ((k : Int) + 1) = (k : Int) + 1 := wrap64_id (by omega)
    rw [getD_in hk] at ho
    simp only [rd45_0_eq, rd45_0, wp_ite, wp_blockS, wp_chk, wp_call, holds_nil', if_true]
    rw [if_pos (by simp [e, hk])]
    refine ⟨by simp [e, hk], _, by simpa [e, hk] using has_runs f h.2[k] hf, ?_⟩
    simp [ho, hw1]
  · rw [getD_in hk] at ho
    have hn : ¬ lostP h f := fun hh => ho (hh _ (List.getElem_mem _))
    simp only [rd45_0_eq, rd45_0, wp_ite, wp_blockS, wp_chk, wp_call, holds_nil', if_true]
    rw [if_pos (by simp [e, hk])]
    refine ⟨by simp [e, hk], _, by simpa [e, hk] using has_runs f h.2[k] hf, ?_⟩
    simp [ho, hn]
  · have hy : lostP h f := fun x hx => by
      obtain ⟨k, hk, e⟩ := List.getElem_of_mem hx
      have := hj k hk
      rwa [getD_in hk, e] at this
    simp [rd45_0_eq, rd45_0, e, hy]

theorem lossP_snoc' (l : List Held) (f : List Int) {k : Nat} (hk : k < l.length) : lossP (l.take (k + 1)) f = lossP (l.take k) f + if lostP l[k] f then l[k].1 else 0 := by
  rw [List.take_succ_eq_append_getElem hk, lossP_snoc]
theorem Rt.take {l : List Held} (h : Rt l) (k : Nat) : Rt (l.take k) := by
  refine ⟨by have := h.1; simp; omega, fun j hj => ?_⟩
  have hj' : j < l.length := by simp at hj; omega
  have hjk : j < k := by simp at hj; omega
  have := h.2 j hj'
  rw [List.getD_eq_getElem?_getD] at this ⊢
  rwa [List.getElem?_take, if_pos hjk]
theorem loss19_runs (l : List Held) (f : List Int) (hl : l.length ≤ maxLen) (hg : ∀ h, h ∈ l → h.2.length ≤ maxLen) (hf : f.length ≤ maxLen) : Runs T 19 [helds l, ints f] (.int (lossS l f)) := by
  refine .of_tree rfl rfl tr19_eq ?_
  simp only [tr19, wp_call, holds_nil', if_true]
  refine ⟨_, by simpa using right17_runs l hl hg, ?_⟩
  simp only [wp_ite]
  by_cases hr : Rt l
  case neg =>
    rw [if_pos (by simp [hr])]
    simp [lossS, hr]
  rw [if_neg (by simp [hr]), lossS_eq hr]
  have hlen := hr.1
  simp only [wp_brk]
  refine EvP.forRounds l.length (fun k => [.int (lossP (l.take k) f), .int k]) (fun _ => []) ?_ (fun k hk => ?_) ?_
  · simp [lossP]
  · have hw1 : IntKind.i64.wrap ((k : Int) + 1) = (k : Int) + 1 := wrap64_id (by omega)
    have e : encH l[k] = .agg [.int l[k].1, ints l[k].2] := rfl
    have hm := hg l[k] (List.getElem_mem _)
    have bd := lossP_bd (hr.take k) f
    have b1 := (hr.len (List.getElem_mem hk)).2
    rw [lossP_snoc' l f hk]
    generalize lossP (l.take k) f = t at bd
    have hw2 : IntKind.i64.wrap (t + l[k].1) = t + l[k].1 := wrap64_id (by omega)
    have hlost := lost_runs l[k] f hm hf
    simp only [rd19_0_eq, rd19_0, wp_ite, wp_blockS, wp_chk, wp_call, holds_nil', if_true]
    rw [if_pos (by simp [helds_l, hk])]
    refine ⟨by simp [helds_l, hk], _, by simpa [helds_l, hk] using hlost, ?_⟩
    by_cases hc : lostP l[k] f
    · simp [hc, helds_l, hk, e, hw1, hw2]
    · simp [hc, hw1]
  · simp [rd19_0_eq, rd19_0, helds_l]
end Expo
