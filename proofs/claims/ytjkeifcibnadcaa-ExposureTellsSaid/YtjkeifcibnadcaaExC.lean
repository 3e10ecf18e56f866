/-
  What the functions compute.
-/
import Derived.Test.YtjkeifcibnadcaaExB
import Derived.Test.YtjkeifcibnadcaaCyH
set_option linter.unusedSimpArgs false
set_option linter.unusedVariables false
namespace Expo
open Go Go.Proofs Cx

abbrev Held := Int × List Int
def encH (h : Held) : D := .agg [.int h.1, ints h.2]
def helds (l : List Held) : D := .list (l.map encH)
theorem helds_l (l : List Held) : (helds l).l = l.map encH := rfl

def fewB (l : List Held) : Bool := ((l.take 120).all fun h => decide (h.2.length ≤ 25)) && (decide (l.length ≤ 20) || decide (100 < l.length ∧ l.length < 120))

theorem fewB_true {l : List Held} : fewB l = true ↔ (∀ j, j < min l.length 120 → (l.getD j default).2.length ≤ 25) ∧ (l.length ≤ 20 ∨ (100 < l.length ∧ l.length < 120)) := by
  unfold fewB
  simp only [Bool.and_eq_true, List.all_eq_true, decide_eq_true_eq, Bool.or_eq_true]
  refine and_congr ⟨fun h j hj => ?_, fun h x hx => ?_⟩ Iff.rfl
  · refine h _ ?_
    have : (l.take 120)[j]? = some (l.getD j default) := by
      rw [List.getElem?_take, if_pos (by omega), List.getD_eq_getElem?_getD, List.getElem?_eq_getElem (by omega)]; rfl
    exact List.mem_of_getElem? this
  · obtain ⟨j, hj⟩ := List.getElem?_of_mem hx
    rw [List.getElem?_take] at hj
    split at hj
    · have hlt := (List.getElem?_eq_some_iff.1 hj).1
      have := h j (by omega)
      rwa [List.getD_eq_getElem?_getD, hj] at this
    · cases hj

set_option maxRecDepth 10000 in
theorem few_runs (l : List Held) (hl : l.length ≤ maxLen) : Runs T 12 [helds l] (.bool (fewB l)) := by
  refine .of_tree rfl rfl tr12_eq ?_
  simp [tr12]
  rw [maxLen_eq] at hl
  refine EvP.scan (min l.length 120) (fun k => (l.getD k default).2.length ≤ 25) (fun k => [.bool false, .int k]) (fun _ => []) ?_ (fun k hk hj hok => ?_) (fun k hk hj hok => ?_) (fun hj => ?_)
  · simp
  · have hk' : k < l.length := by omega
    have e := getD_nat encH l k default hk'
    simp [hk'] at hok
    simp [rd12_0_eq, rd12_0, helds_l, hk', e, encH]
    rw [if_pos (by omega), if_neg (by omega), wrap64_id (by omega)]
  · have hk' : k < l.length := by omega
    have e := getD_nat encH l k default hk'
    have hf : fewB l = false := by
      cases hh : fewB l with
      | false => rfl
      | true => exact absurd ((fewB_true.1 hh).1 k hk) hok
    simp [hk'] at hok
    simp [rd12_0_eq, rd12_0, helds_l, hk', e, encH, hf]
    rw [if_pos (by omega)]; omega
  · have hf : fewB l = (decide (l.length ≤ 20) || decide (100 < l.length ∧ l.length < 120)) := by
      rw [Bool.eq_iff_iff, fewB_true]
      simp only [Bool.or_eq_true, decide_eq_true_eq]
      exact ⟨fun h => h.2, fun h => ⟨hj, h⟩⟩
    have hN : ¬ (min l.length 120 < l.length ∧ ((min l.length 120 : Nat) : Int) < 120) := by omega
    generalize min l.length 120 = N at hN
    simp [rd12_0_eq, rd12_0, helds_l, hf]
    rw [if_neg (by omega)]
    by_cases h1 : l.length ≤ 20
    · rw [if_pos (by omega)]; simp [h1]
    · rw [if_neg (by omega)]
      by_cases h2 : 100 < l.length
      · rw [if_pos (by omega)]; simp [h1, h2]; omega
      · rw [if_neg (by omega)]; simp [h1, h2]

/-! ### Right -/
def gOK (g : List Int) (k : Nat) : Prop := 0 ≤ g.getD k 0 ∧ g.getD k 0 < 20 ∧ (0 < k → g.getD (k - 1) 0 < g.getD k 0)
def gsOK (g : List Int) : Prop := ∀ k, k < g.length → gOK g k
def hOK (h : Held) : Prop := 0 ≤ h.1 ∧ h.1 ≤ 1099511627776 ∧ gsOK h.2
def Rt (l : List Held) : Prop := l.length ≤ 100 ∧ ∀ k, k < l.length → hOK (l.getD k default)
theorem getD_ints (l : List Int) (i : Nat) (h : i < l.length) : (l.map D.int)[i]?.getD .none = .int (l.getD i 0) := by
  rw [List.getElem?_map, List.getD_eq_getElem?_getD, List.getElem?_eq_getElem h]; rfl

theorem right_loop0 (ρ : Env) (g : List Int) (x : D) (hg : g.length ≤ maxLen) (h25 : ρ.r 25 = ints g) (h26 : ρ.r 26 = .int g.length) (h27 : ρ.r 27 = .int 0) (h4 : ρ.o 4 = .agg [x, ints g]) {Q : Out → Prop}
    (hok : gsOK g → Q (.next (ρ.put [2, 27, 28] [ρ.r 2, .int g.length, .bool false] [] []))) (hbad : ¬ gsOK g → Q (.ret (.bool false))) : EvP T lp16_0 ρ Q := by
  rw [maxLen_eq] at hg
  refine EvP.scan g.length (gOK g) (fun k => [ρ.r 2, .int k]) (fun _ => []) ?_ (fun k hk hj ho => ?_) (fun k hk hj ho => ?_) (fun hj => ?_)
  · simp [h27]
  · simp [gOK, hk] at ho
    have hw1 : IntKind.i64.wrap ((k : Int) + 1) = (k : Int) + 1 := wrap64_id (by omega)
    by_cases hk0 : k = 0
    · subst hk0
      simp at ho
      simp [rd16_0_eq, rd16_0, h25, h26, h4, hk, hw1]
      omega
    · have hk1 : k - 1 < g.length := by omega
      have hw : IntKind.i64.wrap ((k : Int) - 1) = ((k - 1 : Nat) : Int) := by rw [wrap64_id (by omega)]; omega
      simp [hk1] at ho
      simp [rd16_0_eq, rd16_0, h25, h26, h4, hk, hw1, hw, hk1, hk0]
      omega
  · have hb : ¬ gsOK g := fun h => ho (h k hk)
    have hw1 : IntKind.i64.wrap ((k : Int) + 1) = (k : Int) + 1 := wrap64_id (by omega)
    simp [gOK, hk] at ho
    by_cases hk0 : k = 0
    · subst hk0
      simp at ho
      simp [rd16_0_eq, rd16_0, h25, h26, h4, hk, hw1, hbad hb]
      omega
    · have hk1 : k - 1 < g.length := by omega
      have hw : IntKind.i64.wrap ((k : Int) - 1) = ((k - 1 : Nat) : Int) := by rw [wrap64_id (by omega)]; omega
      simp [hk1] at ho
      simp [rd16_0_eq, rd16_0, h25, h26, h4, hk, hw1, hw, hk1, hk0, hbad hb]
      omega
  · have := hok hj
    simp [rd16_0_eq, rd16_0, h26]
    exact this

theorem right_loop1 (ρ : Env) (l : List Held) (hl : l.length ≤ maxLen) (hg : ∀ h, h ∈ l → h.2.length ≤ maxLen) (h10 : ρ.r 10 = helds l) (h11 : ρ.r 11 = .int l.length) (h12 : ρ.r 12 = .int 0) (h2 : ρ.r 2 = .bool false) {Q : Out → Prop}
    (hok : (∀ k, k < l.length → hOK (l.getD k default)) → ∀ ρ', Q (.next ρ')) (hbad : ¬ (∀ k, k < l.length → hOK (l.getD k default)) → Q (.ret (.bool false))) : EvP T lp16_1 ρ Q := by
  rw [maxLen_eq] at hl
  refine EvP.scan l.length (fun k => hOK (l.getD k default)) (fun k => [.bool false, .int k]) (fun _ => []) ?_ (fun k hk hj ho => ?_) (fun k hk hj ho => ?_) (fun hj => ?_)
  · simp [h12, h2]
  · have hm : l[k].2.length ≤ maxLen := hg _ (List.getElem_mem _)
    have hw1 : IntKind.i64.wrap ((k : Int) + 1) = (k : Int) + 1 := wrap64_id (by omega)
    simp [hk] at ho
    generalize hh : l[k] = h at ho hm
    have e : encH l[k] = .agg [.int h.1, ints h.2] := by rw [hh]; rfl
    obtain ⟨o1, o2, o3⟩ := ho
    simp [rd16_1_eq, rd16_1, h10, h11, hk, e, helds_l, splice]
    rw [if_neg (by omega)]
    refine right_loop0 _ h.2 (.int h.1) hm (by simp [e, hk, h10, helds_l, splice]) (by simp [e, hk, h10, helds_l, splice]) (by simp) (by simp [e, hk, h10, helds_l, splice]) (fun _ => ?_) (fun hb => absurd o3 hb)
    simp [hw1]
  · have hb := hbad fun hh => ho (hh k hk)
    have hm : l[k].2.length ≤ maxLen := hg _ (List.getElem_mem _)
    simp [hk] at ho
    generalize hh : l[k] = h at ho hm
    have e : encH l[k] = .agg [.int h.1, ints h.2] := by rw [hh]; rfl
    simp [rd16_1_eq, rd16_1, h10, h11, hk, e, helds_l, splice, hb]
    intro o1 o2
    have o3 : ¬ gsOK h.2 := fun hh => ho ⟨o1, by omega, hh⟩
    exact right_loop0 _ h.2 (.int h.1) hm (by simp [e, hk, h10, helds_l, splice]) (by simp [e, hk, h10, helds_l, splice]) (by simp) (by simp [e, hk, h10, helds_l, splice]) (fun hh => absurd hh o3) (fun _ => by simpa using hb)
  · simp [rd16_1_eq, rd16_1, h11]
    exact hok hj _
noncomputable instance (l : List Held) : Decidable (Rt l) := Classical.propDecidable _
theorem right_runs (l : List Held) (hl : l.length ≤ maxLen) (hg : ∀ h, h ∈ l → h.2.length ≤ maxLen) : Runs T 16 [helds l] (.bool (decide (Rt l))) := by
  refine .of_tree rfl rfl tr16_eq ?_
  simp [tr16, helds_l]
  by_cases h1 : l.length ≤ 100
  · rw [if_neg (by omega)]
    refine right_loop1 _ l hl hg (by simp) (by simp [helds_l]) (by simp) (by simp) (fun h ρ' => ?_) (fun h => ?_)
    · have : Rt l := ⟨h1, h⟩
      simp [this]
    · have : ¬ Rt l := fun hh => h hh.2
      simp [this]
  · rw [if_pos (by omega)]
    simp [Rt, h1]
end Expo
