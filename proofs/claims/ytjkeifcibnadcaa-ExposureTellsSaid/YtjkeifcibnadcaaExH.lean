/-
  Worst of the program: what it returns.
-/
import Derived.Test.YtjkeifcibnadcaaExG
set_option linter.unusedSimpArgs false
set_option linter.unusedVariables false
namespace Expo
open Go Go.Proofs Cx

theorem ints_mkL_set (s : Nat) (f : Nat → Int) (k : Nat) (v : Int) : D.list (((mkL s f).map D.int).set k (.int v)) = ints (mkL s fun j => if j = k then v else f j) := by
  rw [← mkL_set]; simp [ints, List.map_set]
@[simp] theorem mkL_getElem (s : Nat) (f : Nat → Int) (k : Nat) (h : k < (mkL s f).length) : (mkL s f)[k] = f k := by simp [mkL]
theorem spliceD_int (a v : Int) : spliceD (.int a) 0 (.int v) = .int v := rfl
theorem mkL_get (s : Nat) (f : Nat → Int) {k : Nat} (h : k < s) : ((mkL s f).map D.int).getD k .none = .int (f k) := by
  rw [List.getD_eq_getElem?_getD, getD_ints _ _ (by simpa using h), mkL_getD s f h]
theorem set_first (ρ : Env) (s : Nat) (hs : s ≤ 100) (h51 : ρ.r 51 = .int s) (h52 : ρ.r 52 = .int 0) (h11 : ρ.o 11 = ints (mkL s fun _ => 0)) {Q : Out → Prop}
    (hQ : Q (.next (ρ.put [52, 53] [.int s, .bool false] [11] [ints (mkL s fun j => j)]))) : EvP T lp13_0 ρ Q := by
  refine EvP.forRounds s (fun k => [.int k]) (fun k => [ints (mkL s fun j => if j < k then (j : Int) else 0)]) ?_ (fun k hk => ?_) ?_
  · simp [h52, h11]
  · have hw1 : IntKind.i64.wrap ((k : Int) + 1) = (k : Int) + 1 := wrap64_id (by omega)
    simp only [rd13_0_eq, rd13_0, wp_ite, wp_chk, wp_next, roundQ_next]
    have g1 := mkL_get s (fun j => if j < k then (j : Int) else 0) hk
    rw [List.getD_eq_getElem?_getD] at g1
    simp [h51, hk, hw1, ints_mkL_set, spliceD_int, g1]
    congr 1
    refine mkL_congr fun j hj => ?_
    by_cases e : j = k
    · subst e; rw [if_pos rfl, if_pos (by omega)]
    · rw [if_neg e]
      by_cases hlt : j < k
      · rw [if_pos hlt, if_pos (by omega)]
      · rw [if_neg hlt, if_neg (by omega)]
  · simp [rd13_0_eq, rd13_0, h51]
    have e : (mkL s fun j => if j < s then (j : Int) else 0) = mkL s fun j => j := mkL_congr fun j hj => if_pos hj
    rw [e]; exact hQ

/-- the last place that can be raised -/
theorem set_back (ρ : Env) (n : Int) (a : List Int) (hs : a.length ≤ 100) (hn : 0 ≤ n ∧ n ≤ 20) (hsn : (a.length : Int) ≤ n) (h0 : 0 < a.length) (h1 : ρ.r 1 = .int n) (h10 : ρ.r 10 = .int a.length) (h14 : ρ.r 14 = .int ((a.length : Int) - 1)) (h11 : ρ.o 11 = ints a) {Q : Out → Prop}
    (hQ : ∀ (p : Nat) v73 v74 v75 v86, p ≤ a.length → (∀ j, p ≤ j → j < a.length → a.getD j 0 = n - a.length + j) → (p = 0 ∨ a.getD (p - 1) 0 ≠ n - a.length + ((p - 1 : Nat) : Int)) → Q (.next (ρ.put [14, 73, 74, 75, 86] [.int ((p : Int) - 1), v73, v74, v75, v86] [] []))) : EvP T lp13_1 ρ Q := by
  refine EvP.forLoop (α := Nat) (fun p vr vo => p ≤ a.length ∧ (∀ j, p ≤ j → j < a.length → a.getD j 0 = n - a.length + j) ∧ vr = [.int ((p : Int) - 1)] ∧ vo = []) (fun p => p) a.length ⟨Nat.le_refl _, fun j h1 h2 => by omega, by simp [h14], rfl⟩ ?_
  rintro p vr vo ⟨hp, hall, rfl, rfl⟩
  simp only [rd13_1_eq, rd13_1, wp_ite, wp_chk, wp_next, roundQ_next, wp_exit', roundQ_exit]
  by_cases hp0 : p = 0
  · subst hp0
    simp [h1, h10, h11]
    have := hQ 0 (.int (-1)) (.bool false) (.bool false) (.bool false) (by omega) hall (.inl rfl)
    simpa using this
  · obtain ⟨q, rfl⟩ : ∃ q, p = q + 1 := ⟨p - 1, by omega⟩
    have hq : q < a.length := by omega
    have hw : IntKind.i64.wrap (n - (a.length : Int)) = n - a.length := wrap64_id (by omega)
    have hw2 : IntKind.i64.wrap (n - (a.length : Int) + q) = n - a.length + q := wrap64_id (by omega)
    have hw3 : IntKind.i64.wrap ((q : Int) - 1) = (q : Int) - 1 := wrap64_id (by omega)
    have e : ((q + 1 : Nat) : Int) - 1 = q := by omega
    rw [e]
    have hx : a[q]?.getD 0 = a[q] := by simp [hq]
    simp [h1, h10, h11, hq, hw, hw2, hw3]
    by_cases hc : a[q] = n - a.length + q
    · rw [if_pos hc]
      refine ⟨q, by omega, by omega, fun j h1 h2 => ?_, rfl⟩
      by_cases ej : j = q
      · subst ej; rw [hx]; exact hc
      · have := hall j (by omega) h2; rwa [List.getD_eq_getElem?_getD] at this
    · rw [if_neg hc]
      have h := hQ (q + 1) (.int q) (.bool true) (.bool true) (.bool (a[q] == n - a.length + q)) (by omega) hall (.inr (by rw [List.getD_eq_getElem?_getD, Nat.add_sub_cancel, hx]; exact hc))
      simpa [e] using h

theorem set_fill (ρ : Env) (a : List Int) (i : Nat) (hs : a.length ≤ 100) (hi : i < a.length) (hb : 0 ≤ a.getD i 0 ∧ a.getD i 0 < 20) (h10 : ρ.r 10 = .int a.length) (h15 : ρ.r 15 = .int ((i : Int) + 1)) (h11 : ρ.o 11 = ints (a.set i (a.getD i 0 + 1))) {Q : Out → Prop}
    (hQ : ∀ v15 v99 v100 v101, Q (.next (ρ.put [15, 99, 100, 101] [v15, v99, v100, v101] [11] [ints (nextL a i)]))) : EvP T lp13_2 ρ Q := by
  let F : Nat → Nat → Int := fun k j => if j < i then a.getD j 0 else if j ≤ i + k then a.getD i 0 + 1 + ((j : Int) - i) else a.getD j 0
  have e0 : a.set i (a.getD i 0 + 1) = mkL a.length (F 0) := by
    have ea : a = mkL a.length fun j => a.getD j 0 := mkL_eq rfl fun _ _ => rfl
    conv => lhs; rw [ea]
    rw [mkL_set]
    refine mkL_congr fun j hj => ?_
    show _ = F 0 j
    simp only [F]
    by_cases e : j = i
    · subst e; rw [if_pos rfl, if_neg (by omega), if_pos (by omega), mkL_getD _ _ hj]; omega
    · rw [if_neg e]
      by_cases hlt : j < i
      · rw [if_pos hlt]
      · rw [if_neg hlt, if_neg (by omega)]
  refine EvP.forRounds (a.length - (i + 1)) (fun k => [.int ((i : Int) + 1 + k)]) (fun k => [ints (mkL a.length (F k))]) ?_ (fun k hk => ?_) ?_
  · rw [← e0]; simp [h15, h11]
  · obtain ⟨q, hq⟩ : ∃ q, q = i + k := ⟨_, rfl⟩
    have hw0 : IntKind.i64.wrap ((i : Int) + 1 + k - 1) = (q : Int) := by rw [wrap64_id (by omega)]; omega
    have hw1 : IntKind.i64.wrap ((i : Int) + 1 + k + 1) = (i : Int) + 1 + (k + 1) := by rw [wrap64_id (by omega)]; omega
    have hlt1 : q < a.length := by omega
    have hlt2 : i + 1 + k < a.length := by omega
    have hF : F k q = a.getD i 0 + 1 + k := by
      simp only [F]; rw [if_neg (by omega), if_pos (by omega)]; omega
    have hw2 : IntKind.i64.wrap (F k q + 1) = F k q + 1 := wrap64_id (by rw [hF]; omega)
    have hn : ((i : Int) + 1 + k).toNat = i + 1 + k := by omega
    simp only [rd13_2_eq, rd13_2, wp_ite, wp_chk, wp_next, roundQ_next]
    have hc1 : (i : Int) + 1 + k < a.length := by omega
    have hc2 : 0 ≤ (i : Int) + 1 + k := by omega
    have g1 := mkL_get a.length (F k) hlt1
    have g2 := mkL_get a.length (F k) hlt2
    rw [List.getD_eq_getElem?_getD] at g1 g2
    rw [List.getElem?_map] at g1 g2
    generalize hG : F k = G at g1 g2 hw2 hF ⊢
    simp [h10, hw0, hw1, hc1, hc2, hn, hlt1, hlt2, g1, g2, hw2, spliceD_int, ints_mkL_set]
    congr 1
    rw [← hG] at hF ⊢
    refine mkL_congr fun j hj => ?_
    by_cases e : j = i + 1 + k
    · subst e; rw [if_pos rfl, hF]; simp only [F]; rw [if_neg (by omega), if_pos (by omega)]; omega
    · rw [if_neg e]; simp only [F]
      by_cases h1 : j < i
      · rw [if_pos h1, if_pos h1]
      · rw [if_neg h1, if_neg h1]
        by_cases h2 : j ≤ i + k
        · rw [if_pos h2, if_pos (by omega)]
        · rw [if_neg h2, if_neg (by omega)]
  · have e : (i : Int) + 1 + ((a.length - (i + 1) : Nat) : Int) = a.length := by omega
    have eN : mkL a.length (F (a.length - (i + 1))) = nextL a i := mkL_congr fun j hj => by
      simp only [F, nextF]
      by_cases h1 : j < i
      · rw [if_pos h1, if_pos h1]
      · rw [if_neg h1, if_neg h1, if_pos (by omega)]
    rw [e, eN]
    simp [rd13_2_eq, rd13_2, h10]
    exact hQ _ _ _ _
/-- what comes after a set was looked at -/
def tl13 : PT :=
  (.brk ⟨[(14, (.ai .sub .i64 (.r 10) (.con (.int 1)))), (72, (.ai .sub .i64 (.r 10) (.con (.int 1)))), (71, (.r 10))], []⟩
   lp13_1
  (.ite (.ci .lss (.r 14) (.con (.int 0)))
   (.exit 4 ⟨[(90, (.ci .lss (.r 14) (.con (.int 0)))), (89, (.r 14))], []⟩)
   (.chk (.idx (.o 11) (.r 14))
   (.brk ⟨[(15, (.ai .add .i64 (.r 14) (.con (.int 1)))), (98, (.ai .add .i64 (.r 14) (.con (.int 1)))), (97, (.r 14)), (96, (.r 14)), (95, (.ai .add .i64 (.nth (.o 11) (.r 14)) (.con (.int 1)))), (94, (.nth (.o 11) (.r 14))), (93, (.r 14)), (92, (.r 14)), (91, (.r 11)), (90, (.ci .lss (.r 14) (.con (.int 0)))), (89, (.r 14))], [(11, (.setn (.o 11) (.r 14) 0 (.ai .add .i64 (.nth (.o 11) (.r 14)) (.con (.int 1)))))]⟩
    lp13_2
   (.next ⟨[], []⟩)))))
theorem tail_ok (ρ : Env) (n : Int) (a : List Int) (hv : vset n a) (hn : 0 ≤ n ∧ n ≤ 20) (h0 : 0 < a.length) (h1 : ρ.r 1 = .int n) (h10 : ρ.r 10 = .int a.length) (h11 : ρ.o 11 = ints a) {Q : Out → Prop}
    (hexit : (∀ j, j < a.length → a.getD j 0 = n - a.length + j) → ∀ ρ', ρ'.r 6 = ρ.r 6 → ρ'.r 7 = ρ.r 7 → Q (.exit 4 ρ'))
    (hnext : ∀ i, i < a.length → a.getD i 0 ≠ n - a.length + i → (∀ j, i < j → j < a.length → a.getD j 0 = n - a.length + j) → ∀ ρ', ρ'.r 6 = ρ.r 6 → ρ'.r 7 = ρ.r 7 → ρ'.o 11 = ints (nextL a i) → Q (.next ρ')) : PTwp T tl13 ρ Q := by
  have hlen := hv.len hn.1
  have hw : IntKind.i64.wrap ((a.length : Int) - 1) = (a.length : Int) - 1 := wrap64_id (by omega)
  simp only [tl13, wp_brk]
  refine set_back _ n a (by omega) hn hlen h0 (by simp [h1]) (by simp [h10]) (by simp [h10, hw]) (by simp [h11]) (fun p v73 v74 v75 v86 hp hall hne => ?_)
  simp only [seqQ_next, wp_ite]
  by_cases hp0 : p = 0
  · subst hp0
    simp
    refine hexit (fun j hj => hall j (by omega) hj) _ (by simp) (by simp)
  · obtain ⟨q, rfl⟩ : ∃ q, p = q + 1 := ⟨p - 1, by omega⟩
    have hq : q < a.length := by omega
    have e : ((q + 1 : Nat) : Int) - 1 = q := by omega
    rw [e]
    have hvq := hv q hq
    have hne' := hne.resolve_left (by omega)
    rw [Nat.add_sub_cancel] at hne'
    have hgd : a.getD q 0 = a[q] := by rw [List.getD_eq_getElem?_getD]; simp [hq]
    rw [if_neg (by simp)]
    simp only [wp_chk, wp_brk]
    refine ⟨by simp [h11, hq], ?_⟩
    have hw1 : IntKind.i64.wrap ((q : Int) + 1) = (q : Int) + 1 := wrap64_id (by omega)
    have hw2 : IntKind.i64.wrap (a[q] + 1) = a[q] + 1 := wrap64_id (by omega)
    refine set_fill _ a q (by omega) hq ⟨hvq.1, by omega⟩ (by simp [h10]) (by simp [hw1]) ?_ (fun v15 v99 v100 v101 => ?_)
    · simp [h11, hq, hw2, hgd, spliceD_int]
      simp [ints, List.map_set]
    · simp
      refine hnext q hq hne' (fun j h1 h2 => hall j (by omega) h2) _ (by simp) (by simp) (by simp)
end Expo
