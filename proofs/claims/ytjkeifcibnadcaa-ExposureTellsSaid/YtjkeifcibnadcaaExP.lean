/-
  The reference: Worst, Alone, Over; ExposureTells.
-/
import Derived.Test.YtjkeifcibnadcaaExO
set_option linter.unusedSimpArgs false
set_option linter.unusedVariables false
namespace Expo
open Go Go.Proofs Cx

/-! ### every set is a number's -/
theorem pair_of_vset {n : Int} {c : List Int} (h : vset n c) : c.Pairwise (· < ·) := by
  refine List.pairwise_iff_getElem.2 fun i j hi hj hij => ?_
  have h1 := h.step i (j - i) (by omega)
  have e : i + (j - i) = j := by omega
  rw [e, getD_in hi, getD_in hj] at h1
  omega
theorem vset.mem {n : Int} {c : List Int} (h : vset n c) {x : Int} (hx : x ∈ c) : 0 ≤ x ∧ x < n := by
  obtain ⟨k, hk, rfl⟩ := List.getElem_of_mem hx
  have := h k hk
  rw [getD_in hk] at this
  exact ⟨this.1, this.2.1⟩
theorem sorted_ext : ∀ {a c : List Int}, a.Pairwise (· < ·) → c.Pairwise (· < ·) → (∀ x, x ∈ a ↔ x ∈ c) → a = c
  | [], [], _, _, _ => rfl
  | [], y :: c, _, _, h => absurd ((h y).2 (List.mem_cons_self ..)) (by simp)
  | x :: a, [], _, _, h => absurd ((h x).1 (List.mem_cons_self ..)) (by simp)
  | x :: a, y :: c, ha, hc, h => by
    obtain ⟨ha1, ha2⟩ := List.pairwise_cons.1 ha
    obtain ⟨hc1, hc2⟩ := List.pairwise_cons.1 hc
    have e : x = y := by
      have h1 := (h x).1 (List.mem_cons_self ..)
      have h2 := (h y).2 (List.mem_cons_self ..)
      rcases List.mem_cons.1 h1 with h1 | h1
      · exact h1
      · rcases List.mem_cons.1 h2 with h2 | h2
        · exact h2.symm
        · have := hc1 _ h1; have := ha1 _ h2; omega
    subst e
    rw [sorted_ext ha2 hc2 fun z => ?_]
    have hz := h z
    simp only [List.mem_cons] at hz
    constructor
    · intro hm
      rcases hz.1 (.inr hm) with e | e
      · have := ha1 z hm; omega
      · exact e
    · intro hm
      rcases hz.2 (.inr hm) with e | e
      · have := hc1 z hm; omega
      · exact e
theorem mem_membL (b n : Nat) (x : Int) : x ∈ membL b n ↔ ∃ j : Nat, x = j ∧ j < n ∧ b.testBit j = true := by
  simp only [membL, List.mem_map, List.mem_filter, List.mem_range]
  constructor
  · rintro ⟨j, ⟨h1, h2⟩, rfl⟩; exact ⟨j, rfl, h1, h2⟩
  · rintro ⟨j, rfl, h1, h2⟩; exact ⟨j, ⟨h1, h2⟩, rfl⟩
theorem bits_of_vset {n : Nat} (hn : n ≤ 20) {c : List Int} (h : vset n c) : ∃ b, b < 2 ^ n ∧ membL b n = c := by
  have hbit : ∀ j, (maskB c).toNat.testBit j = decide ((j : Int) ∈ c ∧ j < 20) := fun j => by
    rw [← maskB_bit]; rfl
  refine ⟨(maskB c).toNat, Nat.lt_pow_two_of_testBit _ fun i hi => ?_, sorted_ext (memb_pair _ n).1 (pair_of_vset h) fun x => ?_⟩
  · rw [hbit, decide_eq_false_iff_not]
    rintro ⟨h1, _⟩
    have := (h.mem h1).2; omega
  · rw [mem_membL]
    constructor
    · rintro ⟨j, rfl, h1, h2⟩
      rw [hbit, decide_eq_true_eq] at h2
      exact h2.1
    · intro hx
      obtain ⟨h0, h1⟩ := h.mem hx
      obtain ⟨j, rfl⟩ := Int.eq_ofNat_of_zero_le h0
      exact ⟨j, rfl, by omega, by rw [hbit, decide_eq_true_eq]; exact ⟨hx, by omega⟩⟩

/-- the numbers below one looked at -/
def WI (l : List Held) (n k b : Nat) (m : Int) (f : List Int) : Prop :=
  ((b = 0 ∧ m = -1 ∧ f = []) ∨ (vset n f ∧ f.length ≤ k ∧ lossP l f = m)) ∧ ∀ c, c < b → (membL c n).length ≤ k → good l m f (membL c n)
theorem WI.skip {l : List Held} {n k b : Nat} {m : Int} {f : List Int} (h : WI l n k b m f) (hk : k < (membL b n).length) : WI l n k (b + 1) m f := by
  obtain ⟨h1, h2⟩ := h
  refine ⟨.inr ?_, fun c hc hl => ?_⟩
  · rcases h1 with ⟨rfl, _⟩ | h1
    · have : membL 0 n = [] := by simp [membL]
      rw [this] at hk; simp at hk
    · exact h1
  · by_cases e : c = b
    · subst e; omega
    · exact h2 c (by omega) hl
theorem WI.take {l : List Held} {n k b : Nat} {m : Int} {f : List Int} (h : WI l n k b m f) (hk : (membL b n).length ≤ k) (hx : lossP l (membL b n) > m ∨ (lossP l (membL b n) = m ∧ before (membL b n) f)) : WI l n k (b + 1) (lossP l (membL b n)) (membL b n) := by
  obtain ⟨h1, h2⟩ := h
  refine ⟨.inr ⟨memb_vset b n, hk, rfl⟩, fun c hc hl => ?_⟩
  by_cases e : c = b
  · subst e; exact .inr ⟨rfl, before_irr _⟩
  · have h3 := h2 c (by omega) hl
    rcases hx with hx | ⟨hx, hb⟩
    · unfold good at h3; exact .inl (by omega)
    · rcases h3 with h3 | ⟨h3, h4⟩
      · exact .inl (by omega)
      · exact .inr ⟨by omega, fun h5 => h4 (before_trans h5 hb)⟩
theorem WI.leave {l : List Held} (hr : Rt l) {n k b : Nat} {m : Int} {f : List Int} (h : WI l n k b m f) (hx : ¬ (lossP l (membL b n) > m ∨ (lossP l (membL b n) = m ∧ before (membL b n) f))) : WI l n k (b + 1) m f := by
  obtain ⟨h1, h2⟩ := h
  refine ⟨.inr ?_, fun c hc hl => ?_⟩
  · rcases h1 with ⟨_, rfl, _⟩ | h1
    · have := (lossP_bd hr (membL b n)).1
      exact absurd (.inl (by omega)) hx
    · exact h1
  · by_cases e : c = b
    · subst e
      unfold good
      by_cases he : lossP l (membL c n) = m
      · exact .inr ⟨he, fun hb => hx (.inr ⟨he, hb⟩)⟩
      · exact .inl (by omega)
    · exact h2 c (by omega) hl
theorem WI.done {l : List Held} {n k : Nat} (hn : n ≤ 20) {m : Int} {f : List Int} (h : WI l n k (2 ^ n) m f) : WorstP l n k m f := by
  obtain ⟨h1, h2⟩ := h
  have hp : 0 < 2 ^ n := Nat.pow_pos (by omega)
  obtain ⟨h3, h4, h5⟩ := h1.resolve_left fun h => by omega
  refine ⟨h3, h4, h5, fun c hc hl => ?_⟩
  obtain ⟨b, hb, rfl⟩ := bits_of_vset hn hc
  exact h2 b hb hl

theorem shl_pow {N P : Nat} (hN : N ≤ 20) (hP : P = 2 ^ N) : arI .shl .i64 1 (N : Int) = (P : Int) ∧ P ≤ 1048576 := by
  have hp : 2 ^ N ≤ 2 ^ 20 := Nat.pow_le_pow_right (by omega) hN
  rw [← hP] at hp
  have hp : P ≤ 1048576 := hp
  refine ⟨?_, hp⟩
  show IntKind.i64.wrap (1 * 2 ^ (min (N : Int).toNat 64)) = _
  have e : min (N : Int).toNat 64 = N := by simp; omega
  rw [e, Int.one_mul]
  have e2 : ((2 : Int) ^ N) = (P : Int) := by rw [hP]; norm_cast
  rw [e2, wrap64_id (by omega)]

set_option maxRecDepth 10000 in
theorem worst14_loop (ρ : Env) (l : List Held) (hr : Rt l) (hl : l.length ≤ maxLen) (hg : ∀ h, h ∈ l → h.2.length ≤ maxLen) (n k : Nat) (hn : n ≤ 20) (h0 : ρ.r 0 = helds l) (h1 : ρ.r 1 = .int n) (h2 : ρ.r 2 = .int k) (h9 : ρ.r 9 = .int (-1)) (h10 : ρ.r 10 = ints []) (h11 : ρ.r 11 = .int 0) {Q : Out → Prop}
    (hQ : ∀ m f (ρ' : Env), WorstP l n k m f → ρ'.r 9 = .int m → ρ'.r 10 = ints f → Q (.next (ρ.put [9, 10, 11, 36, 37, 38, 39] ([9, 10, 11, 36, 37, 38, 39].map ρ'.r) [] []))) : EvP T lp14_0 ρ Q := by
  obtain ⟨P, hP⟩ : ∃ P, P = 2 ^ n := ⟨_, rfl⟩
  obtain ⟨hsh, hp20⟩ := shl_pow hn hP
  refine EvP.forLoop (α := Nat) (fun b vr vo => b ≤ P ∧ ∃ m f, WI l n k b m f ∧ f.length ≤ 20 ∧ vr = [.int m, ints f, .int b] ∧ vo = []) (fun b => P - b) 0 ⟨Nat.zero_le _, -1, [], ⟨.inl ⟨rfl, rfl, rfl⟩, fun c hc => by omega⟩, by simp, by simp [h9, h10, h11], rfl⟩ ?_
  rintro b vr vo ⟨hb, m, f, hI, hf, rfl, rfl⟩
  simp only [rd14_0_eq, rd14_0, wp_ite, wp_chk]
  refine ⟨by simp [h1], ?_⟩
  by_cases hlt : b < P
  case neg =>
    have hbe : b = 2 ^ n := by omega
    rw [if_neg (by simp [h1, hsh]; omega)]
    simp only [wp_exit', roundQ_exit, if_true]
    exact hQ m f _ (WI.done hn (by rw [← hbe]; exact hI)) (by simp) (by simp)
  rw [if_pos (by simp [h1, hsh]; omega)]
  have hw1 : IntKind.i64.wrap ((b : Int) + 1) = ((b + 1 : Nat) : Int) := by rw [wrap64_id (by omega)]; omega
  have hml := membL_len b n
  simp only [wp_blockS, wp_call, holds_nil', if_true]
  refine ⟨_, by simpa [h1] using members_runs b n (by omega), ?_⟩
  simp only [wp_ite]
  have hmx : (100 : Nat) ≤ maxLen := by rw [maxLen_eq]; omega
  by_cases hk : k < (membL b n).length
  · rw [if_pos (by simp [h2]; omega)]
    simp only [wp_exit', wp_next, blockQ_exit, if_true, seqQ_next, roundQ_next]
    refine ⟨b + 1, by omega, by omega, m, f, hI.skip hk, hf, by simp [hw1], rfl⟩
  · rw [if_neg (by simp [h2]; omega)]
    simp only [wp_call, holds_nil', if_true]
    refine ⟨_, by simpa [h0] using loss19_runs l (membL b n) hl hg (by omega), ?_⟩
    by_cases hgt : lossP l (membL b n) > m
    · rw [if_neg (by simp [lossS_eq hr, hgt])]
      simp only [wp_next, blockQ_next, seqQ_next, roundQ_next]
      refine ⟨b + 1, by omega, by omega, _, _, hI.take (by omega) (.inl hgt), by omega, ?_, rfl⟩
      simp [hw1, lossS_eq hr, hgt]
    · by_cases heq : lossP l (membL b n) = m
      · rw [if_pos (by simp [lossS_eq hr, heq])]
        refine ⟨_, by simpa using before_runs (membL b n) f (by omega) (by omega), ?_⟩
        simp only [wp_next, blockQ_next, seqQ_next, roundQ_next]
        by_cases hbf : before (membL b n) f
        · refine ⟨b + 1, by omega, by omega, _, _, hI.take (by omega) (.inr ⟨heq, hbf⟩), by omega, ?_, rfl⟩
          simp [hw1, lossS_eq hr, heq, hbf]
        · refine ⟨b + 1, by omega, by omega, _, _, hI.leave hr (fun h => h.elim hgt fun h => hbf h.2), hf, ?_, rfl⟩
          simp [hw1, lossS_eq hr, heq, hbf]
      · rw [if_neg (by simp [lossS_eq hr, heq])]
        simp only [wp_next, blockQ_next, seqQ_next, roundQ_next]
        refine ⟨b + 1, by omega, by omega, _, _, hI.leave hr (fun h => h.elim hgt fun h => heq h.1), hf, ?_, rfl⟩
        simp [hw1, lossS_eq hr, heq]
        omega
end Expo
