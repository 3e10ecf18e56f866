/-
  Sets of groups in their order; the set that comes next; the worst set. No program in sight.
-/
import Derived.Test.YtjkeifcibnadcaaExD
set_option linter.unusedSimpArgs false
set_option linter.unusedVariables false
namespace Expo
open Go Go.Proofs Cx

/-- a list made of its elements -/
def mkL (s : Nat) (f : Nat → Int) : List Int := (List.range s).map f
@[simp] theorem mkL_len (s : Nat) (f : Nat → Int) : (mkL s f).length = s := by simp [mkL]
theorem mkL_getD (s : Nat) (f : Nat → Int) {k : Nat} (h : k < s) : (mkL s f).getD k 0 = f k := by
  rw [List.getD_eq_getElem?_getD]; simp [mkL, List.getElem?_map, List.getElem?_range h]
theorem ext_getD {a b : List Int} (h : a.length = b.length) (he : ∀ k, k < a.length → a.getD k 0 = b.getD k 0) : a = b := by
  refine List.ext_getElem h fun k h1 h2 => ?_
  have := he k h1
  rwa [List.getD_eq_getElem?_getD, List.getD_eq_getElem?_getD, List.getElem?_eq_getElem h1, List.getElem?_eq_getElem h2] at this
theorem mkL_eq {a : List Int} {s : Nat} {f : Nat → Int} (h : a.length = s) (he : ∀ k, k < s → a.getD k 0 = f k) : a = mkL s f :=
  ext_getD (by simp [h]) fun k hk => by rw [mkL_getD s f (by omega)]; exact he k (by omega)
theorem mkL_congr {s : Nat} {f g : Nat → Int} (he : ∀ k, k < s → f k = g k) : mkL s f = mkL s g :=
  mkL_eq (by simp) fun k hk => by rw [mkL_getD s f hk]; exact he k hk
theorem mkL_set (s : Nat) (f : Nat → Int) (k : Nat) (v : Int) : (mkL s f).set k v = mkL s fun j => if j = k then v else f j := by
  refine mkL_eq (by simp) fun j hj => ?_
  have h1 := mkL_getD s f hj
  rw [List.getD_eq_getElem?_getD] at h1 ⊢
  rw [List.getElem?_set]
  by_cases e : k = j
  · subst e; simp [hj]
  · rw [if_neg e, if_neg fun h => e h.symm]; exact h1

def vset (n : Int) (c : List Int) : Prop := ∀ k, k < c.length → 0 ≤ c.getD k 0 ∧ c.getD k 0 < n ∧ (0 < k → c.getD (k - 1) 0 < c.getD k 0)
def lexLt (a b : List Int) : Prop := ∃ i, i < a.length ∧ (∀ j, j < i → a.getD j 0 = b.getD j 0) ∧ a.getD i 0 < b.getD i 0
def before (a b : List Int) : Prop := a.length < b.length ∨ (a.length = b.length ∧ lexLt a b)

theorem vset_nil (n : Int) : vset n [] := fun k hk => by simp at hk
theorem vset.step {n : Int} {c : List Int} (h : vset n c) (j : Nat) : ∀ d : Nat, j + d < c.length → c.getD j 0 + d ≤ c.getD (j + d) 0
  | 0, _ => by simp
  | d + 1, hd => by
    have h1 := h.step j d (by omega)
    have h2 := (h (j + d + 1) (by omega)).2.2 (by omega)
    simp only [Nat.add_sub_cancel] at h2
    rw [← Nat.add_assoc]
    omega
theorem vset.hi {n : Int} {c : List Int} (h : vset n c) {k : Nat} (hk : k < c.length) : c.getD k 0 ≤ n - c.length + k := by
  have h1 := h.step k (c.length - 1 - k) (by omega)
  have h2 := (h (c.length - 1) (by omega)).2.1
  have e : k + (c.length - 1 - k) = c.length - 1 := by omega
  rw [e] at h1
  omega
theorem vset.len {n : Int} {c : List Int} (h : vset n c) (hn : 0 ≤ n) : (c.length : Int) ≤ n := by
  by_cases h0 : c.length = 0
  · omega
  · have h1 := h.hi (k := 0) (by omega)
    have h2 := (h 0 (by omega)).1
    omega
theorem lex_irr (a : List Int) : ¬ lexLt a a := fun ⟨i, _, _, h⟩ => by omega
theorem lex_asymm {a b : List Int} (h : lexLt a b) (h' : lexLt b a) : False := by
  obtain ⟨i, _, h1, h2⟩ := h
  obtain ⟨k, _, h3, h4⟩ := h'
  by_cases e : i = k
  · subst e; omega
  · by_cases hlt : i < k
    · have := h3 i hlt; omega
    · have := h1 k (by omega); omega
theorem lex_trans {a b c : List Int} (hl : a.length = b.length) (h : lexLt a b) (h' : lexLt b c) : lexLt a c := by
  obtain ⟨i, hi, h1, h2⟩ := h
  obtain ⟨k, hk, h3, h4⟩ := h'
  by_cases e : i = k
  · subst e; exact ⟨i, hi, fun j hj => (h1 j hj).trans (h3 j hj), by omega⟩
  · by_cases hlt : i < k
    · exact ⟨i, hi, fun j hj => (h1 j hj).trans (h3 j (by omega)), by rw [← h3 i hlt]; exact h2⟩
    · exact ⟨k, by omega, fun j hj => (h1 j (by omega)).trans (h3 j hj), by rw [h1 k (by omega)]; exact h4⟩
theorem first_diff {a b : List Int} (P : Nat → Prop) (hP : ∀ k, P k ↔ a.getD k 0 = b.getD k 0) : ∀ s, (∀ j, j < s → a.getD j 0 = b.getD j 0) ∨ ∃ i, i < s ∧ (∀ j, j < i → a.getD j 0 = b.getD j 0) ∧ a.getD i 0 ≠ b.getD i 0
  | 0 => .inl fun j hj => by omega
  | s + 1 => by
    rcases first_diff P hP s with h | ⟨i, hi, h1, h2⟩
    · by_cases e : a.getD s 0 = b.getD s 0
      · refine .inl fun j hj => ?_
        by_cases ej : j = s
        · subst ej; exact e
        · exact h j (by omega)
      · exact .inr ⟨s, by omega, h, e⟩
    · exact .inr ⟨i, by omega, h1, h2⟩
theorem lex_tri {a b : List Int} (h : a.length = b.length) : a = b ∨ lexLt a b ∨ lexLt b a := by
  rcases first_diff (a := a) (b := b) (fun k => a.getD k 0 = b.getD k 0) (fun _ => Iff.rfl) a.length with h1 | ⟨i, hi, h1, h2⟩
  · exact .inl (ext_getD h h1)
  · right
    by_cases hlt : a.getD i 0 < b.getD i 0
    · exact .inl ⟨i, hi, h1, hlt⟩
    · exact .inr ⟨i, by omega, fun j hj => (h1 j hj).symm, by omega⟩
theorem lex_of_le {a b : List Int} (h : a.length = b.length) (hle : ∀ j, j < a.length → a.getD j 0 ≤ b.getD j 0) : a = b ∨ lexLt a b := by
  rcases lex_tri h with h1 | h1 | ⟨i, hi, _, h2⟩
  · exact .inl h1
  · exact .inr h1
  · have := hle i (by omega); omega
theorem before_irr (a : List Int) : ¬ before a a := fun h => h.elim (by omega) fun h => lex_irr a h.2
theorem before_asymm {a b : List Int} (h : before a b) (h' : before b a) : False := by
  rcases h with h | h <;> rcases h' with h' | h'
  · omega
  · omega
  · omega
  · exact lex_asymm h.2 h'.2
theorem before_tri (a b : List Int) : a = b ∨ before a b ∨ before b a := by
  by_cases h : a.length = b.length
  · rcases lex_tri h with h1 | h1 | h1
    · exact .inl h1
    · exact .inr (.inl (.inr ⟨h, h1⟩))
    · exact .inr (.inr (.inr ⟨h.symm, h1⟩))
  · by_cases hlt : a.length < b.length
    · exact .inr (.inl (.inl hlt))
    · exact .inr (.inr (.inl (by omega)))
theorem before_trans {a b c : List Int} (h : before a b) (h' : before b c) : before a c := by
  rcases h with h | h <;> rcases h' with h' | h'
  · exact .inl (by omega)
  · exact .inl (by omega)
  · exact .inl (by omega)
  · exact .inr ⟨by omega, lex_trans h.1 h.2 h'.2⟩

/-! ### the next set -/
def nextF (a : List Int) (i : Nat) (j : Nat) : Int := if j < i then a.getD j 0 else a.getD i 0 + 1 + ((j : Int) - i)
def nextL (a : List Int) (i : Nat) : List Int := mkL a.length (nextF a i)
theorem next_spec {n : Int} {a : List Int} {i : Nat} (hv : vset n a) (hi : i < a.length) (hne : a.getD i 0 ≠ n - a.length + i) (hafter : ∀ j, i < j → j < a.length → a.getD j 0 = n - a.length + j) :
    vset n (nextL a i) ∧ lexLt a (nextL a i) ∧ ∀ c, vset n c → c.length = a.length → c = a ∨ lexLt c a ∨ c = nextL a i ∨ lexLt (nextL a i) c := by
  have hhi := hv.hi hi
  have hg : ∀ j, j < a.length → (nextL a i).getD j 0 = nextF a i j := fun j hj => mkL_getD _ _ hj
  have hlen : (nextL a i).length = a.length := mkL_len _ _
  refine ⟨fun k hk => ?_, ⟨i, hi, fun j hj => ?_, ?_⟩, fun c hc hcl => ?_⟩
  · rw [hlen] at hk
    have hk1 := hv k hk
    have hi1 := hv i hi
    rw [hg k hk]
    refine ⟨?_, ?_, fun h0 => ?_⟩
    · unfold nextF; split <;> omega
    · unfold nextF; split <;> omega
    · rw [hg (k - 1) (by omega)]
      unfold nextF
      by_cases h1 : k < i
      · rw [if_pos (by omega), if_pos h1]; exact hk1.2.2 h0
      · by_cases h2 : k = i
        · subst h2; rw [if_pos (by omega), if_neg (by omega)]
          have := hk1.2.2 h0; omega
        · rw [if_neg (by omega), if_neg (by omega)]; omega
  · rw [hg j (by omega)]; unfold nextF; rw [if_pos hj]
  · rw [hg i hi]; unfold nextF; rw [if_neg (by omega)]; omega
  · rcases lex_tri hcl with h | h | ⟨p, hp, h1, h2⟩
    · exact .inl h
    · exact .inr (.inl h)
    · right; right
      have hcp := hc.hi (k := p) (by omega)
      rw [hcl] at hcp
      have hpi : p ≤ i := by
        refine Nat.le_of_not_lt fun hlt => ?_
        have := hafter p hlt hp; omega
      have hlc : (nextL a i).length = c.length := by omega
      by_cases hlt : p < i
      · right
        refine ⟨p, by omega, fun j hj => ?_, ?_⟩
        · rw [hg j (by omega), nextF, if_pos (by omega)]; exact h1 j hj
        · rw [hg p (by omega), nextF, if_pos hlt]; exact h2
      · obtain rfl : p = i := by omega
        have hle : ∀ j, j < (nextL a p).length → (nextL a p).getD j 0 ≤ c.getD j 0 := by
          intro j hj
          rw [hg j (by omega)]; unfold nextF
          by_cases hj2 : j < p
          · rw [if_pos hj2, h1 j hj2]; exact Int.le_refl _
          · rw [if_neg hj2]
            have h3 := hc.step p (j - p) (by omega)
            have e : p + (j - p) = j := by omega
            rw [e] at h3; omega
        rcases lex_of_le hlc hle with h | h
        · exact .inl h.symm
        · exact .inr h
theorem last_spec {n : Int} {a : List Int} (hv : vset n a) (hall : ∀ j, j < a.length → a.getD j 0 = n - a.length + j) {c : List Int} (hc : vset n c) (hl : c.length = a.length) : c = a ∨ lexLt c a := by
  refine lex_of_le hl fun j hj => ?_
  have := hc.hi hj
  rw [hall j (by omega)]; omega
theorem first_spec {n : Int} {s : Nat} (hs : (s : Int) ≤ n) : vset n (mkL s fun j => j) ∧ ∀ c, vset n c → c.length = s → ¬ lexLt c (mkL s fun j => j) := by
  refine ⟨fun k hk => ?_, fun c hc hl h => ?_⟩
  · simp only [mkL_len] at hk
    rw [mkL_getD _ _ hk]
    exact ⟨by omega, by omega, fun h0 => by rw [mkL_getD _ _ (by omega)]; omega⟩
  · obtain ⟨i, hi, _, h2⟩ := h
    rw [mkL_getD _ _ (by omega)] at h2
    have := hc.step 0 i (by omega)
    have h0 := (hc 0 (by omega)).1
    rw [Nat.zero_add] at this
    omega

/-! ### a number for a set: later sets have greater ones -/
def numL (a : List Int) : Nat → Nat
  | 0 => 0
  | k + 1 => numL a k * 32 + (a.getD k 0).toNat
theorem numL_le (a : List Int) (h : ∀ j, j < a.length → a.getD j 0 < 32) : ∀ k, k ≤ a.length → numL a k < 32 ^ k
  | 0, _ => by simp [numL]
  | k + 1, hk => by
    have h1 := numL_le a h k (by omega)
    have h2 := h k (by omega)
    have : (a.getD k 0).toNat < 32 := by omega
    rw [numL, Nat.pow_succ]; omega
theorem numL_congr {a b : List Int} : ∀ k, (∀ j, j < k → a.getD j 0 = b.getD j 0) → numL a k = numL b k
  | 0, _ => rfl
  | k + 1, h => by rw [numL, numL, numL_congr k fun j hj => h j (by omega), h k (by omega)]
theorem numL_lt {n : Int} {a b : List Int} (hn : n ≤ 32) (hl : a.length = b.length) (ha : vset n a) (hb : vset n b) (h : lexLt a b) : numL a a.length < numL b a.length := by
  obtain ⟨i, hi, h1, h2⟩ := h
  have key : ∀ d, i + 1 + d ≤ a.length → numL a (i + 1 + d) < numL b (i + 1 + d) := by
    intro d
    induction d with
    | zero =>
      intro _
      rw [Nat.add_zero, numL, numL, numL_congr i h1]
      have := (ha i hi).1; omega
    | succ d ih =>
      intro hd
      have := ih (by omega)
      rw [← Nat.add_assoc, numL, numL]
      have h3 := (ha (i + 1 + d) (by omega)).2.1
      omega
  have := key (a.length - (i + 1)) (by omega)
  have e : i + 1 + (a.length - (i + 1)) = a.length := by omega
  rwa [e] at this

/-! ### the worst set -/
def good (l : List Held) (most : Int) (failed c : List Int) : Prop := lossP l c < most ∨ (lossP l c = most ∧ ¬ before c failed)
def WorstP (l : List Held) (n : Int) (k : Nat) (most : Int) (failed : List Int) : Prop :=
  vset n failed ∧ failed.length ≤ k ∧ lossP l failed = most ∧ ∀ c, vset n c → c.length ≤ k → good l most failed c
/-- so far: sets of fewer groups, and those of as many that come before one -/
def WorstI (l : List Held) (n : Int) (a : List Int) (most : Int) (failed : List Int) : Prop :=
  vset n a ∧ vset n failed ∧ before failed a ∧ lossP l failed = most ∧ ∀ c, vset n c → before c a → good l most failed c
theorem WorstP.uniq {l : List Held} {n : Int} {k : Nat} {m m' : Int} {f f' : List Int} (h : WorstP l n k m f) (h' : WorstP l n k m' f') : m = m' ∧ f = f' := by
  obtain ⟨h1, h2, h3, h4⟩ := h
  obtain ⟨g1, g2, g3, g4⟩ := h'
  have a := h4 _ g1 g2
  have b := g4 _ h1 h2
  unfold good at a b
  have hm : m = m' := by omega
  refine ⟨hm, ?_⟩
  rcases before_tri f f' with e | e | e
  · exact e
  · rcases b with b | b
    · omega
    · exact absurd e b.2
  · rcases a with a | a
    · omega
    · exact absurd e a.2
theorem worst_zero (l : List Held) (n : Int) : WorstP l n 0 (lossP l []) [] :=
  ⟨vset_nil n, by simp, rfl, fun c _ hc => by
    have : c = [] := List.eq_nil_of_length_eq_zero (by omega)
    subst this
    exact .inr ⟨rfl, before_irr _⟩⟩
theorem worst_start {l : List Held} {n : Int} {k : Nat} {m : Int} {f : List Int} (h : WorstP l n k m f) (hs : (k + 1 : Int) ≤ n) : WorstI l n (mkL (k + 1) fun j => j) m f := by
  obtain ⟨h1, h2, h3, h4⟩ := h
  have hf := first_spec (n := n) (s := k + 1) (by omega)
  refine ⟨hf.1, h1, .inl (by simp; omega), h3, fun c hc hb => ?_⟩
  rcases hb with hb | ⟨hb, hb'⟩
  · exact h4 c hc (by simp at hb; omega)
  · exact absurd hb' (hf.2 c hc (by simpa using hb))
/-- one set looked at -/
theorem worst_look {l : List Held} {n : Int} {a : List Int} {m : Int} {f : List Int} (h : WorstI l n a m f) :
    let m' := if lossP l a > m then lossP l a else m
    let f' := if lossP l a > m then a else f
    vset n f' ∧ (f' = a ∨ before f' a) ∧ lossP l f' = m' ∧ ∀ c, vset n c → (c = a ∨ before c a) → good l m' f' c := by
  obtain ⟨h1, h2, h3, h4, h5⟩ := h
  by_cases hc : lossP l a > m
  · simp only [if_pos hc]
    refine ⟨h1, .inl trivial, trivial, fun c hv hca => ?_⟩
    rcases hca with rfl | hca
    · exact .inr ⟨rfl, before_irr _⟩
    · have := h5 c hv hca
      unfold good at this
      exact .inl (by omega)
  · simp only [if_neg hc]
    refine ⟨h2, .inr h3, h4, fun c hv hca => ?_⟩
    rcases hca with rfl | hca
    · unfold good
      by_cases he : lossP l c = m
      · exact .inr ⟨he, fun hb => before_asymm h3 hb⟩
      · exact .inl (by omega)
    · exact h5 c hv hca
theorem worst_next {l : List Held} {n : Int} {a : List Int} {m : Int} {f : List Int} (h : vset n f ∧ (f = a ∨ before f a) ∧ lossP l f = m ∧ ∀ c, vset n c → (c = a ∨ before c a) → good l m f c) (hv : vset n a)
    {i : Nat} (hi : i < a.length) (hne : a.getD i 0 ≠ n - a.length + i) (hafter : ∀ j, i < j → j < a.length → a.getD j 0 = n - a.length + j) : WorstI l n (nextL a i) m f := by
  obtain ⟨h1, h2, h3, h4⟩ := h
  obtain ⟨k1, k2, k3⟩ := next_spec hv hi hne hafter
  have hlen : (nextL a i).length = a.length := mkL_len _ _
  have hb : before a (nextL a i) := .inr ⟨by omega, k2⟩
  refine ⟨k1, h1, ?_, h3, fun c hc hcb => h4 c hc ?_⟩
  · rcases h2 with rfl | h2
    · exact hb
    · exact before_trans h2 hb
  · rcases hcb with hcb | ⟨hcb, hlt⟩
    · exact .inr (.inl (by omega))
    · rcases k3 c hc (by omega) with e | e | e | e
      · exact .inl e
      · exact .inr (.inr ⟨by omega, e⟩)
      · exact absurd hlt (e ▸ lex_irr _)
      · exact (lex_asymm hlt e).elim
theorem worst_end {l : List Held} {n : Int} {a : List Int} {m : Int} {f : List Int} (h : vset n f ∧ (f = a ∨ before f a) ∧ lossP l f = m ∧ ∀ c, vset n c → (c = a ∨ before c a) → good l m f c) (hv : vset n a)
    (hall : ∀ j, j < a.length → a.getD j 0 = n - a.length + j) : WorstP l n a.length m f := by
  obtain ⟨h1, h2, h3, h4⟩ := h
  refine ⟨h1, ?_, h3, fun c hc hcl => h4 c hc ?_⟩
  · rcases h2 with rfl | h2 | h2 <;> omega
  · by_cases hlt : c.length < a.length
    · exact .inr (.inl hlt)
    · rcases last_spec hv hall hc (by omega) with e | e
      · exact .inl e
      · exact .inr (.inr ⟨by omega, e⟩)
end Expo
