/-
  How a chain comes about, link by link.
-/
import Derived.Test.YtjjfmpdhjbojfaaTiI
set_option linter.unusedSimpArgs false
set_option linter.unusedVariables false
namespace Title
open Go Go.Proofs Cx

theorem chRun_cons (p : Int × Bool) (c : Ch) (x : Int × S) (l : List (Int × S)) : chRun p c (x :: l) = if brk c x.2 then { c with broken := x.1 } else chRun p (chStep p c x.1 x.2) l := rfl
theorem chRun_append (p : Int × Bool) (m : List (Int × S)) : ∀ (l : List (Int × S)) (c : Ch), c.broken = -1 → (∀ x, x ∈ l → 0 ≤ x.1) →
    chRun p c (l ++ m) = if (chRun p c l).broken = -1 then chRun p (chRun p c l) m else chRun p c l
  | [], c, hc, _ => by simp [chRun, hc]
  | x :: l, c, hc, hl => by
    have h0 := hl x (List.mem_cons_self ..)
    rw [List.cons_append, chRun_cons, chRun_cons]
    by_cases hb : brk c x.2 = true
    · rw [if_pos hb, if_pos hb, if_neg (show ¬ x.1 = -1 by omega)]
    · rw [if_neg hb, if_neg hb]
      exact chRun_append p m l _ hc fun y hy => hl y (List.mem_cons_of_mem _ hy)
theorem chRun_signs (p : Int × Bool) : ∀ (l : List (Int × S)) (c : Ch), c.broken = -1 → (∀ x, x ∈ l → 0 ≤ x.1) →
    ∃ a b, l = a ++ b ∧ (chRun p c l).signs = c.signs ++ a.map (·.1) ∧ ((chRun p c l).broken = -1 → b = []) ∧ ((chRun p c l).broken ≠ -1 → ∃ x b', b = x :: b' ∧ (chRun p c l).broken = x.1)
  | [], c, hc, _ => ⟨[], [], rfl, by simp [chRun], fun _ => rfl, fun h => absurd hc h⟩
  | x :: l, c, hc, hl => by
    have h0 := hl x (List.mem_cons_self ..)
    rw [chRun_cons]
    by_cases hb : brk c x.2 = true
    · rw [if_pos hb]
      exact ⟨[], x :: l, rfl, by simp, fun h => by have : x.1 = -1 := h; omega, fun _ => ⟨x, l, rfl, rfl⟩⟩
    · rw [if_neg hb]
      obtain ⟨a, b, h1, h2, h3, h4⟩ := chRun_signs p l (chStep p c x.1 x.2) hc fun y hy => hl y (List.mem_cons_of_mem _ hy)
      exact ⟨x :: a, b, by rw [h1]; rfl, by rw [h2]; simp [chStep], h3, h4⟩
theorem chRun_bearer (p : Int × Bool) : ∀ (l : List (Int × S)) (c : Ch), c.bearer = (c.holder == -1) → (chRun p c l).bearer = ((chRun p c l).holder == -1)
  | [], c, hc => hc
  | x :: l, c, hc => by
    rw [chRun_cons]
    split
    · exact hc
    · exact chRun_bearer p l _ rfl

def pairE (f : File) (i : Nat) : Int × S := ((i : Int), f.signs.getD i default)
/-- the chain over the first k signatures -/
def chK (f : File) (part day : Int) (k : Nat) : Ch := chRun (dishF day f.acts) (ch0 f) ((endsK f part day k).map (pairE f))
theorem chK_all (f : File) (part day : Int) : chK f part day f.signs.length = chain f part day := rfl
theorem pairs_nonneg (f : File) (l : List Nat) : ∀ x, x ∈ l.map (pairE f) → 0 ≤ x.1 := fun x hx => by
  obtain ⟨i, _, rfl⟩ := List.mem_map.1 hx
  exact Int.natCast_nonneg _
theorem endsK_split (f : File) (part day : Int) {k n : Nat} (h : k ≤ n) : ∃ r, endsK f part day n = endsK f part day k ++ r ∧ ∀ j, j ∈ r → k ≤ j ∧ j < n := by
  induction n with
  | zero => obtain rfl : k = 0 := by omega
            exact ⟨[], by simp, by simp⟩
  | succ n ih =>
    by_cases e : k = n + 1
    · exact ⟨[], by rw [e]; simp, by simp⟩
    · obtain ⟨r, h1, h2⟩ := ih (by omega)
      refine ⟨r ++ if isEnd f part day n (f.signs.getD n default) then [n] else [], by rw [endsK_succ, h1, List.append_assoc], fun j hj => ?_⟩
      rcases List.mem_append.1 hj with hj | hj
      · have := h2 j hj; omega
      · split at hj
        · obtain rfl := List.mem_singleton.1 hj; omega
        · cases hj
theorem mem_endsK (f : File) (part day : Int) (k j : Nat) : j ∈ endsK f part day k ↔ j < k ∧ isEnd f part day j (f.signs.getD j default) = true := by
  unfold endsK; rw [List.mem_filter, List.mem_range]
theorem chK_split (f : File) (part day : Int) {k n : Nat} (h : k ≤ n) : ∃ r : List Nat, (∀ j, j ∈ r → k ≤ j ∧ j < n) ∧
    chK f part day n = if (chK f part day k).broken = -1 then chRun (dishF day f.acts) (chK f part day k) (r.map (pairE f)) else chK f part day k := by
  obtain ⟨r, h1, h2⟩ := endsK_split f part day h
  refine ⟨r, h2, ?_⟩
  unfold chK
  rw [h1, List.map_append]
  exact chRun_append _ _ _ _ rfl (pairs_nonneg f _)
theorem chK_broken (f : File) (part day : Int) (k : Nat) (h : (chK f part day k).broken ≠ -1) : ∃ b : Nat, (chK f part day k).broken = b ∧ b < k ∧ isEnd f part day b (f.signs.getD b default) = true := by
  obtain ⟨a, b, h1, h2, h3, h4⟩ := chRun_signs (dishF day f.acts) ((endsK f part day k).map (pairE f)) (ch0 f) rfl (pairs_nonneg f _)
  obtain ⟨x, b', rfl, hx⟩ := h4 h
  have : x ∈ (endsK f part day k).map (pairE f) := by rw [h1]; simp
  obtain ⟨i, hi, rfl⟩ := List.mem_map.1 this
  exact ⟨i, hx, (mem_endsK ..).1 hi⟩
theorem chK_signs (f : File) (part day : Int) (k : Nat) (h : (chK f part day k).broken = -1) : (chK f part day k).signs = (endsK f part day k).map fun (i : Nat) => (i : Int) := by
  obtain ⟨a, b, h1, h2, h3, h4⟩ := chRun_signs (dishF day f.acts) ((endsK f part day k).map (pairE f)) (ch0 f) rfl (pairs_nonneg f _)
  obtain rfl := h3 h
  rw [List.append_nil] at h1
  have : (chK f part day k).signs = ((endsK f part day k).map (pairE f)).map (·.1) := by rw [h1]; simpa [chK, ch0] using h2
  rw [this, List.map_map]; rfl
theorem chK_bearer (f : File) (part day : Int) (k : Nat) : (chK f part day k).bearer = ((chK f part day k).holder == -1) := chRun_bearer _ _ _ rfl

/-- up to where a chain goes -/
def upto (f : File) (part day : Int) : Nat := if (chain f part day).broken = -1 then f.signs.length else (chain f part day).broken.toNat
theorem upto_cases (f : File) (part day : Int) : ((chain f part day).broken = -1 ∧ upto f part day = f.signs.length) ∨
    ((chain f part day).broken = (upto f part day : Int) ∧ upto f part day < f.signs.length ∧ isEnd f part day (upto f part day) (f.signs.getD (upto f part day) default) = true) := by
  by_cases h : (chain f part day).broken = -1
  · exact .inl ⟨h, by unfold upto; rw [if_pos h]⟩
  · obtain ⟨b, h1, h2, h3⟩ := chK_broken f part day f.signs.length h
    have hb : (chain f part day).broken = b := h1
    have : upto f part day = b := by unfold upto; rw [if_neg h, hb]; rfl
    rw [this]; exact .inr ⟨hb, h2, h3⟩
theorem upto_le (f : File) (part day : Int) : upto f part day ≤ f.signs.length := by
  rcases upto_cases f part day with h | h <;> omega
theorem chK_whole (f : File) (part day : Int) (k : Nat) (hk : k ≤ upto f part day) : (chK f part day k).broken = -1 := by
  have hle := upto_le f part day
  obtain ⟨r, hr, h⟩ := chK_split f part day (show k ≤ f.signs.length by omega)
  rw [chK_all] at h
  by_cases e : (chK f part day k).broken = -1
  · exact e
  · rw [if_neg e] at h
    obtain ⟨b, h1, h2, _⟩ := chK_broken f part day k e
    rw [← h] at h1
    rcases upto_cases f part day with ⟨h3, h4⟩ | ⟨h3, _⟩ <;> omega
theorem chK_step (f : File) (part day : Int) (k : Nat) (hk : (chK f part day k).broken = -1) (he : isEnd f part day k (f.signs.getD k default) = true) :
    chK f part day (k + 1) = if brk (chK f part day k) (f.signs.getD k default) then { chK f part day k with broken := k } else chStep (dishF day f.acts) (chK f part day k) k (f.signs.getD k default) := by
  have h1 : endsK f part day (k + 1) = endsK f part day k ++ [k] := by rw [endsK_succ, if_pos he]
  have h2 : chK f part day (k + 1) = chRun (dishF day f.acts) (chK f part day k) [pairE f k] := by
    unfold chK at hk ⊢
    rw [h1, List.map_append, chRun_append _ _ _ _ rfl (pairs_nonneg f _), if_pos hk]; rfl
  rw [h2, chRun_cons]; rfl
theorem chK_skip (f : File) (part day : Int) (k : Nat) (he : ¬ isEnd f part day k (f.signs.getD k default) = true) : chK f part day (k + 1) = chK f part day k := by
  unfold chK; rw [endsK_succ, if_neg he, List.append_nil]
/-- a signature that goes into a chain and does not break it is a link -/
theorem link (f : File) (part day : Int) (k : Nat) (hk : k < upto f part day) (he : isEnd f part day k (f.signs.getD k default) = true) :
    brk (chK f part day k) (f.signs.getD k default) = false ∧ chK f part day (k + 1) = chStep (dishF day f.acts) (chK f part day k) k (f.signs.getD k default) ∧
    ∃ r, (chain f part day).signs = ((endsK f part day k).map fun (i : Nat) => (i : Int)) ++ (k : Int) :: r := by
  have h0 := chK_whole f part day k (by omega)
  have h1 := chK_whole f part day (k + 1) (by omega)
  have hs := chK_step f part day k h0 he
  have hb : brk (chK f part day k) (f.signs.getD k default) = false := by
    cases e : brk (chK f part day k) (f.signs.getD k default) with
    | false => rfl
    | true =>
      rw [if_pos e] at hs
      rw [hs] at h1
      have : (k : Int) = -1 := h1
      omega
  rw [if_neg (by rw [hb]; exact Bool.false_ne_true)] at hs
  have hle := upto_le f part day
  obtain ⟨r, hr, h⟩ := chK_split f part day (show k + 1 ≤ f.signs.length by omega)
  rw [chK_all, if_pos h1] at h
  obtain ⟨a, b, _, h2, _⟩ := chRun_signs (dishF day f.acts) (r.map (pairE f)) (chK f part day (k + 1)) h1 (pairs_nonneg f _)
  refine ⟨hb, hs, a.map (·.1), ?_⟩
  rw [h, h2, hs]
  simp only [chStep, chK_signs f part day k h0, List.append_assoc]; rfl
/-- the end of a chain -/
theorem stop (f : File) (part day : Int) : (chain f part day).signs.length = (endsK f part day (upto f part day)).length ∧ (chain f part day).holder = (chK f part day (upto f part day)).holder ∧
    ((chain f part day).broken ≠ -1 → brk (chK f part day (upto f part day)) (f.signs.getD (upto f part day) default) = true) := by
  rcases upto_cases f part day with ⟨h1, h2⟩ | ⟨h1, h2, h3⟩
  · have h4 : (chK f part day f.signs.length).broken = -1 := h1
    have h5 := chK_signs f part day _ h4
    rw [chK_all] at h5
    rw [h2]
    exact ⟨by rw [h5]; simp, rfl, fun h => absurd h1 h⟩
  · have h0 := chK_whole f part day _ (Nat.le_refl _)
    have hs := chK_step f part day _ h0 h3
    obtain ⟨r, hr, h⟩ := chK_split f part day (show upto f part day + 1 ≤ f.signs.length by omega)
    rw [chK_all] at h
    have hb : brk (chK f part day (upto f part day)) (f.signs.getD (upto f part day) default) = true := by
      cases e : brk (chK f part day (upto f part day)) (f.signs.getD (upto f part day) default) with
      | true => rfl
      | false =>
        rw [if_neg (by rw [e]; exact Bool.false_ne_true)] at hs
        have h4 : (chK f part day (upto f part day + 1)).broken = -1 := by rw [hs]; exact h0
        rw [if_pos h4] at h
        obtain ⟨a, b, g1, _, g3, g4⟩ := chRun_signs (dishF day f.acts) (r.map (pairE f)) (chK f part day (upto f part day + 1)) h4 (pairs_nonneg f _)
        rw [← h] at g4
        obtain ⟨x, b', rfl, hx⟩ := g4 (by omega)
        have hm : x ∈ r.map (pairE f) := by rw [g1]; simp
        obtain ⟨i, hi, rfl⟩ := List.mem_map.1 hm
        have := hr i hi
        have hx' : (chain f part day).broken = (i : Int) := hx
        omega
    rw [if_pos hb] at hs
    rw [if_neg (by rw [hs]; show ¬ ((upto f part day : Nat) : Int) = -1; omega)] at h
    rw [h, hs]
    exact ⟨by rw [chK_signs f part day _ h0]; simp, rfl, fun _ => hb⟩
end Title
