/-
  Rivals.
-/
import Derived.Test.YtjjfmpdhjbojfaaTiF
set_option linter.unusedSimpArgs false
set_option linter.unusedVariables false
namespace Title
open Go Go.Proofs Cx

theorem chRun_len (p : Int × Bool) : ∀ (l : List (Int × S)) (c : Ch), (chRun p c l).signs.length ≤ c.signs.length + l.length ∧ ((chRun p c l).late.length ≤ c.late.length + l.length)
  | [], c => by simp [chRun]
  | x :: l, c => by
    unfold chRun
    split
    · exact ⟨Nat.le_add_right _ _, Nat.le_add_right _ _⟩
    · have := chRun_len p l (chStep p c x.1 x.2)
      have h1 : (chStep p c x.1 x.2).signs.length = c.signs.length + 1 := by simp [chStep]
      have h2 : (chStep p c x.1 x.2).late.length ≤ c.late.length + 1 := by
        simp only [chStep]; split <;> simp
      simp only [List.length_cons]; omega
theorem chain_len (f : File) (part day : Int) : (chain f part day).signs.length ≤ f.signs.length ∧ (chain f part day).late.length ≤ f.signs.length := by
  have h := chRun_len (dishF day f.acts) (endsE f part day) (ch0 f)
  have h2 := ends_len f part day
  have h3 : (endsE f part day).length = (endsL f part day).length := by unfold endsE; rw [List.length_map]
  have h4 : (ch0 f).signs.length = 0 ∧ (ch0 f).late.length = 0 := ⟨rfl, rfl⟩
  unfold chain; omega

def ne (f : File) (day : Int) (p : Nat) : Bool := decide (0 < (chain f p day).signs.length)
def hd (f : File) (day : Int) (p : Nat) : Int := (chain f p day).holder
def holdM (f : File) (day : Int) (k : Nat) : List (Int × D) := (List.range k).foldl (fun m p => if ne f day p then putI p (.int (hd f day p)) m else m) []
def endsM (f : File) (day : Int) (k : Nat) : List (Int × D) := (List.range k).foldl (fun m p => if ne f day p then putI (hd f day p) (.bool true) m else m) []
theorem holdM_succ (f : File) (day : Int) (k : Nat) : holdM f day (k + 1) = if ne f day k then putI k (.int (hd f day k)) (holdM f day k) else holdM f day k := by
  unfold holdM; rw [List.range_succ, List.foldl_append]; rfl
theorem endsM_succ (f : File) (day : Int) (k : Nat) : endsM f day (k + 1) = if ne f day k then putI (hd f day k) (.bool true) (endsM f day k) else endsM f day k := by
  unfold endsM; rw [List.range_succ, List.foldl_append]; rfl
theorem holdM_len (f : File) (day : Int) (k : Nat) : (holdM f day k).length ≤ k := by
  induction k with
  | zero => simp [holdM]
  | succ k ih =>
    rw [holdM_succ]; split
    · have := putI_len (k : Int) (.int (hd f day k)) (holdM f day k); omega
    · omega
theorem endsM_len (f : File) (day : Int) (k : Nat) : (endsM f day k).length ≤ k := by
  induction k with
  | zero => simp [endsM]
  | succ k ih =>
    rw [endsM_succ]; split
    · have := putI_len (hd f day k) (.bool true) (endsM f day k); omega
    · omega
theorem holdM_look (f : File) (day : Int) (k : Nat) (a : Int) : (lookI a (holdM f day k)).isSome = decide (∃ p : Nat, p < k ∧ a = p ∧ ne f day p = true) := by
  induction k with
  | zero => simp [holdM, lookI]
  | succ k ih =>
    rw [holdM_succ]
    by_cases hn : ne f day k = true
    · rw [if_pos hn, lookI_put]
      by_cases ha : a = k
      · rw [if_pos ha]; symm; simp only [Option.isSome_some, decide_eq_true_eq]; exact ⟨k, by omega, ha, hn⟩
      · rw [if_neg ha, ih, decide_eq_decide]
        exact ⟨fun ⟨p, h1, h2, h3⟩ => ⟨p, by omega, h2, h3⟩, fun ⟨p, h1, h2, h3⟩ => ⟨p, by
          have : p ≠ k := fun e => ha (by rw [h2, e])
          omega, h2, h3⟩⟩
    · rw [if_neg hn, ih, decide_eq_decide]
      exact ⟨fun ⟨p, h1, h2, h3⟩ => ⟨p, by omega, h2, h3⟩, fun ⟨p, h1, h2, h3⟩ => ⟨p, by
        have : p ≠ k := fun e => hn (by rw [← e]; exact h3)
        omega, h2, h3⟩⟩
theorem putI_keys (a : Int) (v : D) : ∀ m : List (Int × D), (putI a v m).map (·.1) = if a ∈ m.map (·.1) then m.map (·.1) else m.map (·.1) ++ [a]
  | [] => by simp [putI]
  | e :: m => by
    have ih := putI_keys a v m
    unfold putI
    by_cases h : a = e.1
    · rw [if_pos h]; simp [h]
    · rw [if_neg h, List.map_cons, ih]
      by_cases h2 : a ∈ m.map (·.1)
      · rw [if_pos h2, if_pos (by simp only [List.map_cons, List.mem_cons]; exact .inr h2)]; rfl
      · rw [if_neg h2, if_neg (by simp only [List.map_cons, List.mem_cons, not_or]; exact ⟨h, h2⟩)]; rfl
theorem endsM_keys (f : File) (day : Int) (k : Nat) : ((endsM f day k).map (·.1)).Nodup ∧ ∀ x, x ∈ (endsM f day k).map (·.1) ↔ ∃ p, p < k ∧ ne f day p = true ∧ hd f day p = x := by
  induction k with
  | zero => simp [endsM]
  | succ k ih =>
    obtain ⟨h1, h2⟩ := ih
    rw [endsM_succ]
    by_cases hn : ne f day k = true
    · rw [if_pos hn, putI_keys]
      by_cases hm : hd f day k ∈ (endsM f day k).map (·.1)
      · rw [if_pos hm]
        refine ⟨h1, fun x => (h2 x).trans ⟨fun ⟨p, g1, g2⟩ => ⟨p, by omega, g2⟩, fun ⟨p, g1, g2, g3⟩ => ?_⟩⟩
        by_cases e : p = k
        · subst e; obtain ⟨q, q1, q2, q3⟩ := (h2 _).1 hm; exact ⟨q, q1, q2, q3.trans g3⟩
        · exact ⟨p, by omega, g2, g3⟩
      · rw [if_neg hm]
        refine ⟨List.nodup_append.2 ⟨h1, by simp, fun a ha b hb => ?_⟩, fun x => ?_⟩
        · simp at hb; subst hb; intro e; subst e; exact hm ha
        · rw [List.mem_append, h2]
          constructor
          · rintro (⟨p, g1, g2⟩ | g)
            · exact ⟨p, by omega, g2⟩
            · simp at g; exact ⟨k, by omega, hn, g.symm⟩
          · rintro ⟨p, g1, g2, g3⟩
            by_cases e : p = k
            · subst e; right; simp [g3]
            · exact .inl ⟨p, by omega, g2, g3⟩
    · rw [if_neg hn]
      refine ⟨h1, fun x => (h2 x).trans ⟨fun ⟨p, g1, g2⟩ => ⟨p, by omega, g2⟩, fun ⟨p, g1, g2, g3⟩ => ⟨p, by
        have : p ≠ k := fun e => hn (by rw [← e]; exact g2)
        omega, g2, g3⟩⟩⟩
theorem nodup_two {l : List Int} (hn : l.Nodup) {x : Int} (hx : x ∈ l) : 1 < l.length ↔ ∃ y, y ∈ l ∧ y ≠ x := by
  match l, hx with
  | [a], hx => simp at hx; subst hx; simp
  | a :: b :: l, hx =>
    rw [List.nodup_cons] at hn
    have hab : a ≠ b := fun e => hn.1 (by rw [e]; simp)
    refine ⟨fun _ => ?_, fun _ => by simp⟩
    by_cases h : a = x
    · exact ⟨b, by simp, fun e => hab (h.trans e.symm)⟩
    · exact ⟨a, by simp, h⟩
/-- how many parts are looked at -/
def parts (f : File) : Nat := (if 4 < f.parts then 4 else f.parts).toNat
theorem parts_le (f : File) : parts f ≤ 4 := by unfold parts; split <;> omega
theorem lt_parts (f : File) (k : Nat) : k < parts f ↔ ((k : Int) < f.parts ∧ (k : Int) < 4) := by unfold parts; split <;> omega
def rivB (f : File) (day : Int) (a : Nat) : Bool := ne f day a && (List.range (parts f)).any fun b => ne f day b && hd f day b != hd f day a
def rivK (f : File) (day : Int) (k : Nat) : List Int := ((List.range k).filter (rivB f day)).map fun (a : Nat) => (a : Int)
def rivals (f : File) (day : Int) : List Int := rivK f day (parts f)
theorem rivK_succ (f : File) (day : Int) (k : Nat) : rivK f day (k + 1) = rivK f day k ++ if rivB f day k then [(k : Int)] else [] := by
  unfold rivK
  rw [List.range_succ, List.filter_append, List.map_append]
  congr 1
  cases h : rivB f day k <;> simp [List.filter, h]
theorem rivK_len (f : File) (day : Int) (k : Nat) : (rivK f day k).length ≤ k := by
  induction k with
  | zero => simp [rivK]
  | succ k ih => rw [rivK_succ, List.length_append]; split <;> simp <;> omega
theorem riv_eq (f : File) (day : Int) (a : Nat) (ha : a < parts f) : rivB f day a = (ne f day a && decide (1 < (endsM f day (parts f)).length)) := by
  unfold rivB
  cases hn : ne f day a with
  | false => rfl
  | true =>
    obtain ⟨h1, h2⟩ := endsM_keys f day (parts f)
    have h3 := nodup_two h1 ((h2 (hd f day a)).2 ⟨a, ha, hn, rfl⟩)
    rw [List.length_map] at h3
    rw [Bool.true_and, Bool.true_and, Bool.eq_iff_iff, decide_eq_true_eq, h3, List.any_eq_true]
    constructor
    · rintro ⟨b, hb, hc⟩
      simp at hc hb
      exact ⟨hd f day b, (h2 _).2 ⟨b, hb, hc.1, rfl⟩, hc.2⟩
    · rintro ⟨y, hy, hne⟩
      obtain ⟨b, hb, hc, rfl⟩ := (h2 y).1 hy
      exact ⟨b, List.mem_range.2 hb, by simp [hc, hne]⟩

set_option maxRecDepth 10000 in
theorem rivals17_runs (f : File) (day : Int) (h1 : f.acts.length ≤ 100) (h2 : f.signs.length ≤ 100) : Runs T 17 [encF f, .int day] (ints (rivals f day)) := by
  refine .of_tree rfl rfl tr17_eq ?_
  have hp := parts_le f
  have hn : (if 4 < f.parts then D.int 4 else D.int f.parts) = .int (if 4 < f.parts then 4 else f.parts) := by split <;> rfl
  simp [tr17, hn]
  refine EvP.forRounds (parts f) (fun k => [.int k]) (fun k => [.map (mI (holdM f day k)), .map (mI (endsM f day k))]) ?_ (fun k hk => ?_) ?_
  · simp [holdM, endsM, mI]
  · have hw1 : IntKind.i64.wrap ((k : Int) + 1) = (k : Int) + 1 := wrap64_id (by omega)
    have hlt := (lt_parts f k).1 hk
    have hc : (k : Int) < (if 4 < f.parts then 4 else f.parts) := by split <;> omega
    have l1 := holdM_len f day k
    have l2 := endsM_len f day k
    simp [rd17_0_eq, rd17_0, hw1, hn, hc]
    refine ⟨_, chain_runs f k day h1 h2, ?_⟩
    simp [splice]
    rw [holdM_succ, endsM_succ]
    by_cases hne : 0 < (chain f k day).signs.length
    · have hne' : ne f day k = true := by simp [ne, hne]
      rw [if_pos hne, if_pos hne', if_pos hne']
      exact ⟨by omega, by omega, putM_int _ _ _, putM_int _ _ _⟩
    · have hne' : ¬ ne f day k = true := by simp only [ne, decide_eq_true_eq]; exact hne
      rw [if_neg hne, if_neg hne', if_neg hne']
      exact ⟨rfl, rfl⟩
  · have hc : ¬ ((parts f : Int) < (if 4 < f.parts then 4 else f.parts)) := by unfold parts; split <;> omega
    simp [rd17_0_eq, rd17_0, hn, hc]
    refine EvP.forRounds (parts f) (fun k => [.none, .int k]) (fun k => [ints (rivK f day k)]) ?_ (fun k hk => ?_) ?_
    · simp [rivK, ints]
    · have hw1 : IntKind.i64.wrap ((k : Int) + 1) = (k : Int) + 1 := wrap64_id (by omega)
      have hlt := (lt_parts f k).1 hk
      have hc : (k : Int) < (if 4 < f.parts then 4 else f.parts) := by split <;> omega
      have l1 := rivK_len f day k
      simp [rd17_1_eq, rd17_1, hw1, hn, hc, lookM_int, holdM_look]
      rw [rivK_succ, riv_eq f day k hk]
      have hex : (∃ p, p < parts f ∧ (k : Int) = (p : Int) ∧ ne f day p = true) ↔ ne f day k = true := by
        constructor
        · rintro ⟨p, _, e, h⟩
          have : k = p := by omega
          rw [this]; exact h
        · intro h; exact ⟨k, hk, rfl, h⟩
      by_cases hb : ne f day k = true ∧ 1 < (endsM f day (parts f)).length
      · rw [if_pos ⟨hex.2 hb.1, by omega⟩]
        refine ⟨by omega, ?_⟩
        simp [hb.1, hb.2, ints]
      · rw [if_neg (fun h => hb ⟨hex.1 h.1, by omega⟩)]
        have : (ne f day k && decide (1 < (endsM f day (parts f)).length)) = false := by
          cases e : ne f day k with
          | false => rfl
          | true =>
            have : ¬ 1 < (endsM f day (parts f)).length := fun h => hb ⟨e, h⟩
            simp [this]
        rw [this]; simp
    · simp [rd17_1_eq, rd17_1, hn, hc, rivals]

set_option maxRecDepth 10000 in
theorem rivals18_runs (f : File) (day : Int) (h1 : f.acts.length ≤ 100) (h2 : f.signs.length ≤ 100) : Runs T 18 [encF f, .int day] (ints (rivals f day)) := by
  refine .of_tree rfl rfl tr18_eq ?_
  have hp := parts_le f
  simp [tr18]
  refine EvP.forRounds (parts f) (fun k => [.none, .int k]) (fun k => [ints (rivK f day k)]) ?_ (fun k hk => ?_) ?_
  · simp [rivK, ints]
  · have hw1 : IntKind.i64.wrap ((k : Int) + 1) = (k : Int) + 1 := wrap64_id (by omega)
    have hlt := (lt_parts f k).1 hk
    have l1 := rivK_len f day k
    simp [rd18_1_eq, rd18_1, hw1, hlt]
    refine ⟨_, chain15_runs f k day h1 h2, ?_⟩
    refine EvP.forRounds (parts f) (fun j => [.bool ((List.range j).any fun b => ne f day b && hd f day b != hd f day k), .int j]) (fun _ => []) ?_ (fun j hj => ?_) ?_
    · simp
    · have hw2 : IntKind.i64.wrap ((j : Int) + 1) = (j : Int) + 1 := wrap64_id (by omega)
      have hlt2 := (lt_parts f j).1 hj
      simp [rd18_0_eq, rd18_0, hw2, hlt2]
      refine ⟨_, chain15_runs f j day h1 h2, ?_⟩
      simp [splice]
      rw [List.range_succ, List.any_append]
      by_cases hex : ∃ x, x < j ∧ ne f day x = true ∧ ¬ hd f day x = hd f day k
      · rw [if_pos hex]
        have : ((List.range j).any fun b => ne f day b && hd f day b != hd f day k) = true := by
          obtain ⟨x, h1, h2, h3⟩ := hex
          exact List.any_eq_true.2 ⟨x, List.mem_range.2 h1, by simp [h2, h3]⟩
        rw [this]; rfl
      · rw [if_neg hex]
        have : ((List.range j).any fun b => ne f day b && hd f day b != hd f day k) = false := by
          rw [List.any_eq_false]
          intro x hx h
          simp at h
          exact hex ⟨x, List.mem_range.1 hx, h.1, h.2⟩
        rw [this]
        by_cases hne : 0 < (chain f j day).signs.length
        · simp [ne, hne, hd]
        · simp [ne, hne]
    · have hc : ¬ ((parts f : Int) < f.parts ∧ (parts f : Int) < 4) := fun h => by have := (lt_parts f (parts f)).2 h; omega
      simp [rd18_0_eq, rd18_0, hc, splice]
      rw [rivK_succ]
      by_cases hb : (∃ x, x < parts f ∧ ne f day x = true ∧ ¬ hd f day x = hd f day k) ∧ 0 < (chain f k day).signs.length
      · have : rivB f day k = true := by
          obtain ⟨⟨x, h1, h2, h3⟩, h4⟩ := hb
          simp only [rivB, Bool.and_eq_true, List.any_eq_true]
          exact ⟨by simp [ne, h4], x, List.mem_range.2 h1, by simp [h2, h3]⟩
        rw [if_pos hb, this]
        exact ⟨by omega, by simp [ints]⟩
      · have : rivB f day k = false := by
          cases e : rivB f day k with
          | false => rfl
          | true =>
            simp only [rivB, Bool.and_eq_true, List.any_eq_true] at e
            obtain ⟨e1, x, e2, e3⟩ := e
            simp at e3
            exact absurd ⟨⟨x, List.mem_range.1 e2, e3.1, e3.2⟩, by simpa [ne] using e1⟩ hb
        rw [if_neg hb, this]; simp
  · have hc : ¬ ((parts f : Int) < f.parts ∧ (parts f : Int) < 4) := fun h => by have := (lt_parts f (parts f)).2 h; omega
    simp [rd18_1_eq, rd18_1, hc, rivals]
end Title
