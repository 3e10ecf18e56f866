/-
  TitleRivals.
-/
import Derived.Test.YtjjfmpdhjbojfaaTiI
set_option linter.unusedSimpArgs false
set_option linter.unusedVariables false
namespace Title
open Go Go.Proofs Cx

theorem rivK_split (f : File) (day : Int) {k n : Nat} (h : k ≤ n) : ∃ r : List Nat, rivK f day n = rivK f day k ++ r.map (fun (a : Nat) => (a : Int)) ∧ ∀ j, j ∈ r → k ≤ j := by
  induction n with
  | zero => obtain rfl : k = 0 := by omega
            exact ⟨[], by simp, by simp⟩
  | succ n ih =>
    by_cases e : k = n + 1
    · exact ⟨[], by rw [e]; simp, by simp⟩
    · obtain ⟨r, h1, h2⟩ := ih (by omega)
      refine ⟨r ++ if rivB f day n then [n] else [], ?_, fun j hj => ?_⟩
      · rw [rivK_succ, h1, List.map_append, List.append_assoc]
        split <;> rfl
      · rcases List.mem_append.1 hj with hj | hj
        · exact h2 j hj
        · split at hj
          · obtain rfl := List.mem_singleton.1 hj; omega
          · cases hj
/-- a part is the next of the rivals -/
theorem next_riv (f : File) (day : Int) (k : Nat) (hk : k < parts f) : ((rivK f day k).length < (rivals f day).length ∧ ((Option.map D.int (rivals f day)[(rivK f day k).length]?).getD D.none).i = (k : Int)) ↔ rivB f day k = true := by
  obtain ⟨r, h1, h2⟩ := rivK_split f day (show k + 1 ≤ parts f by omega)
  have e : rivals f day = rivK f day k ++ ((if rivB f day k then [(k : Int)] else []) ++ r.map (fun (a : Nat) => (a : Int))) := by
    show rivK f day (parts f) = _
    rw [h1, rivK_succ, List.append_assoc]
  rw [e]
  cases hb : rivB f day k with
  | true => simp
  | false =>
    simp
    intro h
    cases r with
    | nil => simp at h
    | cons a r =>
      have := h2 a (by simp)
      simp; omega
def twoB (f : File) (day : Int) (k o : Nat) : Bool := (List.range o).any fun b => ne f day k && ne f day b && hd f day k != hd f day b
def diffB (f : File) (day : Int) (k : Nat) : Bool := (List.range k).any fun p => twoB f day p p
theorem diffB_succ (f : File) (day : Int) (k : Nat) : diffB f day (k + 1) = (diffB f day k || twoB f day k k) := by
  unfold diffB; rw [List.range_succ, List.any_append]; simp
theorem twoB_succ (f : File) (day : Int) (k o : Nat) : twoB f day k (o + 1) = (twoB f day k o || (ne f day k && ne f day o && hd f day k != hd f day o)) := by
  unfold twoB; rw [List.range_succ, List.any_append]; simp
theorem mem_rivals (f : File) (day : Int) (a : Nat) : (a : Int) ∈ rivals f day ↔ a < parts f ∧ rivB f day a = true := by
  unfold rivals rivK
  rw [List.mem_map]
  constructor
  · rintro ⟨b, hb, e⟩
    obtain rfl : b = a := by omega
    rw [List.mem_filter, List.mem_range] at hb; exact hb
  · intro h; exact ⟨a, by rw [List.mem_filter, List.mem_range]; exact h, rfl⟩
theorem rivB_of (f : File) (day : Int) (a b : Nat) (hb : b < parts f) (h1 : ne f day a = true) (h2 : ne f day b = true) (h3 : hd f day a ≠ hd f day b) : rivB f day a = true := by
  unfold rivB
  rw [h1, Bool.true_and, List.any_eq_true]
  exact ⟨b, List.mem_range.2 hb, by simp [h2]; exact fun e => h3 e.symm⟩
theorem rivals_two (f : File) (day : Int) : (1 < (rivals f day).length ↔ diffB f day (parts f) = true) ∧ (rivals f day).length ≠ 1 := by
  have key : 0 < (rivals f day).length → diffB f day (parts f) = true := fun h => by
    obtain ⟨x, hx⟩ := List.exists_mem_of_length_pos h
    have hx' := hx
    unfold rivals rivK at hx'
    obtain ⟨a, ha, rfl⟩ := List.mem_map.1 hx'
    obtain ⟨ha1, ha2⟩ := (mem_rivals f day a).1 hx
    unfold rivB at ha2
    rw [Bool.and_eq_true, List.any_eq_true] at ha2
    obtain ⟨h1, b, hb, h2⟩ := ha2
    have hb' := List.mem_range.1 hb
    simp at h2
    have hab : a ≠ b := fun e => h2.2 (by rw [e])
    unfold diffB
    rw [List.any_eq_true]
    by_cases hlt : b < a
    · refine ⟨a, List.mem_range.2 ha1, ?_⟩
      unfold twoB; rw [List.any_eq_true]
      exact ⟨b, List.mem_range.2 hlt, by simp [h1, h2.1]; exact fun e => h2.2 e.symm⟩
    · refine ⟨b, List.mem_range.2 hb', ?_⟩
      unfold twoB; rw [List.any_eq_true]
      exact ⟨a, List.mem_range.2 (by omega), by simp [h1, h2]⟩
  have back : diffB f day (parts f) = true → 1 < (rivals f day).length := fun h => by
    unfold diffB at h
    rw [List.any_eq_true] at h
    obtain ⟨p, hp, h⟩ := h
    unfold twoB at h
    rw [List.any_eq_true] at h
    obtain ⟨q, hq, h⟩ := h
    have hp := List.mem_range.1 hp
    have hq := List.mem_range.1 hq
    simp at h
    have m1 := (mem_rivals f day p).2 ⟨hp, rivB_of f day p q (by omega) h.1.1 h.1.2 h.2⟩
    have m2 := (mem_rivals f day q).2 ⟨by omega, rivB_of f day q p (by omega) h.1.2 h.1.1 fun e => h.2 e.symm⟩
    match hr : rivals f day with
    | [] => rw [hr] at m1; cases m1
    | [x] => rw [hr] at m1 m2; simp at m1 m2; omega
    | x :: y :: l => simp
  refine ⟨⟨fun h => key (by omega), back⟩, fun h => ?_⟩
  have := back (key (by omega)); omega

set_option maxRecDepth 10000 in
theorem rivals_tell (f : File) (day : Int) : Runs T 8 [encF f, .int day] (.bool true) := by
  refine .of_tree rfl rfl tr8_eq ?_
  simp only [tr8, wp_call, holds_nil', if_true]
  refine ⟨_, small_runs, ?_⟩
  simp
  refine ⟨_, few_runs' f, ?_⟩
  cases hf : fewB f with
  | false => simp
  | true =>
    obtain ⟨h1, h2, _, _⟩ := fewB_true hf
    have hp := parts_le f
    have hn : (if 4 < f.parts then D.int 4 else D.int f.parts) = .int (if 4 < f.parts then 4 else f.parts) := by split <;> rfl
    obtain ⟨t1, t2⟩ := rivals_two f day
    simp
    refine ⟨_, rivals17_runs f day (by omega) (by omega), ?_⟩
    refine EvP.forRounds (parts f) (fun k => [.bool false, .bool (diffB f day k), .int (rivK f day k).length, .int k]) (fun _ => []) ?_ (fun k hk => ?_) ?_
    · simp [diffB, rivK]
    · have hw1 : IntKind.i64.wrap ((k : Int) + 1) = (k : Int) + 1 := wrap64_id (by omega)
      have hlt := (lt_parts f k).1 hk
      have hc : (k : Int) < (if 4 < f.parts then 4 else f.parts) := by split <;> omega
      have l1 := rivK_len f day k
      have hw2 : IntKind.i64.wrap (((rivK f day k).length : Int) + 1) = ((rivK f day k).length : Int) + 1 := wrap64_id (by omega)
      have hnx := next_riv f day k hk
      simp [rd8_1_eq, rd8_1, hw1, hw2, hc, hn]
      refine ⟨_, chain_runs f k day (by omega) (by omega), ?_⟩
      simp [splice]
      refine ⟨fun a b => ?_, ?_⟩
      · have := hnx.1 ⟨a, b⟩
        simp [rivB, ne] at this
        intro h; rw [h] at this; simp at this
      refine EvP.forRounds k (fun o => [.bool false, .bool (diffB f day k || twoB f day k o), .int o]) (fun _ => []) ?_ (fun o ho => ?_) ?_
      · simp [twoB]
      · have hw3 : IntKind.i64.wrap ((o : Int) + 1) = (o : Int) + 1 := wrap64_id (by omega)
        simp [rd8_0_eq, rd8_0, ho, hw3]
        refine ⟨_, chain_runs f o day (by omega) (by omega), ?_⟩
        simp [splice]
        rw [twoB_succ]
        by_cases hh : (0 < (chain f k day).signs.length ∧ 0 < (chain f o day).signs.length) ∧ ¬ (chain f k day).holder = (chain f o day).holder
        · rw [if_pos hh]
          have n1 : ne f day k = true := by simp [ne, hh.1.1]
          have n2 : ne f day o = true := by simp [ne, hh.1.2]
          have n3 : ¬ hd f day k = hd f day o := hh.2
          refine ⟨hnx.2 (rivB_of f day k o (by omega) n1 n2 n3), .inr ?_⟩
          simp [n1, n2, n3]
        · rw [if_neg hh]
          have : (ne f day k && ne f day o && hd f day k != hd f day o) = false := by
            cases e : (ne f day k && ne f day o && hd f day k != hd f day o) with
            | false => rfl
            | true =>
              simp [ne, hd] at e
              exact absurd ⟨⟨e.1.1, e.1.2⟩, e.2⟩ hh
          rw [this, Bool.or_false]
      · simp [rd8_0_eq, rd8_0]
        rw [diffB_succ, rivK_succ]
        by_cases hb : rivB f day k = true
        · rw [if_pos (hnx.2 hb), if_pos hb]; simp [hw2]
        · rw [if_neg fun h => hb (hnx.1 h), if_neg hb]; simp
    · have hc : ¬ ((parts f : Int) < (if 4 < f.parts then 4 else f.parts)) := by unfold parts; split <;> omega
      simp [rd8_1_eq, rd8_1, hc, hn]
      simp only [rivals] at t1 t2 ⊢
      have e1 : decide ((1 : Int) < ((rivK f day (parts f)).length : Int)) = diffB f day (parts f) := by
        rw [Bool.eq_iff_iff, decide_eq_true_eq, ← t1]; omega
      have e2 : ¬ ((rivK f day (parts f)).length : Int) = 1 := by omega
      rw [if_pos ⟨trivial, e1⟩]
      simp [e2]
end Title
