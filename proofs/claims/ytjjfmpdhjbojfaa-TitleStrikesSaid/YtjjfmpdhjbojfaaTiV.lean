/-
  A signature struck out: TitleStrikes.
-/
import Derived.Test.YtjjfmpdhjbojfaaTiO
set_option linter.unusedSimpArgs false
set_option linter.unusedVariables false
namespace Title
open Go Go.Proofs Cx

def stA (at_ day : Int) : A := ⟨7, 0, 0, 0, at_, 0, day, 0, 0⟩
def strike (f : File) (at_ day : Int) : File := { f with acts := f.acts ++ [stA at_ day] }
theorem struckB_stA (l : List A) (at_ i day : Int) : struckB (l ++ [stA at_ day]) i day = (struckB l i day || at_ == i) := by
  unfold struckB; rw [List.any_append]; simp [strikes, stA]
theorem dishF_stA (l : List A) (at_ day : Int) : dishF day (l ++ [stA at_ day]) = dishF day l := dishF_snoc _ _ _ (by simp [dishA, stA])
theorem endsL_filter (f x : File) (part day : Int) (q : Nat → Bool) (hn : x.signs.length = f.signs.length)
    (h1 : ∀ i, i < f.signs.length → isEnd x part day i (x.signs.getD i default) = (isEnd f part day i (f.signs.getD i default) && q i)) : endsL x part day = (endsL f part day).filter q := by
  unfold endsL
  rw [hn, List.filter_filter]
  exact List.filter_congr fun i hi => by rw [h1 i (List.mem_range.1 hi), Bool.and_comm]
theorem endsE_filter (f x : File) (part day : Int) (q : Nat → Bool) (hn : x.signs.length = f.signs.length)
    (h1 : ∀ i, i < f.signs.length → isEnd x part day i (x.signs.getD i default) = (isEnd f part day i (f.signs.getD i default) && q i))
    (h2 : ∀ i, i < f.signs.length → q i = true → x.signs.getD i default = f.signs.getD i default) : endsE x part day = ((endsL f part day).filter q).map (pairE f) := by
  unfold endsE
  rw [endsL_filter f x part day q hn h1]
  refine List.map_congr_left fun i hi => ?_
  obtain ⟨m1, m2⟩ := List.mem_filter.1 hi
  have m3 := List.mem_range.1 (List.mem_filter.1 m1).1
  rw [h2 i m3 m2]; rfl
theorem chRun_mono (p : Int × Bool) : ∀ (l : List (Int × S)) (c : Ch), ∃ r, (chRun p c l).signs = c.signs ++ r
  | [], c => ⟨[], by simp [chRun]⟩
  | x :: l, c => by
    rw [chRun_cons]
    split
    · exact ⟨[], by simp⟩
    · obtain ⟨r, h⟩ := chRun_mono p l (chStep p c x.1 x.2)
      exact ⟨x.1 :: r, by rw [h]; simp [chStep]⟩
theorem chRun_drop (p : Int × Bool) (o : Int) : ∀ (l : List (Int × S)) (c : Ch), o ∉ (chRun p c l).signs → o ≠ (chRun p c l).broken → chRun p c (l.filter fun x => x.1 != o) = chRun p c l
  | [], c, _, _ => rfl
  | x :: l, c, h1, h2 => by
    rw [chRun_cons] at h1 h2 ⊢
    by_cases hb : brk c x.2 = true
    · rw [if_pos hb] at h1 h2 ⊢
      have hx : (x.1 != o) = true := by simp; exact fun e => h2 e.symm
      rw [List.filter_cons, if_pos hx, chRun_cons, if_pos hb]
    · rw [if_neg hb] at h1 h2 ⊢
      obtain ⟨r, hr⟩ := chRun_mono p l (chStep p c x.1 x.2)
      have hx : (x.1 != o) = true := by
        simp; intro e; apply h1; rw [hr]; simp [chStep, e]
      rw [List.filter_cons, if_pos hx, chRun_cons, if_neg hb]
      exact chRun_drop p o l _ h1 h2
theorem strike_ends (f : File) (part day o : Int) : endsE (strike f o day) part day = ((endsL f part day).filter fun (i : Nat) => (i : Int) != o).map (pairE f) := by
  refine endsE_filter f (strike f o day) part day _ rfl (fun i _ => ?_) (fun i _ _ => rfl)
  have e : (strike f o day).acts = f.acts ++ [stA o day] := rfl
  have e2 : (strike f o day).signs = f.signs := rfl
  unfold isEnd
  rw [e, e2, struckB_stA]
  cases (f.signs.getD i default).kind == 2 <;> cases (f.signs.getD i default).part == part <;> cases decide ((f.signs.getD i default).day ≤ day) <;> cases struckB f.acts i day <;> simp [bne, Bool.beq_comm]
  all_goals (rw [Bool.eq_iff_iff]; simp; exact ⟨fun h e => h e.symm, fun h e => h e.symm⟩)
theorem strike_eq (f : File) (part day o : Int) (h1 : o ∉ (chain f part day).signs) (h2 : o ≠ (chain f part day).broken) : chain (strike f o day) part day = chain f part day := by
  have h0 : ch0 (strike f o day) = ch0 f := rfl
  have e : (strike f o day).acts = f.acts ++ [stA o day] := rfl
  have hm : ((endsL f part day).filter fun (i : Nat) => (i : Int) != o).map (pairE f) = (endsE f part day).filter fun x => x.1 != o := by
    show _ = ((endsL f part day).map (pairE f)).filter _
    rw [List.filter_map]; rfl
  unfold chain at h1 h2 ⊢
  rw [h0, e, dishF_stA, strike_ends, hm]
  exact chRun_drop _ _ _ _ h1 h2
def less (f : File) (j : Nat) : File := { f with signs := f.signs.set j { f.signs.getD j default with kind := 1 } }
theorem less_eq (f : File) (part day : Int) (j : Nat) (hj : j < f.signs.length) : chain (strike f j day) part day = chain (less f j) part day := by
  have h0 : ch0 (strike f j day) = ch0 (less f j) := rfl
  have e : (strike f j day).acts = f.acts ++ [stA j day] := rfl
  have e2 : (less f j).acts = f.acts := rfl
  have hg : ∀ i, i ≠ j → (less f j).signs.getD i default = f.signs.getD i default := fun i hi => by
    rw [List.getD_eq_getElem?_getD, List.getD_eq_getElem?_getD]
    show ((f.signs.set j _)[i]?).getD default = _
    rw [List.getElem?_set_ne (fun h => hi h.symm)]
  have hgj : (less f j).signs.getD j default = { f.signs.getD j default with kind := 1 } := by
    rw [List.getD_eq_getElem?_getD]
    show ((f.signs.set j _)[j]?).getD default = _
    rw [List.getElem?_set_self hj]; rfl
  have hl : endsE (less f j) part day = ((endsL f part day).filter fun (i : Nat) => (i : Int) != j).map (pairE f) := by
    refine endsE_filter f (less f j) part day _ (by simp [less]) (fun i _ => ?_) (fun i _ hi => hg i (by simp at hi; omega))
    unfold isEnd
    rw [e2]
    by_cases hi : i = j
    · subst hi; rw [hgj]; simp
    · rw [hg i hi]
      have : ((i : Int) != (j : Int)) = true := by simp; omega
      rw [this, Bool.and_true]
  unfold chain
  rw [h0, e, e2, dishF_stA, strike_ends, hl]
theorem struckB_later (l : List A) (i d1 d2 : Int) (h : d1 ≤ d2) (hs : struckB l i d1 = true) : struckB l i d2 = true := by
  unfold struckB at hs ⊢
  obtain ⟨a, ha, h2⟩ := List.any_eq_true.1 hs
  refine List.any_eq_true.2 ⟨a, ha, ?_⟩
  simp [strikes] at h2 ⊢
  exact ⟨h2.1, by omega⟩
end Title
