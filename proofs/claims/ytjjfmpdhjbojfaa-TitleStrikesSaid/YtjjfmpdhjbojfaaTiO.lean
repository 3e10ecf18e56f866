/-
  Further signatures and acts: TitleOthers.
-/
import Derived.Test.YtjjfmpdhjbojfaaTiM
set_option linter.unusedSimpArgs false
set_option linter.unusedVariables false
namespace Title
open Go Go.Proofs Cx

theorem dishF_snoc (day : Int) (l : List A) (a : A) (h : dishA day a = false) : dishF day (l ++ [a]) = dishF day l := by
  unfold dishF; rw [List.foldl_append]; simp [dishStep, h]
theorem struckB_snoc (l : List A) (a : A) (i day : Int) (h : strikes i day a = false) : struckB (l ++ [a]) i day = struckB l i day := by
  unfold struckB; rw [List.any_append]; simp [h]
theorem getD_snoc (l : List S) (s : S) (i : Nat) (h : i < l.length) : (l ++ [s]).getD i default = l.getD i default := by
  rw [List.getD_eq_getElem?_getD, List.getD_eq_getElem?_getD, List.getElem?_append_left h]
theorem getD_last (l : List S) (s : S) : (l ++ [s]).getD l.length default = s := by
  rw [List.getD_eq_getElem?_getD, List.getElem?_append_right (Nat.le_refl _)]; simp
/-- one signature more -/
theorem ends_snoc (f x : File) (part day : Int) (s : S) (hs : x.signs = f.signs ++ [s]) (ha : ∀ i : Nat, i < f.signs.length → struckB x.acts i day = struckB f.acts i day) :
    endsE x part day = endsE f part day ++ if isEnd x part day f.signs.length s then [((f.signs.length : Int), s)] else [] := by
  have h1 : x.signs.length = f.signs.length + 1 := by rw [hs]; simp
  have hg : ∀ i : Nat, i < f.signs.length → x.signs.getD i default = f.signs.getD i default := fun i hi => by rw [hs]; exact getD_snoc _ _ _ hi
  have hl : x.signs.getD f.signs.length default = s := by rw [hs]; exact getD_last _ _
  unfold endsE endsL
  rw [h1, List.range_succ, List.filter_append, List.map_append]
  have e1 : (List.range f.signs.length).filter (fun i => isEnd x part day i (x.signs.getD i default)) = (List.range f.signs.length).filter (fun i => isEnd f part day i (f.signs.getD i default)) :=
    List.filter_congr fun i hi => by
      have := List.mem_range.1 hi
      rw [hg i this]; unfold isEnd; rw [ha i this]
  rw [e1]
  congr 1
  · exact List.map_congr_left fun i hi => by rw [hg i (List.mem_range.1 (List.mem_filter.1 hi).1)]
  · simp only [List.filter_cons, List.filter_nil, hl]
    rw [List.getD_eq_getElem?_getD] at hl
    split <;> simp [hl]
theorem chain_nonneg (f : File) (part day : Int) : ∀ x, x ∈ endsE f part day → 0 ≤ x.1 := pairs_nonneg f _
theorem chain_snoc (f x : File) (part day : Int) (s : S) (hs : x.signs = f.signs ++ [s]) (hp : x.payee = f.payee) (ha : ∀ i : Nat, i < f.signs.length → struckB x.acts i day = struckB f.acts i day) (hd : dishF day x.acts = dishF day f.acts) :
    chain x part day = if isEnd x part day f.signs.length s then (if (chain f part day).broken = -1 then chRun (dishF day f.acts) (chain f part day) [((f.signs.length : Int), s)] else chain f part day) else chain f part day := by
  have h0 : ch0 x = ch0 f := by unfold ch0; rw [hp]
  unfold chain
  rw [ends_snoc f x part day s hs ha, h0, hd]
  by_cases h : isEnd x part day f.signs.length s = true
  · rw [if_pos h, if_pos h, chRun_append _ _ _ _ rfl (chain_nonneg f part day)]
  · rw [if_neg h, if_neg h, List.append_nil]

def others (f : File) (s : S) (a : A) : File := { f with signs := f.signs ++ [s], acts := f.acts ++ [a], facts := [], alters := [] }
theorem others_eq (f : File) (part day : Int) (s : S) (a : A) (h1 : ¬ ((s.kind = 2 ∧ s.part = part) ∧ s.day ≤ day)) (h2 : ¬ (((( a.kind = 7) ∨ a.kind = 1) ∨ a.kind = 3) ∨ a.kind = 4) ∨ day < a.day) : chain (others f s a) part day = chain f part day := by
  have g1 : strikes = strikes := rfl
  rw [chain_snoc f (others f s a) part day s rfl rfl (fun i _ => struckB_snoc _ _ _ _ (by simp [strikes]; omega)) (dishF_snoc _ _ _ (by simp [dishA]; omega)), if_neg]
  intro h
  simp [isEnd] at h
  exact h1 ⟨h.1.1, h.1.2⟩

set_option maxRecDepth 10000 in
theorem others_runs (f : File) (part day : Int) (s : S) (a : A) : Runs T 5 [encF f, .int part, .int day, encS s, encA a] (.bool true) := by
  refine .of_tree rfl rfl tr5_eq ?_
  simp only [tr5, wp_call, holds_nil', if_true]
  refine ⟨_, small_runs, ?_⟩
  simp
  refine ⟨_, few_runs' f, ?_⟩
  cases hf : fewB f with
  | false => simp
  | true =>
    obtain ⟨h1, h2, _, _⟩ := fewB_true hf
    have hl := chain_len f part day
    simp
    intro c1 c2
    have hq := others_eq f part day s a (by omega) (by omega)
    refine EvP.scan f.acts.length (fun k => ¬ ((f.acts.getD k ⟨0, 0, 0, 0, 0, 0, 0, 0, 0⟩).kind = 7 ∧ (f.acts.getD k ⟨0, 0, 0, 0, 0, 0, 0, 0, 0⟩).at_ = f.signs.length)) (fun k => [.bool false, .int k]) (fun _ => []) ?_ (fun k hk hj ho => ?_) (fun k hk hj ho => ?_) (fun hj => ?_)
    · simp
    · have hw1 : IntKind.i64.wrap ((k : Int) + 1) = (k : Int) + 1 := wrap64_id (by omega)
      have hg : f.acts.getD k ⟨0, 0, 0, 0, 0, 0, 0, 0, 0⟩ = f.acts[k] := by rw [List.getD_eq_getElem?_getD, List.getElem?_eq_getElem hk]; rfl
      rw [hg] at ho
      simp [rd5_0_eq, rd5_0, hk, hw1]
      try omega
    · have hg : f.acts.getD k ⟨0, 0, 0, 0, 0, 0, 0, 0, 0⟩ = f.acts[k] := by rw [List.getD_eq_getElem?_getD, List.getElem?_eq_getElem hk]; rfl
      rw [hg] at ho
      have ho' := Classical.not_not.1 ho
      simp [rd5_0_eq, rd5_0, hk, ho']
    · simp [rd5_0_eq, rd5_0, splice, D.cells_none]
      have hr := chain_runs (others f s a) part day (by simp [others]; omega) (by simp [others]; omega)
      rw [hq] at hr
      simp only [encF, others, List.map_append, List.map_cons, List.map_nil] at hr
      have hsm := sameCh_runs (chain f part day) (chain f part day) (by omega) (by omega)
      rw [sameCh_refl] at hsm
      exact ⟨by omega, by omega, by omega, by omega, _, chain_runs f part day (by omega) (by omega), _, hr, hsm⟩
end Title
