/-
  One endorsement more: TitleGrows.
-/
import Derived.Test.YtjjfmpdhjbojfaaTiO
set_option linter.unusedSimpArgs false
set_option linter.unusedVariables false
namespace Title
open Go Go.Proofs Cx

def endorse (part : Int) (s : S) : S := { s with kind := 2, part := part }
def grown (f : File) (part : Int) (s : S) : File := { f with signs := f.signs ++ [endorse part s] }
theorem grown_eq (f : File) (part day : Int) (s : S) (h1 : s.day ≤ day) (h2 : ∀ a, a ∈ f.acts → ¬ (a.kind = 7 ∧ a.at_ = f.signs.length)) :
    chain (grown f part s) part day = if (chain f part day).broken = -1 then (if brk (chain f part day) (endorse part s) then { chain f part day with broken := f.signs.length } else chStep (dishF day f.acts) (chain f part day) f.signs.length (endorse part s)) else chain f part day := by
  have hs : struckB f.acts f.signs.length day = false := by
    cases e : struckB f.acts f.signs.length day with
    | false => rfl
    | true =>
      obtain ⟨a, ha, h⟩ := List.any_eq_true.1 e
      simp [strikes] at h
      exact absurd h.1 (h2 a ha)
  rw [chain_snoc f (grown f part s) part day (endorse part s) rfl rfl (fun i _ => rfl) rfl, if_pos]
  · by_cases hb : (chain f part day).broken = -1
    · rw [if_pos hb, if_pos hb, chRun_cons]; rfl
    · rw [if_neg hb, if_neg hb]
  · have : (grown f part s).acts = f.acts := rfl
    simp [isEnd, endorse, h1, this, hs]

set_option maxRecDepth 10000 in
theorem grows_runs (f : File) (part day : Int) (s : S) : Runs T 6 [encF f, .int part, .int day, encS s] (.bool true) := by
  refine .of_tree rfl rfl tr6_eq ?_
  simp only [tr6, wp_call, holds_nil', if_true]
  refine ⟨_, small_runs, ?_⟩
  simp
  refine ⟨_, few_runs' f, ?_⟩
  cases hf : fewB f with
  | false => simp
  | true =>
    obtain ⟨h1, h2, _, _⟩ := fewB_true hf
    have hl := chain_len f part day
    simp
    intro c1
    refine EvP.scan f.acts.length (fun k => ¬ ((f.acts.getD k ⟨0, 0, 0, 0, 0, 0, 0, 0, 0⟩).kind = 7 ∧ (f.acts.getD k ⟨0, 0, 0, 0, 0, 0, 0, 0, 0⟩).at_ = f.signs.length)) (fun k => [.bool false, .int k]) (fun _ => []) ?_ (fun k hk hj ho => ?_) (fun k hk hj ho => ?_) (fun hj => ?_)
    · simp
    · have hw1 : IntKind.i64.wrap ((k : Int) + 1) = (k : Int) + 1 := wrap64_id (by omega)
      have hg : f.acts.getD k ⟨0, 0, 0, 0, 0, 0, 0, 0, 0⟩ = f.acts[k] := by rw [List.getD_eq_getElem?_getD, List.getElem?_eq_getElem hk]; rfl
      rw [hg] at ho
      simp [rd6_0_eq, rd6_0, hk, hw1]
      try omega
    · have hg : f.acts.getD k ⟨0, 0, 0, 0, 0, 0, 0, 0, 0⟩ = f.acts[k] := by rw [List.getD_eq_getElem?_getD, List.getElem?_eq_getElem hk]; rfl
      rw [hg] at ho
      have ho' := Classical.not_not.1 ho
      simp [rd6_0_eq, rd6_0, hk, ho']
    · have hq := grown_eq f part day s c1 fun a ha => by
        obtain ⟨k, hk, rfl⟩ := List.getElem_of_mem ha
        have := hj k hk
        rw [List.getD_eq_getElem?_getD, List.getElem?_eq_getElem hk] at this
        exact this
      have hr := chain_runs (grown f part s) part day (by simp [grown]; omega) (by simp [grown]; omega)
      have hlen := chain_len (grown f part s) part day
      have hgl : (grown f part s).signs.length = f.signs.length + 1 := by simp [grown]
      generalize hX : chain (grown f part s) part day = X at hr hlen hq
      simp only [encF, grown, endorse, List.map_append, List.map_cons, List.map_nil] at hr
      rw [hgl] at hlen
      simp [rd6_0_eq, rd6_0, splice, D.cells_none]
      refine ⟨by omega, by omega, _, chain_runs f part day (by omega) (by omega), _, hr, ?_⟩
      have hsm := sameCh_runs (chain f part day) (chain f part day) (by omega) (by omega)
      rw [sameCh_refl] at hsm
      have hsame := same_runs (chain f part day).signs (chain f part day).signs (by omega)
      simp only [decide_true] at hsame
      generalize chain f part day = C at *
      clear hX hj hf hr hgl
      have hw : IntKind.i64.wrap ((C.signs.length : Int) + 1) = (C.signs.length : Int) + 1 := wrap64_id (by omega)
      have hw2 : IntKind.i64.wrap ((C.late.length : Int) + 1) = (C.late.length : Int) + 1 := wrap64_id (by omega)
      simp [splice]
      by_cases hb : C.broken = -1
      · rw [if_pos hb] at hq ⊢
        by_cases hk : C.bearer = false ∧ ¬ C.holder = s.who
        · rw [if_pos hk]
          rw [if_pos (by simp [brk, endorse, hk.1]; exact fun h => hk.2 h.symm)] at hq
          subst hq
          have hs2 := sameCh_runs { C with broken := f.signs.length } { C with broken := f.signs.length } (by show C.signs.length ≤ 1000; omega) (by show C.late.length ≤ 1000; omega)
          rw [sameCh_refl] at hs2
          exact hs2
        · rw [if_neg hk]
          rw [if_neg (by simp [brk, endorse]; intro h; apply Classical.byContradiction; intro h2; exact hk ⟨h, fun h3 => h2 h3.symm⟩)] at hq
          have q1 : X.signs = C.signs ++ [(f.signs.length : Int)] := by rw [hq]; rfl
          have q2 : X.holder = s.to := by rw [hq]; rfl
          have q3 : X.bearer = (s.to == -1) := by rw [hq]; rfl
          have q4 : X.broken = -1 := by rw [hq]; exact hb
          have q5 : X.agent = rightF C.agent s.flags := by rw [hq]; rfl
          have q6 : C.late.length ≤ X.late.length ∧ X.late.length ≤ C.late.length + 1 := by rw [hq]; simp only [chStep]; split <;> simp
          have q7 : X.signs.length = C.signs.length + 1 := by rw [q1]; simp
          have q8 : X.signs[C.signs.length]? = some (f.signs.length : Int) := by rw [q1]; simp
          have q9 : D.list (List.take C.signs.length (List.map D.int X.signs)) = ints C.signs := by rw [q1, List.map_append, List.take_append_of_le_length (by simp), List.take_of_length_le (by simp)]; rfl
          simp only [hw, hw2, q7, q8, q9]
          simp
          refine ⟨_, hsame, ?_⟩
          simp [q2, q3, q4, q5, q6, rightF, flagB]
          omega
      · rw [if_neg hb] at hq ⊢
        subst hq
        exact hsm
end Title
