/-
  TitleStrikes.
-/
import Derived.Test.YtjjfmpdhjbojfaaTiV
set_option linter.unusedSimpArgs false
set_option linter.unusedVariables false
namespace Title
open Go Go.Proofs Cx

theorem struckP_later (f : File) (i d1 d2 : Int) (h : d1 ≤ d2) (hs : struckP f i d1 = true) : struckP f i d2 = true := by
  unfold struckP at hs ⊢
  rw [Bool.and_eq_true] at hs ⊢
  exact ⟨hs.1, struckB_later _ _ _ _ h hs.2⟩
theorem last_link (f : File) (part day : Int) (hb : (chain f part day).broken = -1) (hs : (chain f part day).signs ≠ []) : ∃ j : Nat, j < f.signs.length ∧ (chain f part day).signs.getLast? = some (j : Int) := by
  have h := chK_signs f part day f.signs.length hb
  rw [chK_all] at h
  have h2 := List.getLast?_eq_some_getLast hs
  have h3 : (chain f part day).signs.getLast hs ∈ (endsK f part day f.signs.length).map fun (i : Nat) => (i : Int) := by rw [← h]; exact List.getLast_mem hs
  obtain ⟨j, hj, e⟩ := List.mem_map.1 h3
  refine ⟨j, ((mem_endsK ..).1 hj).1, ?_⟩
  rw [h2, e]
set_option maxRecDepth 10000 in
set_option maxHeartbeats 4000000 in
theorem strikes_runs (f : File) (part day other later : Int) (hd : -9223372036854775808 ≤ day ∧ day < 9223372036854775808) (hl : 0 ≤ later ∧ later < 65536) : Runs T 7 [encF f, .int part, .int day, .int other, .v (.int .u16 later)] (.bool true) := by
  refine .of_tree rfl rfl tr7_eq ?_
  simp only [tr7, wp_call, holds_nil', if_true]
  refine ⟨_, small_runs, ?_⟩
  simp
  refine ⟨_, few_runs' f, ?_⟩
  cases hf : fewB f with
  | false => simp
  | true =>
    obtain ⟨h1, h2, _, _⟩ := fewB_true hf
    have hcl := chain_len f part day
    simp
    refine ⟨_, struck11_runs f other day (by omega), ?_⟩
    have hwl : IntKind.i64.wrap later = later := wrap64_id (by omega)
    have hfst : (struckP f other day = true → struckP f other (IntKind.i64.wrap (day + later)) = false → 100000 < day) := fun g1 g2 => by
      apply Classical.byContradiction
      intro g3
      rw [wrap64_id (by omega), struckP_later f other day (day + later) (by omega) g1] at g2
      cases g2
    generalize hsb : struckP f other day = sb
    have hq : ∃ j : Nat, (chain f part day).broken = -1 → (chain f part day).signs ≠ [] → (j < f.signs.length ∧ (chain f part day).signs.getLast? = some (j : Int)) := by
      by_cases hb : (chain f part day).broken = -1
      · by_cases hs : (chain f part day).signs = []
        · exact ⟨0, fun _ h => absurd hs h⟩
        · obtain ⟨j, h⟩ := last_link f part day hb hs
          exact ⟨j, fun _ _ => h⟩
      · exact ⟨0, fun h => absurd h hb⟩
    obtain ⟨j, hj⟩ := hq
    have hne := strike_eq f part day other
    have hle := less_eq f part day j
    have r1 := chain_runs f part day (by omega) (by omega)
    have r2 := chain_runs (strike f other day) part day (by simp [strike]; omega) (by simp [strike]; omega)
    have r3 := chain_runs (strike f j day) part day (by simp [strike]; omega) (by simp [strike]; omega)
    have r4 := chain_runs (less f j) part day (by simp [less]; omega) (by simp [less]; omega)
    have l2 := chain_len (strike f other day) part day
    have l3 := chain_len (strike f j day) part day
    have l5 : (strike f other day).signs.length = f.signs.length := rfl
    have l4 : (strike f j day).signs.length = f.signs.length := rfl
    generalize chain f part day = C at *
    generalize chain (strike f other day) part day = C2 at *
    generalize chain (strike f j day) part day = C3 at *
    generalize chain (less f j) part day = C4 at *
    have hr1 := sameCh_runs C C (by omega) (by omega)
    have hr2 := sameCh_runs C2 C (by omega) (by omega)
    have hr3 := sameCh_runs C3 C3 (by omega) (by omega)
    rw [sameCh_refl] at hr1 hr3
    simp only [encF, strike, stA, less, List.map_append, List.map_cons, List.map_nil, List.map_set] at r2 r3 r4
    cases sb
    all_goals
      simp
      first
        | refine ⟨_, r1, ?_⟩
        | (refine ⟨_, struck11_runs f other _ (by omega), ?_⟩
           rw [hwl]
           refine ⟨hfst hsb, ?_⟩
           refine ⟨_, r1, ?_⟩)
      refine EvP.forRounds C.signs.length (fun k => [.bool ((other == C.broken) || (C.signs.take k).any (· == other)), .int k]) (fun _ => []) ?_ (fun k hk => ?_) ?_
    case false.refine_1 => simp [splice]
    case true.refine_1 => simp [splice]
    case false.refine_2 =>
      have hw1 : IntKind.i64.wrap ((k : Int) + 1) = (k : Int) + 1 := wrap64_id (by omega)
      simp [rd7_0_eq, rd7_0, hk, hw1, splice]
      rw [List.take_succ_eq_append_getElem hk, List.any_append]
      by_cases h : other = C.broken ∨ other ∈ List.take k C.signs
      · rw [if_pos h]
        rcases h with h | h
        · simp [h]
        · have : ((C.signs.take k).any fun x => x == other) = true := List.any_eq_true.2 ⟨other, h, by simp⟩
          rw [this]; simp
      · rw [if_neg h]
        have h1 : (other == C.broken) = false := by simp; exact fun e => h (.inl e)
        have h2 : ((C.signs.take k).any fun x => x == other) = false := by
          rw [List.any_eq_false]; intro x hx e; simp at e; subst e; exact h (.inr hx)
        rw [h1, h2]; simp
    case true.refine_2 =>
      have hw1 : IntKind.i64.wrap ((k : Int) + 1) = (k : Int) + 1 := wrap64_id (by omega)
      simp [rd7_0_eq, rd7_0, hk, hw1, splice]
      rw [List.take_succ_eq_append_getElem hk, List.any_append]
      by_cases h : other = C.broken ∨ other ∈ List.take k C.signs
      · rw [if_pos h]
        rcases h with h | h
        · simp [h]
        · have : ((C.signs.take k).any fun x => x == other) = true := List.any_eq_true.2 ⟨other, h, by simp⟩
          rw [this]; simp
      · rw [if_neg h]
        have h1 : (other == C.broken) = false := by simp; exact fun e => h (.inl e)
        have h2 : ((C.signs.take k).any fun x => x == other) = false := by
          rw [List.any_eq_false]; intro x hx e; simp at e; subst e; exact h (.inr hx)
        rw [h1, h2]; simp
    case false.refine_3 =>
      simp [rd7_0_eq, rd7_0, splice, spliceD, D.cells_none]
      by_cases hlk : other = C.broken ∨ other ∈ C.signs
      · rw [if_pos hlk, if_pos hlk]
        refine ⟨by omega, by omega, fun a b => ?_, fun hb hs => ?_⟩
        · rcases hlk with h | h
          · exact absurd h a
          · exact absurd rfl (b other h)
        · exact (by
          obtain ⟨k1, k2⟩ := hj hb hs
          have k3 : 0 < C.signs.length := List.length_pos_iff.2 hs
          have k4 : IntKind.i64.wrap ((C.signs.length : Int) - 1) = (C.signs.length : Int) - 1 := wrap64_id (by omega)
          have k5 : ((C.signs.length : Int) - 1).toNat = C.signs.length - 1 := by omega
          have k6 : C.signs[C.signs.length - 1]? = some (j : Int) := by rw [← k2, List.getLast?_eq_getElem?]
          obtain rfl := hle k1
          have hg : f.signs.getD j default = f.signs[j] := by rw [List.getD_eq_getElem?_getD, List.getElem?_eq_getElem k1]; rfl
          simp only [hg] at r4
          simp only [k4, k5, k6]
          simp [k1]
          exact ⟨by omega, by omega, by omega, by omega, _, r3, _, r4, hr3⟩)
      · rw [if_neg hlk]
        rw [hne (fun h => hlk (.inr h)) (fun h => hlk (.inl h))] at r2
        refine ⟨by omega, by omega, _, r2, ?_⟩
        rw [if_neg hlk]
        refine ⟨_, hr1, fun _ _ => rfl, fun hb hs => ?_⟩
        exact (by
          obtain ⟨k1, k2⟩ := hj hb hs
          have k3 : 0 < C.signs.length := List.length_pos_iff.2 hs
          have k4 : IntKind.i64.wrap ((C.signs.length : Int) - 1) = (C.signs.length : Int) - 1 := wrap64_id (by omega)
          have k5 : ((C.signs.length : Int) - 1).toNat = C.signs.length - 1 := by omega
          have k6 : C.signs[C.signs.length - 1]? = some (j : Int) := by rw [← k2, List.getLast?_eq_getElem?]
          obtain rfl := hle k1
          have hg : f.signs.getD j default = f.signs[j] := by rw [List.getD_eq_getElem?_getD, List.getElem?_eq_getElem k1]; rfl
          simp only [hg] at r4
          simp only [k4, k5, k6]
          simp [k1]
          exact ⟨by omega, by omega, by omega, by omega, _, r3, _, r4, hr3⟩)
    case true.refine_3 =>
      simp [rd7_0_eq, rd7_0, splice, spliceD, D.cells_none]
      by_cases hlk : other = C.broken ∨ other ∈ C.signs
      · rw [if_pos hlk, if_pos hlk]
        refine ⟨by omega, by omega, fun a b => ?_, fun hb hs => ?_⟩
        · rcases hlk with h | h
          · exact absurd h a
          · exact absurd rfl (b other h)
        · exact (by
          obtain ⟨k1, k2⟩ := hj hb hs
          have k3 : 0 < C.signs.length := List.length_pos_iff.2 hs
          have k4 : IntKind.i64.wrap ((C.signs.length : Int) - 1) = (C.signs.length : Int) - 1 := wrap64_id (by omega)
          have k5 : ((C.signs.length : Int) - 1).toNat = C.signs.length - 1 := by omega
          have k6 : C.signs[C.signs.length - 1]? = some (j : Int) := by rw [← k2, List.getLast?_eq_getElem?]
          obtain rfl := hle k1
          have hg : f.signs.getD j default = f.signs[j] := by rw [List.getD_eq_getElem?_getD, List.getElem?_eq_getElem k1]; rfl
          simp only [hg] at r4
          simp only [k4, k5, k6]
          simp [k1]
          exact ⟨by omega, by omega, by omega, by omega, _, r3, _, r4, hr3⟩)
      · rw [if_neg hlk]
        rw [hne (fun h => hlk (.inr h)) (fun h => hlk (.inl h))] at r2
        refine ⟨by omega, by omega, _, r2, ?_⟩
        rw [if_neg hlk]
        refine ⟨_, hr1, fun _ _ => rfl, fun hb hs => ?_⟩
        exact (by
          obtain ⟨k1, k2⟩ := hj hb hs
          have k3 : 0 < C.signs.length := List.length_pos_iff.2 hs
          have k4 : IntKind.i64.wrap ((C.signs.length : Int) - 1) = (C.signs.length : Int) - 1 := wrap64_id (by omega)
          have k5 : ((C.signs.length : Int) - 1).toNat = C.signs.length - 1 := by omega
          have k6 : C.signs[C.signs.length - 1]? = some (j : Int) := by rw [← k2, List.getLast?_eq_getElem?]
          obtain rfl := hle k1
          have hg : f.signs.getD j default = f.signs[j] := by rw [List.getD_eq_getElem?_getD, List.getElem?_eq_getElem k1]; rfl
          simp only [hg] at r4
          simp only [k4, k5, k6]
          simp [k1]
          exact ⟨by omega, by omega, by omega, by omega, _, r3, _, r4, hr3⟩)
end Title
