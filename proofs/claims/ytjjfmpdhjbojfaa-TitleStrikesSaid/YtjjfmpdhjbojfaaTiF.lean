/-
  Struck, the reference's functions, lists held against lists.
-/
import Derived.Test.YtjjfmpdhjbojfaaTiE
set_option linter.unusedSimpArgs false
set_option linter.unusedVariables false
namespace Title
open Go Go.Proofs Cx

def struckP (f : File) (i day : Int) : Bool := decide (0 ≤ i ∧ i < f.signs.length) && struckB f.acts i day
theorem struck11_runs (f : File) (i day : Int) (h1 : f.acts.length ≤ 100) : Runs T 11 [encF f, .int i, .int day] (.bool (struckP f i day)) := by
  refine .of_tree rfl rfl tr11_eq ?_
  have hlook : (lookM (.int i) (mI (mapOf day f.acts))).getD (.bool false) = .bool (struckB f.acts i day) := by rw [lookM_int]; exact mapOf_look _ _ _
  simp [tr11]
  by_cases h : 0 ≤ i ∧ i < f.signs.length
  · rw [if_pos h]
    refine ⟨_, struck_runs f day h1, ?_⟩
    simp [h, hlook, struckP]
  · rw [if_neg h]
    simp [h, struckP]

set_option maxRecDepth 10000 in
theorem struck12_runs (f : File) (i day : Int) (h1 : f.acts.length ≤ 100) : Runs T 12 [encF f, .int i, .int day] (.bool (struckP f i day)) := by
  refine .of_tree rfl rfl tr12_eq ?_
  simp [tr12]
  by_cases h : i < 0 ∨ (f.signs.length : Int) ≤ i
  · rw [if_pos h]
    have : ¬ (0 ≤ i ∧ i < f.signs.length) := by omega
    simp [struckP, this]
  · rw [if_neg h]
    have h0 : 0 ≤ i ∧ i < f.signs.length := by omega
    refine EvP.scan f.acts.length (fun k => strikes i day (f.acts.getD k ⟨0, 0, 0, 0, 0, 0, 0, 0, 0⟩) = false) (fun k => [.bool false, .int k]) (fun _ => []) ?_ (fun k hk hj ho => ?_) (fun k hk hj ho => ?_) (fun hj => ?_)
    · simp
    · have hw1 : IntKind.i64.wrap ((k : Int) + 1) = (k : Int) + 1 := wrap64_id (by omega)
      have hg : f.acts.getD k ⟨0, 0, 0, 0, 0, 0, 0, 0, 0⟩ = f.acts[k] := by rw [List.getD_eq_getElem?_getD, List.getElem?_eq_getElem hk]; rfl
      rw [hg] at ho
      simp [rd12_0_eq, rd12_0, hk, hw1]
      simp [strikes] at ho
      intro a b; have := ho a b; omega
    · have hg : f.acts.getD k ⟨0, 0, 0, 0, 0, 0, 0, 0, 0⟩ = f.acts[k] := by rw [List.getD_eq_getElem?_getD, List.getElem?_eq_getElem hk]; rfl
      rw [hg] at ho
      have hs : struckP f i day = true := by
        simp only [struckP, h0, and_self, decide_true, Bool.true_and, struckB, List.any_eq_true]
        exact ⟨f.acts[k], List.getElem_mem _, by simpa using ho⟩
      simp [rd12_0_eq, rd12_0, hk, hs]
      simp [strikes] at ho
      exact ⟨⟨ho.1, ho.2.1⟩, ho.2.2⟩
    · have hs : struckP f i day = false := by
        simp only [struckP, h0, and_self, decide_true, Bool.true_and]
        cases e : struckB f.acts i day with
        | false => rfl
        | true =>
          obtain ⟨a, ha, hs⟩ := List.any_eq_true.1 e
          obtain ⟨k, hk, rfl⟩ := List.getElem_of_mem ha
          have := hj k hk
          rw [List.getD_eq_getElem?_getD, List.getElem?_eq_getElem hk] at this
          simp only [Option.getD_some] at this
          rw [this] at hs; cases hs
      simp [rd12_0_eq, rd12_0, hs]

theorem ints_eq {a b : List Int} : (ints a).l.length = a.length := by simp
theorem same_runs (a b : List Int) (ha : a.length ≤ 1000) : Runs T 16 [ints a, ints b] (.bool (decide (a = b))) := by
  refine .of_tree rfl rfl tr16_eq ?_
  simp [tr16]
  by_cases hl : a.length = b.length
  · rw [if_pos (by omega)]
    refine EvP.scan a.length (fun k => a.getD k 0 = b.getD k 0) (fun k => [.bool false, .int k]) (fun _ => []) ?_ (fun k hk hj ho => ?_) (fun k hk hj ho => ?_) (fun hj => ?_)
    · simp
    · have hk' : k < b.length := by omega
      have hw1 : IntKind.i64.wrap ((k : Int) + 1) = (k : Int) + 1 := wrap64_id (by omega)
      simp [hk, hk'] at ho
      simp [rd16_0_eq, rd16_0, hk, hk', hw1, ho]
    · have hk' : k < b.length := by omega
      have hne : a ≠ b := fun e => ho (by rw [e])
      simp [hk, hk'] at ho
      simp [rd16_0_eq, rd16_0, hk, hk', ho, hne]
    · have he : a = b := by
        apply List.ext_getElem hl
        intro k h1 h2
        have := hj k h1
        simpa [h1, h2] using this
      simp [rd16_0_eq, rd16_0, he]
  · rw [if_neg (by omega)]
    exact fun e => hl (by rw [e])

def sameCh (a b : Ch) : Bool := decide (a.signs = b.signs) && a.holder == b.holder && a.broken == b.broken && a.bearer == b.bearer && a.agent == b.agent && decide (a.late = b.late)
theorem sameCh_refl (a : Ch) : sameCh a a = true := by simp [sameCh]
theorem sameCh_runs (a b : Ch) (ha : a.signs.length ≤ 1000) (hb : a.late.length ≤ 1000) : Runs T 13 [encCh a, encCh b] (.bool (sameCh a b)) := by
  refine .of_tree rfl rfl tr13_eq ?_
  simp [tr13]
  refine ⟨_, same_runs a.signs b.signs ha, ?_⟩
  simp
  split
  · rename_i h
    refine ⟨_, same_runs a.late b.late hb, ?_⟩
    simp [h, sameCh]
  · rename_i h
    simp [sameCh, h]

theorem few_runs (f : File) : Runs T 10 [encF f] (.bool (decide (f.signs.length ≤ 40) && decide (f.acts.length ≤ 60) && decide (f.alters.length ≤ 10) && decide (f.facts.length ≤ 200))) := by
  refine .of_tree rfl rfl tr10_eq ?_
  simp [tr10]
  have e1 : ((f.signs.length : Int) ≤ 40) ↔ f.signs.length ≤ 40 := by omega
  have e2 : ((f.acts.length : Int) ≤ 60) ↔ f.acts.length ≤ 60 := by omega
  have e3 : ((f.alters.length : Int) ≤ 10) ↔ f.alters.length ≤ 10 := by omega
  have e4 : ((f.facts.length : Int) ≤ 200) ↔ f.facts.length ≤ 200 := by omega
  simp only [e1, e2, e3, e4]
  by_cases h1 : f.signs.length ≤ 40 <;> by_cases h2 : f.acts.length ≤ 60 <;> by_cases h3 : f.alters.length ≤ 10 <;> simp [h1, h2, h3]

/-! the reference's chain -/
set_option maxRecDepth 10000 in
theorem ends24_runs (f : File) (part day : Int) (h1 : f.acts.length ≤ 100) (h2 : f.signs.length ≤ 100) : Runs T 24 [encF f, .int part, .int day] (ints ((endsL f part day).map fun (i : Nat) => (i : Int))) := by
  refine .of_tree rfl rfl tr24_eq ?_
  simp [tr24]
  have hlen : ∀ k, (endsK f part day k).length ≤ k := fun k => by
    unfold endsK
    have := List.length_filter_le (fun i => isEnd f part day i (f.signs.getD i default)) (List.range k)
    rw [List.length_range] at this; exact this
  refine EvP.forRounds f.signs.length (fun k => [.none, .int k]) (fun k => [ints ((endsK f part day k).map fun (i : Nat) => (i : Int))]) ?_ (fun k hk => ?_) ?_
  · simp [endsK, ints]
  · have hw1 : IntKind.i64.wrap ((k : Int) + 1) = (k : Int) + 1 := wrap64_id (by omega)
    have hg : f.signs.getD k default = f.signs[k] := by rw [List.getD_eq_getElem?_getD, List.getElem?_eq_getElem hk]; rfl
    have hsucc := endsK_succ f part day k
    have hk2 := hlen k
    simp [rd24_0_eq, rd24_0, hk, hw1]
    rw [hg] at hsucc
    by_cases hp : (f.signs[k].kind = 2 ∧ f.signs[k].part = part) ∧ f.signs[k].day ≤ day
    · rw [if_pos hp]
      refine ⟨_, struck12_runs f k day h1, ?_⟩
      have hk0 : 0 ≤ (k : Int) ∧ (k : Int) < f.signs.length := by omega
      cases hs : struckB f.acts k day with
      | false =>
        have hi : isEnd f part day k f.signs[k] = true := by simp [isEnd, hp.1.1, hp.1.2, hp.2, hs]
        rw [if_pos hi] at hsucc
        rw [if_pos ⟨hp, by simp [struckP, hs]⟩, hsucc]
        exact ⟨by omega, by simp [ints]⟩
      | true =>
        have hi : ¬ isEnd f part day k f.signs[k] = true := by simp [isEnd, hs]
        rw [if_neg hi, List.append_nil] at hsucc
        rw [if_neg (by simp [struckP, hs, hk0]), hsucc]
    · rw [if_neg hp, if_neg (fun h => hp h.1)]
      have hi : ¬ isEnd f part day k f.signs[k] = true := fun h => hp (by simp [isEnd] at h; exact ⟨⟨h.1.1.1, h.1.1.2⟩, h.1.2⟩)
      rw [if_neg hi, List.append_nil] at hsucc
      rw [hsucc]
  · simp [rd24_0_eq, rd24_0, endsK_all]

def lateR (f : File) (at_ day : Int) : Bool := f.acts.any fun a => dishA day a && decide (a.day < at_)
set_option maxRecDepth 10000 in
theorem late_runs (f : File) (at_ day : Int) (h1 : f.acts.length ≤ 100) : Runs T 26 [encF f, .int at_, .int day] (.bool (lateR f at_ day)) := by
  refine .of_tree rfl rfl tr26_eq ?_
  simp [tr26]
  refine EvP.scan f.acts.length (fun k => (dishA day (f.acts.getD k ⟨0, 0, 0, 0, 0, 0, 0, 0, 0⟩) && decide ((f.acts.getD k ⟨0, 0, 0, 0, 0, 0, 0, 0, 0⟩).day < at_)) = false) (fun k => [.bool false, .int k]) (fun _ => []) ?_ (fun k hk hj ho => ?_) (fun k hk hj ho => ?_) (fun hj => ?_)
  · simp
  · have hw1 : IntKind.i64.wrap ((k : Int) + 1) = (k : Int) + 1 := wrap64_id (by omega)
    have hg : f.acts.getD k ⟨0, 0, 0, 0, 0, 0, 0, 0, 0⟩ = f.acts[k] := by rw [List.getD_eq_getElem?_getD, List.getElem?_eq_getElem hk]; rfl
    rw [hg] at ho
    simp [rd26_0_eq, rd26_0, hk, hw1]
    simp [dishA] at ho
    intro a b c; have := ho (by omega) b; omega
  · have hg : f.acts.getD k ⟨0, 0, 0, 0, 0, 0, 0, 0, 0⟩ = f.acts[k] := by rw [List.getD_eq_getElem?_getD, List.getElem?_eq_getElem hk]; rfl
    rw [hg] at ho
    have hs : lateR f at_ day = true := List.any_eq_true.2 ⟨f.acts[k], List.getElem_mem _, by simpa using ho⟩
    simp [rd26_0_eq, rd26_0, hk, hs]
    simp [dishA] at ho
    omega
  · have hs : lateR f at_ day = false := by
      cases e : lateR f at_ day with
      | false => rfl
      | true =>
        obtain ⟨a, ha, hs⟩ := List.any_eq_true.1 e
        obtain ⟨k, hk, rfl⟩ := List.getElem_of_mem ha
        have := hj k hk
        rw [List.getD_eq_getElem?_getD, List.getElem?_eq_getElem hk] at this
        simp only [Option.getD_some] at this
        rw [this] at hs; cases hs
    simp [rd26_0_eq, rd26_0, hs]
/-- an act of dishonour before a day: the first one -/
theorem late_eq (f : File) (at_ day : Int) : lateR f at_ day = ((dishF day f.acts).2 && decide ((dishF day f.acts).1 < at_)) := by
  have key : ∀ (l : List A) (x : Int × Bool), ((l.foldl (dishStep day) x).2 && decide ((l.foldl (dishStep day) x).1 < at_)) = ((x.2 && decide (x.1 < at_)) || l.any fun a => dishA day a && decide (a.day < at_)) := by
    intro l
    induction l with
    | nil => intro x; simp only [List.foldl_nil, List.any_nil, Bool.or_false]; congr 1
    | cons a l ih =>
      intro x
      rw [List.foldl_cons, ih, List.any_cons, ← Bool.or_assoc]
      congr 1
      unfold dishStep
      cases hd : dishA day a with
      | false => simp
      | true =>
        cases hx : x.2 with
        | false => simp [hx]
        | true =>
          simp [hx]
          split
          · rw [Bool.eq_iff_iff]; simp; omega
          · rw [Bool.eq_iff_iff]; simp; omega
  unfold lateR dishF
  rw [key]; simp
theorem right25_runs (b fl : Int) : Runs T 25 [.int b, .int fl] (.int (rightF b fl)) := by
  refine .of_tree rfl rfl tr25_eq ?_
  simp [tr25, rightF, flagB]
  split
  · rename_i h
    by_cases h1 : arI .and .i64 fl 2 = 0
    · simp [h1] at h; simp [h]
    · simp [h1]
  · rename_i h
    by_cases h1 : arI .and .i64 fl 2 = 0
    · simp [h1] at h; simp [h1, h]
    · simp [h1] at h


theorem ends_at (f : File) (part day : Int) (k : Nat) (h : k < (endsL f part day).length) : (endsL f part day)[k] < f.signs.length ∧ f.signs[(endsL f part day)[k]]? = some (f.signs.getD (endsL f part day)[k] default) ∧
    (endsE f part day).drop k = (((endsL f part day)[k] : Int), f.signs.getD (endsL f part day)[k] default) :: (endsE f part day).drop (k + 1) := by
  have h1 : (endsL f part day)[k] < f.signs.length := List.mem_range.1 (List.mem_filter.1 (List.getElem_mem h)).1
  refine ⟨h1, by rw [List.getElem?_eq_getElem h1, List.getD_eq_getElem?_getD, List.getElem?_eq_getElem h1]; rfl, ?_⟩
  have hl : k < (endsE f part day).length := by unfold endsE; rw [List.length_map]; exact h
  rw [List.drop_eq_getElem_cons hl]
  congr 1
  have e2 : (endsE f part day)[k]? = some (((endsL f part day)[k] : Int), f.signs.getD (endsL f part day)[k] default) := by
    unfold endsE; rw [List.getElem?_map, List.getElem?_eq_getElem h]; rfl
  rw [List.getElem?_eq_getElem hl] at e2
  exact Option.some.inj e2
/-- the reference's chain; its bearer is told at the end -/
theorem chain15_runs (f : File) (part day : Int) (h1 : f.acts.length ≤ 100) (h2 : f.signs.length ≤ 100) : Runs T 15 [encF f, .int part, .int day] (encCh (chain f part day)) := by
  refine .of_tree rfl rfl tr15_eq ?_
  simp [tr15]
  refine ⟨_, ends24_runs f part day h1 h2, ?_⟩
  have hlen := ends_len f part day
  refine EvP.forLoop (α := Nat) (fun k vo1 vo => ∃ c : Ch, ∃ b0 b5, k ≤ (endsL f part day).length ∧ vo1 = [.int k] ∧ c.bearer = (c.holder == -1) ∧ c.signs.length ≤ k ∧ c.late.length ≤ k ∧
    (if c.broken = -1 then chain f part day = chRun (dishF day f.acts) c ((endsE f part day).drop k) else chain f part day = c) ∧
    vo = [.agg [b0, .int c.holder, .int c.broken, .bool false, .int c.agent, b5], ints c.late, ints c.signs]) (fun k => (endsL f part day).length - k) 0 ?_ ?_
  · refine ⟨ch0 f, .list [], .list [], by omega, by simp, rfl, by simp [ch0], by simp [ch0], ?_, by simp [splice, ch0, ints]⟩
    rw [if_pos (by rfl)]
    simp [chain]
  · rintro k vr vo ⟨c, b0, b5, hk, rfl, hbear, hc1, hc2, hrun, rfl⟩
    have hfin : chain f part day = c → ∀ (x y : D), D.agg (splice [D.list [], D.int 0, D.int 0, D.bool false, D.int 0, D.list []] 0 [ints c.signs, .int c.holder, .int c.broken, .bool (c.holder == -1), .int c.agent, ints c.late]) = encCh (chain f part day) := by
      intro h x y; rw [h, ← hbear]; rfl
    by_cases hb : c.broken = -1
    · rw [if_pos hb] at hrun
      by_cases hlt : k < (endsL f part day).length
      · have hw1 : IntKind.i64.wrap ((k : Int) + 1) = (k : Int) + 1 := wrap64_id (by omega)
        obtain ⟨hi, hs, hd⟩ := ends_at f part day k hlt
        rw [hd] at hrun
        generalize hs2 : f.signs.getD (endsL f part day)[k] default = s at hs hrun
        generalize hi2 : (endsL f part day)[k] = i at hi hs hrun
        simp only [chRun] at hrun
        have hcb : brk c s = true ↔ (¬ c.holder = -1 ∧ ¬ s.who = c.holder) := by simp [brk, hbear]
        simp [rd15_0_eq, rd15_0, hlt, hb, hw1, hi2, hs, D.cells_none]
        refine ⟨hi, ?_⟩
        split
        · rename_i hbr
          rw [if_pos (hcb.2 hbr)] at hrun
          refine ⟨k + 1, by omega, by omega, by simp, { c with broken := i }, hbear, by simp; omega, by simp; omega, ?_, ⟨b0, b5, by simp [splice]⟩, rfl, rfl⟩
          have : ¬ ((i : Int) = -1) := by omega
          simp only [this, if_false]
          exact hrun
        · rename_i hbr
          rw [if_neg (fun h => hbr (hcb.1 h))] at hrun
          have hl := late_eq f s.day day
          refine ⟨by omega, .int (rightF c.agent s.flags), ?_, .bool (lateR f s.day day), ?_, ?_⟩
          · simp [splice]; exact right25_runs _ _
          · exact late_runs f s.day day h1
          cases hlb : lateR f s.day day with
          | true =>
            have hst : (chStep (dishF day f.acts) c i s).late = c.late ++ [(i : Int)] := by
              simp only [chStep]; rw [← hl, hlb]; rfl
            simp
            refine ⟨by omega, k + 1, by omega, by omega, by simp, chStep (dishF day f.acts) c i s, by simp [chStep], by simp [chStep]; omega, by rw [hst]; simp; omega, ?_, ⟨.none, .none, by simp [splice, chStep, hb]⟩, by rw [hst]; simp [ints], by simp [chStep, ints]⟩
            rw [if_pos (by exact hb)]
            exact hrun
          | false =>
            have hst : (chStep (dishF day f.acts) c i s).late = c.late := by
              simp only [chStep]; rw [← hl, hlb]; rfl
            simp
            refine ⟨k + 1, by omega, by omega, by simp, chStep (dishF day f.acts) c i s, by simp [chStep], by simp [chStep]; omega, by rw [hst]; omega, ?_, ⟨.none, b5, by simp [splice, chStep, hb]⟩, by rw [hst], by simp [chStep, ints]⟩
            rw [if_pos (by exact hb)]
            exact hrun
      · have : (endsE f part day).drop k = [] := by
          rw [List.drop_eq_nil_iff]; unfold endsE; simp; omega
        rw [this] at hrun
        simp only [chRun] at hrun
        have := hfin hrun .none .none
        rw [hb] at this
        simp [rd15_0_eq, rd15_0, hlt, hb]
        simp [splice] at this ⊢
        exact this
    · rw [if_neg hb] at hrun
      have := hfin hrun .none .none
      simp [rd15_0_eq, rd15_0, hb]
      simp [splice] at this ⊢
      exact this
end Title
