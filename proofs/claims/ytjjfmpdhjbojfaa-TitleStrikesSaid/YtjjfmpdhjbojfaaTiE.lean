/-
  The iterator; the chain.
-/
import Derived.Test.YtjjfmpdhjbojfaaTiD
set_option linter.unusedSimpArgs false
set_option linter.unusedVariables false
namespace Title
open Go Go.Proofs Cx

def endsK (f : File) (part day : Int) (k : Nat) : List Nat := (List.range k).filter fun i => isEnd f part day i (f.signs.getD i default)
theorem endsK_succ (f : File) (part day : Int) (k : Nat) : endsK f part day (k + 1) = endsK f part day k ++ if isEnd f part day k (f.signs.getD k default) then [k] else [] := by
  unfold endsK
  rw [List.range_succ, List.filter_append]
  congr 1
  have key : ∀ (p : Nat → Bool), List.filter p [k] = if p k then [k] else [] := fun p => by
    cases h : p k <;> simp [List.filter, h]
  exact key _
theorem endsK_pre (f : File) (part day : Int) {k n : Nat} (h : k ≤ n) : ∃ r, endsK f part day n = endsK f part day k ++ r := by
  induction n with
  | zero => obtain rfl : k = 0 := by omega
            exact ⟨[], by simp⟩
  | succ n ih =>
    by_cases e : k = n + 1
    · subst e; exact ⟨[], by simp⟩
    · obtain ⟨r, hr⟩ := ih (by omega)
      exact ⟨r ++ _, by rw [endsK_succ, hr, List.append_assoc]⟩
theorem endsK_all (f : File) (part day : Int) : endsK f part day f.signs.length = endsL f part day := rfl

set_option maxRecDepth 10000 in
theorem it_runs (f : File) (part day : Int) (h1 : f.acts.length ≤ 100) (h2 : f.signs.length ≤ 100) : Runs T 27 [.ref (encF f), .ref (.int day), .ref (.int part)] (.list ((endsL f part day).map (encE f))) := by
  have hsp := specD_eq f part day
  rw [← hsp]
  refine Runs.of_it (pc := pc27) (J := 1000) (k := 2) rfl (fun x hx => ?_) (fun m hm => ?_)
  · rw [hsp] at hx
    obtain ⟨i, _, rfl⟩ := List.mem_map.1 hx
    exact ⟨_, rfl, rfl⟩
  · rw [hsp] at hm ⊢
    refine tree_ok ?_
    rw [tr27_eq]
    simp [tr27]
    refine ⟨_, (struck_runs f day h1).yld (by decide), ?_⟩
    refine EvP.forLoop (α := Nat) (fun k vr vo => k ≤ f.signs.length ∧ vr = [.int k] ∧ vo = [.list ((endsK f part day k).map (encE f))] ∧ (endsK f part day k).length ≤ m) (fun k => f.signs.length - k) 0 ?_ ?_
    · simp [envI_o, endsK]
    · rintro k vr vo ⟨hk, rfl, rfl, hc⟩
      by_cases hlt : k < f.signs.length
      · have hw1 : IntKind.i64.wrap ((k : Int) + 1) = (k : Int) + 1 := wrap64_id (by omega)
        have hg : f.signs.getD k default = f.signs[k] := by rw [List.getD_eq_getElem?_getD, List.getElem?_eq_getElem hlt]; rfl
        have hlook : (lookM (.int k) (mI (mapOf day f.acts))).getD (.bool false) = .bool (struckB f.acts k day) := by rw [lookM_int]; exact mapOf_look _ _ _
        have hcond : (((f.signs[k].kind = 2 ∧ f.signs[k].part = part) ∧ f.signs[k].day ≤ day) ∧ struckB f.acts k day = false) ↔ isEnd f part day k (f.signs.getD k default) = true := by
          rw [hg]; simp [isEnd]
        have hsucc := endsK_succ f part day k
        obtain ⟨r, hr⟩ := endsK_pre f part day (k := k + 1) (n := f.signs.length) hlt
        rw [endsK_all] at hr
        simp [rd27_0_eq, rd27_0, hlt, hw1, hlook]
        by_cases hi : isEnd f part day k (f.signs.getD k default) = true
        · have hc' := hcond.2 hi
          rw [if_pos hi] at hsucc
          have hlen : (endsK f part day (k + 1)).length = (endsK f part day k).length + 1 := by rw [hsucc]; simp
          have htr : (endsK f part day k).map (encE f) ++ [D.tup [D.int k, encS f.signs[k]]] = (endsK f part day (k + 1)).map (encE f) := by
            rw [hsucc, List.map_append, List.map_singleton]; unfold encE; rw [hg]
          have htake : (endsK f part day (k + 1)).map (encE f) = ((endsL f part day).map (encE f)).take ((endsK f part day k).length + 1) := by
            rw [hr, List.map_append, List.take_append_of_le_length (by simp [hlen]), List.take_of_length_le (by simp [hlen])]
          have hcl : (endsK f part day k).length < ((endsL f part day).map (encE f)).length := by
            rw [hr]; simp [hlen]; omega
          simp only [hc', htr, and_self, if_true, true_and]
          refine ⟨_, Runs.answer htake hcl hc, ?_⟩
          by_cases hcm : (endsK f part day k).length < m
          · rw [if_neg (by simp [hcm])]
            exact ⟨k + 1, by omega, by omega, by simp, rfl, by omega⟩
          · obtain rfl : (endsK f part day k).length = m := by omega
            rw [if_pos (by simp), htake]
        · have hc' := fun h => hi (hcond.1 h)
          rw [if_neg hi, List.append_nil] at hsucc
          rw [if_neg hc', if_neg hc', if_neg (fun h => hc' h.1)]
          exact ⟨k + 1, by omega, by omega, by simp, by rw [hsucc], by rw [hsucc]; exact hc⟩
      · obtain rfl : k = f.signs.length := by omega
        simp [rd27_0_eq, rd27_0]
        rw [endsK_all] at hc ⊢
        rw [List.take_of_length_le (by simp; omega)]

/-! the chain -/
structure Ch where
  signs : List Int
  holder : Int
  broken : Int
  bearer : Bool
  agent : Int
  late : List Int
def encCh (c : Ch) : D := .agg [ints c.signs, .int c.holder, .int c.broken, .bool c.bearer, .int c.agent, ints c.late]
@[simp] theorem Ch_cells (c : Ch) : (encCh c).cells = [ints c.signs, .int c.holder, .int c.broken, .bool c.bearer, .int c.agent, ints c.late] := _root_.id rfl
@[simp] theorem Ch_c0 (c : Ch) : (encCh c).c 0 = ints c.signs := _root_.id rfl
@[simp] theorem Ch_c1 (c : Ch) : (encCh c).c 1 = .int c.holder := _root_.id rfl
@[simp] theorem Ch_c2 (c : Ch) : (encCh c).c 2 = .int c.broken := _root_.id rfl
@[simp] theorem Ch_c3 (c : Ch) : (encCh c).c 3 = .bool c.bearer := _root_.id rfl
@[simp] theorem Ch_c4 (c : Ch) : (encCh c).c 4 = .int c.agent := _root_.id rfl
@[simp] theorem Ch_c5 (c : Ch) : (encCh c).c 5 = ints c.late := _root_.id rfl
@[simp] theorem Ch_all (c : Ch) : allc 6 (encCh c) = encCh c := _root_.id rfl
@[simp] theorem over_Ch (c : Ch) (a b d e f g : D) : D.agg (splice [a, b, d, e, f, g] 0 [ints c.signs, .int c.holder, .int c.broken, .bool c.bearer, .int c.agent, ints c.late]) = encCh c := _root_.id rfl
def flagB (fl bit : Int) : Bool := arI .and .i64 fl bit != 0
def rightF (b fl : Int) : Int := if flagB fl 2 || b != 0 then 1 else if flagB fl 4 then 2 else 0
theorem right_runs (b fl : Int) : Runs T 23 [.int b, .int fl] (.int (rightF b fl)) := by
  refine .of_tree rfl rfl tr23_eq ?_
  simp [tr23, rightF, flagB]
  split
  · rename_i h
    by_cases h1 : arI .and .i64 fl 2 = 0
    · simp [h1] at h; simp [h]
    · simp [h1]
  · rename_i h
    by_cases h1 : arI .and .i64 fl 2 = 0
    · simp [h1] at h; simp [h1, h]
    · simp [h1] at h
def brk (c : Ch) (s : S) : Bool := !c.bearer && s.who != c.holder
def chStep (p : Int × Bool) (c : Ch) (i : Int) (s : S) : Ch := { signs := c.signs ++ [i], holder := s.to, broken := c.broken, bearer := s.to == -1, agent := rightF c.agent s.flags, late := if p.2 && decide (p.1 < s.day) then c.late ++ [i] else c.late }
def chRun (p : Int × Bool) (c : Ch) : List (Int × S) → Ch
  | [] => c
  | x :: l => if brk c x.2 then { c with broken := x.1 } else chRun p (chStep p c x.1 x.2) l
def ch0 (f : File) : Ch := ⟨[], f.payee, -1, f.payee == -1, 0, []⟩
def endsE (f : File) (part day : Int) : List (Int × S) := (endsL f part day).map fun (i : Nat) => ((i : Int), f.signs.getD i default)
def chain (f : File) (part day : Int) : Ch := chRun (dishF day f.acts) (ch0 f) (endsE f part day)

theorem ends_runs (f : File) (part day : Int) : Runs T 22 [encF f, .int part, .int day] (.clo 27 [.ref (encF f), .ref (.int day), .ref (.int part)]) := by
  refine .of_tree rfl rfl tr22_eq ?_
  simp [tr22]
theorem ends_get (f : File) (part day : Int) (k : Nat) (y : D) (h : ((endsL f part day).map (encE f))[k]? = some y) : ∃ x : Int × S, (endsE f part day).drop k = x :: (endsE f part day).drop (k + 1) ∧ y = .tup [.int x.1, encS x.2] := by
  rw [List.getElem?_map, Option.map_eq_some_iff] at h
  obtain ⟨i, hi, rfl⟩ := h
  refine ⟨((i : Int), f.signs.getD i default), ?_, rfl⟩
  have hlt := (List.getElem?_eq_some_iff.1 hi).1
  have hl : k < (endsE f part day).length := by unfold endsE; rw [List.length_map]; exact hlt
  rw [List.drop_eq_getElem_cons hl]
  congr 1
  have e := (List.getElem?_eq_some_iff.1 hi).2
  have e2 : (endsE f part day)[k]? = some ((i : Int), f.signs.getD i default) := by
    unfold endsE; rw [List.getElem?_map, hi]; rfl
  rw [List.getElem?_eq_getElem hl] at e2
  exact Option.some.inj e2
theorem ends_len (f : File) (part day : Int) : (endsL f part day).length ≤ f.signs.length := by
  unfold endsL
  have := List.length_filter_le (fun i => isEnd f part day i (f.signs.getD i default)) (List.range f.signs.length)
  rw [List.length_range] at this; exact this

set_option maxRecDepth 10000 in
theorem chain_loop (ρ : Env) (f : File) (part day : Int) (p : Int × Bool) (h2 : f.signs.length ≤ 100) (h77 : ρ.r 77 = .list ((endsL f part day).map (encE f))) (a0 a5 : D) (h7 : ρ.o 7 = .agg [a0, .int f.payee, .int (-1), .bool (f.payee == -1), .int 0, a5])
    (h41 : ρ.o 4103 = .list []) (h24 : ρ.o 24583 = .list []) (h8 : ρ.o 8 = .agg [.int p.1]) (h9 : ρ.o 9 = .agg [.bool p.2]) {Q : Out → Prop}
    (hQ : ∀ (ρ' : Env) (b0 b5 : D), ρ'.o 4103 = ints (chRun p (ch0 f) (endsE f part day)).signs → ρ'.o 24583 = ints (chRun p (ch0 f) (endsE f part day)).late →
      ρ'.o 7 = .agg [b0, .int (chRun p (ch0 f) (endsE f part day)).holder, .int (chRun p (ch0 f) (endsE f part day)).broken, .bool (chRun p (ch0 f) (endsE f part day)).bearer, .int (chRun p (ch0 f) (endsE f part day)).agent, b5] →
      (∀ j, j ≠ 11 → j ≠ 4103 → j ≠ 24583 → j ≠ 7 → ρ'.o j = ρ.o j) → Q (.next ρ') ∧ Q (.exit 0 ρ')) : EvP T ea14_0 ρ Q := by
  have hlen := ends_len f part day
  refine EvP.eachR ((endsL f part day).map (encE f)) (by simp [h77]) (fun k vo => ∃ c : Ch, ∃ x11 b0 b5, c.broken = -1 ∧ chRun p (ch0 f) (endsE f part day) = chRun p c ((endsE f part day).drop k) ∧ c.signs.length ≤ k ∧ c.late.length ≤ k ∧
    vo = [x11, ints c.signs, ints c.late, .agg [b0, .int c.holder, .int c.broken, .bool c.bearer, .int c.agent, b5]]) ?_ ?_ ?_
  · exact ⟨ch0 f, ρ.o 11, a0, a5, rfl, by simp, Nat.le_refl _, Nat.le_refl _, by simp [h7, h41, h24, ch0, ints]⟩
  · rintro k y vo hy ⟨c, x11, b0, b5, hb, hrun, hc1, hc2, rfl⟩
    have hk : k < f.signs.length := by
      have := (List.getElem?_eq_some_iff.1 hy).1; rw [List.length_map] at this; omega
    obtain ⟨⟨i, s⟩, hd, rfl⟩ := ends_get f part day k y hy
    rw [hd] at hrun
    simp only [chRun] at hrun
    simp [rd14_0_eq, rd14_0, h8, h9]
    split
    · rename_i hbr
      have hbrk : brk c s = true := by simp [brk, hbr.1, hbr.2]
      rw [if_pos hbrk] at hrun
      rw [hrun] at hQ
      refine ⟨by decide, (hQ _ b0 b5 ?_ ?_ ?_ ?_).2⟩
      · simp
      · simp
      · simp [splice]
      · intro j h1 h2 h3 h4; simp [h1, h2, h3, h4]
    · rename_i hbr
      have hbrk : ¬ brk c s = true := by simpa [brk] using hbr
      rw [if_neg hbrk] at hrun
      refine ⟨by omega, .int (rightF c.agent s.flags), ?_, ?_⟩
      · simp [splice, D.cells_none]; exact right_runs _ _
      split
      · rename_i hlate
        refine ⟨by omega, chStep p c i s, hb, hrun, by simp [chStep]; omega, by simp [chStep, hlate.1, hlate.2]; omega, by simp [chStep, ints], by simp [chStep, ints, hlate.1, hlate.2], .none, .none, ?_⟩
        simp [splice, D.cells_none, chStep, hb]
      · rename_i hlate
        have hl : (if p.2 && decide (p.1 < s.day) then c.late ++ [i] else c.late) = c.late := if_neg (by simpa using hlate)
        refine ⟨chStep p c i s, hb, hrun, by simp [chStep]; omega, by simp only [chStep, hl]; omega, by simp [chStep, ints], by simp only [chStep, hl], .none, b5, ?_⟩
        simp [splice, D.cells_none, chStep, hb]
  · rintro vo ⟨c, x11, b0, b5, hb, hrun, hc1, hc2, rfl⟩
    have : (endsE f part day).drop ((endsL f part day).map (encE f)).length = [] := by
      rw [List.drop_eq_nil_iff]; unfold endsE; simp
    rw [this] at hrun
    simp only [chRun] at hrun
    rw [hrun] at hQ
    refine (hQ _ b0 b5 ?_ ?_ ?_ ?_).1
    · simp
    · simp
    · simp
    · intro j h1 h2 h3 h4; simp [h1, h2, h3, h4]
set_option maxRecDepth 10000 in
theorem chain_runs (f : File) (part day : Int) (h1 : f.acts.length ≤ 100) (h2 : f.signs.length ≤ 100) : Runs T 14 [encF f, .int part, .int day] (encCh (chain f part day)) := by
  refine .of_tree rfl rfl tr14_eq ?_
  simp [tr14]
  refine ⟨_, dish_runs f day h1, _, ends_runs f part day, 27, _, rfl, _, it_runs f part day h1 h2, ?_⟩
  refine chain_loop _ f part day (dishF day f.acts) h2 (by simp) (.list []) (.list []) (by simp [splice]) (by simp) (by simp) (by simp [splice]) (by simp [splice]) (fun ρ' b0 b5 g1 g2 g3 _ => ?_)
  simp [g1, g2, g3]
  constructor <;> rfl
end Title
