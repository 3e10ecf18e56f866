/-
  The reference's Spare and Until.
-/
import Derived.Test.YtaihcmbfhgmjgaaPoV
set_option linter.unusedSimpArgs false
set_option linter.unusedVariables false
namespace Pool
open Go Go.Proofs Cx

def bls (l : List Bool) : D := .list (l.map .bool)
@[simp] theorem bls_l (l : List Bool) : (bls l).l = l.map .bool := _root_.id rfl
def takenF (n : Nat) (pre : List Int) : List Bool := (List.range n).map fun i : Nat => pre.contains (i : Int)
theorem takenF_len (n : Nat) (pre : List Int) : (takenF n pre).length = n := by simp [takenF]
theorem takenF_get (n : Nat) (pre : List Int) (i : Nat) (h : i < n) : (takenF n pre)[i]'(by rw [takenF_len]; exact h) = pre.contains (i : Int) := by simp [takenF]

/-- the first of what is not taken yet, in the order -/
def isBest (v : Int → Int) (pre : List Int) (m : Nat) (b : Int) : Prop :=
  (b = -1 ∧ ∀ i : Nat, i < m → (i : Int) ∈ pre) ∨ (∃ q : Nat, b = q ∧ q < m ∧ (q : Int) ∉ pre ∧ ∀ i : Nat, i < m → (i : Int) ∉ pre → i = q ∨ ltV v q i)

theorem best_runs (t : Tm) (l : List Pl) (day : Int) (pre : List Int) (hl : l.length ≤ 50) {ρ : Env} {Q : Out → Prop} (e1 : ρ.r 1 = pls l) (e2 : ρ.r 2 = .int day) (e3 : ρ.o 3 = encT t) (e10 : ρ.o 10 = bls (takenF l.length pre)) (e11 : ρ.r 11 = .int (-1)) (e12 : ρ.r 12 = .int 0)
    (k : ∀ b, isBest (vI t l day) pre l.length b → Q (.next (ρ.put [11, 12, 34, 35, 36, 37] [.int b, .int l.length, .int l.length, pls l, .int l.length, .bool false] [] []))) : EvP T lp15_0 ρ Q := by
  refine EvP.forLoop (α := Nat × Int) (fun q vr vo => q.1 ≤ l.length ∧ vr = [.int q.2, .int q.1] ∧ vo = [] ∧ isBest (vI t l day) pre q.1 q.2) (fun q => l.length - q.1) (0, -1) ⟨by omega, by simp [e11, e12], rfl, .inl ⟨rfl, fun i hi => by omega⟩⟩ ?_
  rintro ⟨m, b⟩ vr vo ⟨hm, rfl, rfl, hb⟩
  simp only at hm hb
  by_cases hlt : m < l.length
  · have hw : IntKind.i64.wrap ((m : Int) + 1) = (m : Int) + 1 := wrap64_id (by omega)
    have hw' : IntKind.i64.wrap ((m : Int) + 1) = ((m + 1 : Nat) : Int) := by rw [hw]; omega
    have htl : m < (takenF l.length pre).length := by rw [takenF_len]; exact hlt
    have htg := takenF_get l.length pre m hlt
    have hvm : valF t l[m] day = vI t l day m := by simp [vI, List.getD_eq_getElem?_getD, List.getElem?_eq_getElem hlt]
    simp only [rd15_0_eq, rd15_0]
    by_cases hin : (m : Int) ∈ pre
    · have htg' : (takenF l.length pre)[m] = true := by rw [htg]; simpa using hin
      simp [hlt, e1, e2, e3, e10, htl, htg']
      refine ⟨m + 1, by omega, by omega, b, ⟨rfl, hw'⟩, ?_⟩
      rcases hb with ⟨rfl, h⟩ | ⟨q, rfl, h1, h2, h3⟩
      · refine .inl ⟨rfl, fun i hi => ?_⟩
        by_cases e : i = m
        · subst e; exact hin
        · exact h i (by omega)
      · refine .inr ⟨q, rfl, by omega, h2, fun i hi hn => ?_⟩
        by_cases e : i = m
        · subst e; exact absurd hin hn
        · exact h3 i (by omega) hn
    · have htg' : (takenF l.length pre)[m] = false := by rw [htg]; simpa using hin
      rcases hb with ⟨rfl, h⟩ | ⟨q, rfl, h1, h2, h3⟩
      · simp [hlt, e1, e2, e3, e10, htl, htg']
        refine ⟨m + 1, by omega, by omega, m, ⟨rfl, hw'⟩, .inr ⟨m, rfl, by omega, hin, fun i hi hn => ?_⟩⟩
        by_cases e : i = m
        · exact .inl e
        · exact absurd (h i (by omega)) hn
      · have hql : q < l.length := by omega
        have hvq : valF t l[q] day = vI t l day q := by simp [vI, List.getD_eq_getElem?_getD, List.getElem?_eq_getElem hql]
        have hqn : ¬ (q : Int) < 0 := by omega
        simp [hlt, e1, e2, e3, e10, htl, htg', hql, hqn]
        refine ⟨_, rvalue_runs t _ day, _, rvalue_runs t _ day, ?_⟩
        rw [hvm, hvq]
        by_cases hv : vI t l day m < vI t l day q
        · refine ⟨m + 1, by omega, by omega, m, ⟨by simp [hv], hw'⟩, .inr ⟨m, rfl, by omega, hin, fun i hi hn => ?_⟩⟩
          by_cases e : i = m
          · exact .inl e
          · right
            rcases h3 i (by omega) hn with rfl | hlt3
            · exact .inl hv
            · exact ltV_trans (.inl hv) hlt3
        · refine ⟨m + 1, by omega, by omega, q, ⟨by simp [hv], hw'⟩, .inr ⟨q, rfl, by omega, h2, fun i hi hn => ?_⟩⟩
          by_cases e : i = m
          · subst e
            right
            unfold ltV; omega
          · exact h3 i (by omega) hn
  · obtain rfl : m = l.length := by omega
    have := k b hb
    simp only [rd15_0_eq, rd15_0]
    simp [e1]
    simpa using this

theorem outs_runs (l : List Pl) (pre : List Int) (hl : l.length ≤ 50) {ρ : Env} {Q : Out → Prop} (e1 : ρ.r 1 = pls l) (e10 : ρ.o 10 = bls (takenF l.length pre)) (e13 : ρ.r 13 = .none) (e14 : ρ.r 14 = .int 0) (eo : ρ.o 13 = .list [])
    (k : ∀ u, Q (.next (ρ.put [13, 14, 92, 93, 94, 95] u [13] [ints ((rng l.length).filter fun i => pre.contains i)]))) : EvP T lp15_2 ρ Q := by
  refine EvP.forRounds l.length (fun k => [.none, .int k]) (fun k => [ints ((rng k).filter fun i => pre.contains i)]) ?_ (fun k hk => ?_) ?_
  · simp [e13, e14, eo, rng, ints]
  · have hw : IntKind.i64.wrap ((k : Int) + 1) = (k : Int) + 1 := wrap64_id (by omega)
    have htl : k < (takenF l.length pre).length := by rw [takenF_len]; exact hk
    have htg := takenF_get l.length pre k hk
    have hlen : ((rng k).filter fun i => pre.contains i).length ≤ k := by
      have := (List.filter_sublist (p := fun i => pre.contains i) (l := rng k)).length_le
      rwa [rng_len] at this
    rw [rng_succ, List.filter_append]
    generalize (rng k).filter (fun i => pre.contains i) = F at *
    simp only [rd15_2_eq, rd15_2]
    by_cases hin : (k : Int) ∈ pre
    · have htg' : (takenF l.length pre)[k] = true := by rw [htg]; simpa using hin
      simp [hk, hw, e1, e10, htl, htg', hin, ints]
      omega
    · have htg' : (takenF l.length pre)[k] = false := by rw [htg]; simpa using hin
      simp [hk, hw, e1, e10, htl, htg', hin, ints]
  · simp only [rd15_2_eq, rd15_2]
    simp [e1]
    simpa using k _

theorem filter_sort {n : Nat} {pre : List Int} (hnd : pre.Nodup) (h : ∀ x, x ∈ pre → 0 ≤ x ∧ x < n) : (rng n).filter (fun i => pre.contains i) = insSort pre := by
  have h1 : ((rng n).filter fun i => pre.contains i).Pairwise (· < ·) := (rng_sorted n).sublist List.filter_sublist
  have hnd2 : (insSort pre).Nodup := (insSort_perm pre).nodup_iff.2 hnd
  have h2 : (insSort pre).Pairwise (· < ·) := ((insSort_sorted pre).and hnd2).imp fun ⟨h, hne⟩ => by omega
  refine List.Perm.eq_of_pairwise (le := (· < ·)) (fun a b _ _ h1 h2 => by omega) h1 h2 ?_
  refine (List.perm_ext_iff_of_nodup (h1.imp fun h => by omega) hnd2).2 fun x => ?_
  simp only [List.mem_filter, List.contains_eq_mem, decide_eq_true_eq, (insSort_perm pre).mem_iff]
  exact ⟨fun h => h.2, fun hx => ⟨rng_mem.2 (h x hx), hx⟩⟩

set_option maxHeartbeats 1000000 in
theorem rspare_runs (t : Tm) (l : List Pl) (day : Int) (hl : l.length ≤ maxLen) : Runs T 15 [encT t, pls l, .int day] (spareF t l day) := by
  refine .of_tree rfl rfl tr15_eq ?_
  simp [tr15]
  refine ⟨_, rcheck_runs t l day hl, ?_⟩
  unfold spareF
  by_cases c1 : checkF t l day = 0
  case neg => simp [c1]
  have hc := check_zero.1 c1
  have ht := tmOK_iff.1 hc.2.1
  have hcb := cover_bounds t l day
  have hw0 : IntKind.i64.wrap (coverF t l day - t.loan) = coverF t l day - t.loan := wrap64_id (by omega)
  simp [c1]
  refine ⟨_, rsum_runs t l day (by omega), ?_⟩
  simp [hw0]
  by_cases c2 : coverF t l day - t.loan < 0
  · have c2' : coverF t l day < t.loan := by omega
    simp [c2, c2']
  have c2' : ¬ coverF t l day < t.loan := by omega
  simp [c2, c2']
  refine ⟨by omega, ?_⟩
  have hnd : (rng l.length).Nodup := (rng_sorted l.length).imp fun h => by omega
  have hSnd : (srt (vI t l day) (rng l.length)).Nodup := (srt_perm _ _).nodup_iff.2 hnd
  have hSs := srt_sorted (vI t l day) (rng l.length) hnd
  have hSl : (srt (vI t l day) (rng l.length)).length = l.length := by rw [(srt_perm _ _).length_eq, rng_len]
  have hSm : ∀ x, x ∈ srt (vI t l day) (rng l.length) ↔ 0 ≤ x ∧ x < l.length := fun x => by rw [(srt_perm _ _).mem_iff, rng_mem]
  have hpre : ∀ pre : List Int, preF t l day = pre → pre.Sublist (srt (vI t l day) (rng l.length)) → (rng l.length).filter (fun i => pre.contains i) = insSort (preF t l day) := fun pre e hs => by
    rw [e]; exact filter_sort (hSnd.sublist hs) fun x hx => (hSm x).1 (hs.subset hx)
  unfold preF at hpre ⊢
  generalize srt (vI t l day) (rng l.length) = S at *
  generalize hL : coverF t l day - t.loan = L at *
  refine EvP.forLoop (α := Nat)
    (fun k vr vo => k ≤ S.length ∧ (∀ j, j < k → ¬ L - sumV (vI t l day) (S.take (j + 1)) < 0) ∧ vr = [.int (L - sumV (vI t l day) (S.take k))] ∧ vo = [bls (takenF l.length (S.take k))])
    (fun k => S.length - k) 0 ⟨by omega, by simp, by simp [sumV, hL, hw0], by simp [bls, takenF, Function.comp_def, List.map_const']⟩ ?_
  rintro k vr vo ⟨hk, hj, rfl, rfl⟩
  have hg := gre_split (vI t l day) S L k hj hk
  simp only [rd15_1_eq, rd15_1]
  simp
  refine best_runs t l day (S.take k) hc.1 (by simp) (by simp) (by simp) (by simp) (by simp) (by simp) ?_
  intro b hb
  have hsum0 : ∀ X : List Int, 0 ≤ sumV (vI t l day) X ∧ sumV (vI t l day) X ≤ 1099511627776 * X.length := fun X => by
    induction X with
    | nil => simp [sumV]
    | cons x X ih =>
      have := vI_bounds t l day x
      simp only [sumV, List.map_cons, List.sum_cons, List.length_cons] at *
      omega
  by_cases hlt : k < S.length
  · -- the next in the order
    have hmS := (hSm S[k]).1 (List.getElem_mem hlt)
    obtain ⟨i0, hi0⟩ : ∃ i : Nat, S[k] = i := ⟨S[k].toNat, by omega⟩
    have hnot : (i0 : Int) ∉ S.take k := fun hin => by
      obtain ⟨c, hc1, hc2, hc3⟩ := mem_take_getD hin
      have e : S[c] = S[k] := by rw [← hi0] at hc3; rw [← hc3, List.getD_eq_getElem?_getD, List.getElem?_eq_getElem hc2]; rfl
      exact List.pairwise_iff_getElem.1 hSnd c k hc2 hlt hc1 e
    have hb0 : b = i0 := by
      rcases hb with ⟨rfl, h⟩ | ⟨q, rfl, h1, h2, h3⟩
      · exact absurd (h i0 (by omega)) hnot
      · rcases h3 i0 (by omega) hnot with e | hq
        · omega
        · have hqS : (q : Int) ∈ S := (hSm q).2 ⟨by omega, by omega⟩
          rw [← List.take_append_drop k S] at hqS
          rcases List.mem_append.1 hqS with h | h
          · exact absurd h h2
          · rw [List.drop_eq_getElem_cons hlt] at h
            rcases List.mem_cons.1 h with h | h
            · omega
            · have hd : (S.drop k).Pairwise (ltV (vI t l day)) := hSs.sublist (List.drop_sublist _ _)
              rw [List.drop_eq_getElem_cons hlt] at hd
              have := (List.pairwise_cons.1 hd).1 _ h
              rw [hi0] at this
              exact absurd hq (ltV_asymm this)
    subst hb0
    have hil : i0 < l.length := by omega
    have hin0 : ¬ ((i0 : Int) < 0) := by omega
    have hvi : valF t l[i0] day = vI t l day i0 := by simp [vI, List.getD_eq_getElem?_getD, List.getElem?_eq_getElem hil]
    have hs : sumV (vI t l day) (S.take (k + 1)) = sumV (vI t l day) (S.take k) + vI t l day i0 := by
      rw [List.take_succ_eq_append_getElem hlt, sumV_append, hi0]; simp [sumV]
    have b1 := hsum0 (S.take (k + 1))
    have b2 := hsum0 (S.take k)
    have hb3 : (S.take k).length ≤ 50 := by rw [List.length_take]; omega
    have hb4 : (S.take (k + 1)).length ≤ 50 := by rw [List.length_take]; omega
    have hw1 : IntKind.i64.wrap (L - sumV (vI t l day) (S.take k) - vI t l day i0) = L - sumV (vI t l day) (S.take (k + 1)) := by rw [wrap64_id (by omega)]; omega
    have htl : i0 < (takenF l.length (S.take k)).length := by rw [takenF_len]; exact hil
    simp [hil, hin0]
    refine ⟨_, rvalue_runs t _ day, ?_⟩
    rw [hvi]
    simp only [dint_i]
    by_cases hneg : L - sumV (vI t l day) (S.take k) < vI t l day i0
    · have hg1 : gre (vI t l day) L S = S.take k := by
        rw [hg, List.drop_eq_getElem_cons hlt, hi0]
        have : L - sumV (vI t l day) (S.take k) - vI t l day i0 < 0 := by omega
        simp [gre, this]
      have hf := hpre _ hg1 (List.take_sublist _ _)
      simp [hneg]
      refine outs_runs l (S.take k) hc.1 (by simp) (by simp) (by simp) (by simp) (by simp) fun u => ?_
      simp only [hf]
      simp
    · have hset : (takenF l.length (S.take k)).set i0 true = takenF l.length (S.take (k + 1)) := by
        rw [List.take_succ_eq_append_getElem hlt, hi0]
        refine List.ext_getElem (by simp [takenF]) fun i h1 h2 => ?_
        by_cases e : i0 = i
        · subst e; simp [takenF]
        · have e' : ¬ (i : Int) = i0 := by omega
          simp [takenF, List.getElem_set, e, e']
      simp [hneg, htl, hil]
      refine ⟨_, rvalue_runs t _ day, ?_⟩
      rw [hvi]
      refine ⟨k + 1, by omega, by omega, fun j hjk => ?_, ?_, ?_⟩
      · by_cases e : j = k
        · subst e; omega
        · have := hj j (by omega); omega
      · simp [hw1]
      · rw [← hset, bls, List.map_set]; rfl
  · obtain rfl : k = S.length := by omega
    have hb0 : b = -1 := by
      rcases hb with ⟨rfl, h⟩ | ⟨q, rfl, h1, h2, h3⟩
      · rfl
      · rw [List.take_length] at h2
        exact absurd ((hSm q).2 ⟨by omega, by omega⟩) h2
    subst hb0
    have hg1 : gre (vI t l day) L S = S.take S.length := by rw [hg]; simp [gre]
    have hf := hpre _ hg1 (List.take_sublist _ _)
    simp
    refine outs_runs l (S.take S.length) hc.1 (by simp) (by simp) (by simp) (by simp) (by simp) fun u => ?_
    simp only [hf]
    simp

theorem ins1_head {x : Int} : ∀ {l : List Int}, (∀ y, y ∈ l → x ≤ y) → ins1 x l = x :: l
  | [], _ => rfl
  | y :: l, h => by simp [ins1, h y List.mem_cons_self]

theorem runtil_runs (t : Tm) (l : List Pl) (day : Int) (hl : l.length ≤ maxLen) : Runs T 17 [encT t, pls l, .int day]
    (if checkF t l day = 0 then .tup [.int (firstF t l (insSort (daysF l day))), .int 0] else .tup [.int 0, .int (checkF t l day)]) := by
  refine .of_tree rfl rfl tr17_eq ?_
  simp [tr17]
  refine ⟨_, rcheck_runs t l day hl, ?_⟩
  by_cases c1 : checkF t l day = 0
  case neg => simp [c1]
  have hc := check_zero.1 c1
  simp [c1]
  refine ⟨_, rsum_runs t l day (by omega), ?_⟩
  have hdue : ∀ d, d ∈ dueF l day ↔ ∃ p, p ∈ l ∧ day ≤ p.due ∧ p.due < 100000 ∧ d = p.due + 1 := fun d => by
    simp only [dueF, List.mem_map, List.mem_filter, Bool.and_eq_true, decide_eq_true_eq]
    exact ⟨fun ⟨p, ⟨h1, h2, h3⟩, h4⟩ => ⟨p, h1, h2, h3, h4.symm⟩, fun ⟨p, h1, h2, h3, h4⟩ => ⟨p, ⟨h1, h2, h3⟩, h4.symm⟩⟩
  have hSm : ∀ d, d ∈ insSort (daysF l day) ↔ d = day ∨ d ∈ dueF l day := fun d => by rw [(insSort_perm _).mem_iff, daysF, List.mem_cons]
  have hfc := firstF_cases t l (insSort (daysF l day))
  have hsorted := insSort_sorted (daysF l day)
  by_cases hd : coverF t l day < t.loan
  · simp [hd]
    rcases hfc with ⟨_, h⟩ | ⟨h1, h2, h3⟩
    · have := h day ((hSm day).2 (.inl rfl)); omega
    · rcases (hSm _).1 h1 with e | e
      · exact e.symm
      · obtain ⟨p, _, hp1, _, hp3⟩ := (hdue _).1 e
        have := h3 hsorted day ((hSm day).2 (.inl rfl)) (by omega)
        omega
  simp [hd]
  let bad : Nat → Int → Prop := fun k d => ∃ i : Nat, ∃ h : i < l.length, i < k ∧ d = l[i].due + 1 ∧ day < d ∧ d ≤ 100000 ∧ coverF t l d < t.loan
  refine EvP.forLoop (α := Nat × Int) (fun q vr vo => q.1 ≤ l.length ∧ vr = [.int q.2, .int q.1] ∧ vo = [] ∧ ((q.2 = -1 ∧ ∀ d, ¬ bad q.1 d) ∨ (bad q.1 q.2 ∧ ∀ d, bad q.1 d → q.2 ≤ d))) (fun q => l.length - q.1) (0, -1) ⟨by omega, by simp, rfl, .inl ⟨rfl, fun d ⟨i, _, h, _⟩ => by omega⟩⟩ ?_
  rintro ⟨m, b⟩ vr vo ⟨hm, rfl, rfl, hb⟩
  simp only at hm hb
  by_cases hlt : m < l.length
  · have hp := plOK_iff.1 (hc.2.2.2 l[m] (List.getElem_mem hlt))
    have hw : IntKind.i64.wrap ((m : Int) + 1) = ((m + 1 : Nat) : Int) := by rw [wrap64_id (by omega)]; omega
    have hw2 : IntKind.i64.wrap (l[m].due + 1) = l[m].due + 1 := wrap64_id (by omega)
    have step : ∀ d, bad (m + 1) d ↔ bad m d ∨ (d = l[m].due + 1 ∧ day < d ∧ d ≤ 100000 ∧ coverF t l d < t.loan) := fun d => by
      constructor
      · rintro ⟨i, h, h1, h2⟩
        by_cases e : i = m
        · subst e; exact .inr h2
        · exact .inl ⟨i, h, by omega, h2⟩
      · rintro (⟨i, h, h1, h2⟩ | h2)
        · exact ⟨i, h, by omega, h2⟩
        · exact ⟨m, hlt, by omega, h2⟩
    have hbpos : ∀ d, bad m d → 0 < d := fun d ⟨i, h, h1, h2, h3, _⟩ => by omega
    obtain ⟨d, hdd⟩ : ∃ d, d = l[m].due + 1 := ⟨_, rfl⟩
    simp only [rd17_0_eq, rd17_0]
    rw [← hdd] at hw2
    have hw2' : IntKind.i64.wrap (l[m].due + 1) = d := by rw [← hdd]; exact hw2
    -- is it looked at?
    by_cases g1 : day < d
    case neg =>
      simp [hlt, hw2', g1]
      refine ⟨m + 1, by omega, by omega, b, ⟨rfl, hw⟩, ?_⟩
      rcases hb with ⟨e, h⟩ | ⟨h1, h2⟩
      · exact .inl ⟨e, fun x hx => ((step x).1 hx).elim (h x) fun h' => by omega⟩
      · exact .inr ⟨(step b).2 (.inl h1), fun x hx => ((step x).1 hx).elim (h2 x) fun h' => by omega⟩
    by_cases g2 : d ≤ 100000
    case neg =>
      simp [hlt, hw2', g1, g2]
      refine ⟨m + 1, by omega, by omega, b, ⟨rfl, hw⟩, ?_⟩
      rcases hb with ⟨e, h⟩ | ⟨h1, h2⟩
      · exact .inl ⟨e, fun x hx => ((step x).1 hx).elim (h x) fun h' => by omega⟩
      · exact .inr ⟨(step b).2 (.inl h1), fun x hx => ((step x).1 hx).elim (h2 x) fun h' => by omega⟩
    rcases hb with ⟨rfl, h⟩ | ⟨h1, h2⟩
    · simp [hlt, hw2', g1, g2]
      refine ⟨_, rsum_runs t l d (by omega), ?_⟩
      by_cases g3 : coverF t l d < t.loan
      · refine ⟨m + 1, by omega, by omega, d, ⟨by simp [g3], hw⟩, .inr ⟨(step d).2 (.inr ⟨hdd, g1, g2, g3⟩), fun x hx => ?_⟩⟩
        rcases (step x).1 hx with h' | ⟨h', _⟩
        · exact absurd h' (h x)
        · omega
      · refine ⟨m + 1, by omega, by omega, -1, ⟨by simp [g3], hw⟩, .inl ⟨rfl, fun x hx => ?_⟩⟩
        rcases (step x).1 hx with h' | ⟨h', _, _, h''⟩
        · exact absurd h' (h x)
        · rw [h', ← hdd] at h''; exact g3 h''
    · have hbn : ¬ b = -1 := by have := hbpos b h1; omega
      by_cases g4 : d < b
      · simp [hlt, hw2', g1, g2, hbn, g4]
        refine ⟨_, rsum_runs t l d (by omega), ?_⟩
        by_cases g3 : coverF t l d < t.loan
        · refine ⟨m + 1, by omega, by omega, d, ⟨by simp [g3], hw⟩, .inr ⟨(step d).2 (.inr ⟨hdd, g1, g2, g3⟩), fun x hx => ?_⟩⟩
          rcases (step x).1 hx with h' | ⟨h', _⟩
          · have := h2 x h'; omega
          · omega
        · refine ⟨m + 1, by omega, by omega, b, ⟨by simp [g3], hw⟩, .inr ⟨(step b).2 (.inl h1), fun x hx => ?_⟩⟩
          rcases (step x).1 hx with h' | ⟨h', _, _, h''⟩
          · exact h2 x h'
          · rw [h', ← hdd] at h''; exact absurd h'' g3
      · simp [hlt, hw2', g1, g2, hbn, g4]
        refine ⟨m + 1, by omega, by omega, b, ⟨rfl, hw⟩, .inr ⟨(step b).2 (.inl h1), fun x hx => ?_⟩⟩
        rcases (step x).1 hx with h' | ⟨h', _⟩
        · exact h2 x h'
        · omega
  · obtain rfl : m = l.length := by omega
    have hbad : ∀ d, bad l.length d ↔ (d ∈ dueF l day ∧ coverF t l d < t.loan) := fun d => by
      rw [hdue]
      constructor
      · rintro ⟨i, h, _, h1, h2, h3, h4⟩
        exact ⟨⟨l[i], List.getElem_mem h, by omega, by omega, h1⟩, h4⟩
      · rintro ⟨⟨p, hp, h1, h2, h3⟩, h4⟩
        obtain ⟨i, hi, rfl⟩ := List.getElem_of_mem hp
        exact ⟨i, hi, hi, h3, by omega, by omega, h4⟩
    simp only [rd17_0_eq, rd17_0]
    simp
    rcases hb with ⟨rfl, h⟩ | ⟨h1, h2⟩
    · rcases hfc with ⟨e, _⟩ | ⟨f1, f2, f3⟩
      · exact e.symm
      · rcases (hSm _).1 f1 with e | e
        · rw [e] at f2; exact absurd f2 hd
        · exact absurd ((hbad _).2 ⟨e, f2⟩) (h _)
    · have hb1 := (hbad b).1 h1
      rcases hfc with ⟨_, f⟩ | ⟨f1, f2, f3⟩
      · have := f b ((hSm b).2 (.inr hb1.1)); omega
      · rcases (hSm _).1 f1 with e | e
        · rw [e] at f2; exact absurd f2 hd
        · have g1 := h2 _ ((hbad _).2 ⟨e, f2⟩)
          by_cases g2 : b < firstF t l (insSort (daysF l day))
          · have := f3 hsorted b ((hSm b).2 (.inr hb1.1)) g2; omega
          · omega
end Pool
