/-
  The reference: Terms, Right, Check, Value, Sum, Cover, Swap, Same.
-/
import Derived.Test.YtaihcmbfhgmjgaaPoT
import Derived.Test.YtaihcmbfhgmjgaaPoH
set_option linter.unusedSimpArgs false
set_option linter.unusedVariables false
namespace Pool
open Go Go.Proofs Cx

theorem rterms_runs (t : Tm) : Runs T 38 [encT t] (.bool (tmOK t)) := by
  refine .of_tree rfl rfl tr38_eq ?_
  simp [tr38, tmOK, wi]
  by_cases h1 : 0 ≤ t.loan
  case neg => have : t.loan < 0 := by omega
              simp [h1, this]
  have h1' : ¬ t.loan < 0 := by omega
  by_cases h2 : t.loan ≤ 1099511627776
  case neg => have : 1099511627776 < t.loan := by omega
              simp [h1, h1', h2, this]
  have h2' : ¬ 1099511627776 < t.loan := by omega
  by_cases h3 : 0 ≤ t.price
  case neg => have : t.price < 0 := by omega
              simp [h1, h1', h2, h2', h3, this]
  have h3' : ¬ t.price < 0 := by omega
  by_cases h4 : t.price ≤ 1099511627776
  case neg => have : 1099511627776 < t.price := by omega
              simp [h1, h1', h2, h2', h3, h3', h4, this]
  have h4' : ¬ 1099511627776 < t.price := by omega
  by_cases h5 : 0 ≤ t.hc
  case neg => have : t.hc < 0 := by omega
              simp [h1, h1', h2, h2', h3, h3', h4, h4', h5, this]
  have h5' : ¬ t.hc < 0 := by omega
  by_cases h6 : t.hc ≤ 1000
  case neg => have : 1000 < t.hc := by omega
              simp [h1, h1', h2, h2', h3, h3', h4, h4', h5, h5', h6, this]
  have h6' : ¬ 1000 < t.hc := by omega
  simp [h1, h1', h2, h2', h3, h3', h4, h4', h5, h5', h6, h6']
  by_cases h7 : 0 ≤ t.days <;> by_cases h8 : t.days ≤ 20000 <;> by_cases h9 : 0 ≤ t.signs <;> simp [h7, h8, h9]
theorem rright_runs (p : Pl) : Runs T 39 [encP p] (.bool (plOK p)) := by
  refine .of_tree rfl rfl tr39_eq ?_
  simp [tr39, plOK, wi]
  by_cases h1 : 0 ≤ p.price <;> by_cases h2 : p.price ≤ 1099511627776 <;> by_cases h3 : 0 ≤ p.due <;> by_cases h4 : p.due ≤ 100000 <;> by_cases h5 : 0 ≤ p.signs <;> simp [h1, h2, h3, h4, h5]

theorem rcheck_runs (t : Tm) (l : List Pl) (day : Int) (hl : l.length ≤ maxLen) : Runs T 19 [encT t, pls l, .int day] (.int (checkF t l day)) := by
  refine .of_tree rfl rfl tr19_eq ?_
  by_cases h : 50 < l.length
  · have h' : (50 : Int) < l.length := by omega
    simp [tr19, checkF, h, h']
  have h' : ¬ (50 : Int) < l.length := by omega
  simp [tr19, checkF, h, h']
  refine ⟨_, rterms_runs t, ?_⟩
  simp [wi]
  by_cases h1 : tmOK t = true
  case neg => simp [h1]
  by_cases h2 : day < 0
  · have : ¬ 0 ≤ day := by omega
    simp [h1, h2, this]
  by_cases h3 : 100000 < day
  · have : ¬ day ≤ 100000 := by omega
    simp [h1, h2, h3, this]
  have h2' : 0 ≤ day := by omega
  have h3' : day ≤ 100000 := by omega
  simp [h1, h2, h3, h2', h3']
  refine EvP.scan l.length (fun k => plOK (l.getD k default) = true) (fun k => [.int 0, .int k]) (fun _ => []) ?_ (fun k hk hj ho => ?_) (fun k hk hj ho => ?_) (fun hj => ?_)
  · simp
  · have hw : IntKind.i64.wrap ((k : Int) + 1) = (k : Int) + 1 := wrap64_id (by omega)
    simp [hk] at ho
    simp [rd19_0_eq, rd19_0, hk, hw]
    refine ⟨_, rright_runs _, ?_⟩
    simp [ho, hw]
  · simp [hk] at ho
    simp [rd19_0_eq, rd19_0, hk]
    refine ⟨_, rright_runs _, ?_⟩
    simp [ho]
    exact ⟨l[k], List.getElem_mem hk, ho⟩
  · simp [rd19_0_eq, rd19_0]
    intro p hp
    obtain ⟨j, hjl, rfl⟩ := List.getElem_of_mem hp
    have := hj j hjl
    rwa [List.getD_eq_getElem?_getD, List.getElem?_eq_getElem hjl] at this

theorem rvalue_runs (t : Tm) (p : Pl) (day : Int) : Runs T 23 [encT t, encP p, .int day] (.int (valF t p day)) := by
  refine .of_tree rfl rfl tr23_eq ?_
  simp [tr23]
  refine ⟨_, rterms_runs t, ?_⟩
  simp
  by_cases h1 : tmOK t = true
  case neg => simp [h1, valF]
  simp [h1]
  refine ⟨_, rright_runs p, ?_⟩
  simp
  by_cases h2 : plOK p = true
  case neg => simp [h2, valF]
  by_cases h3 : day < 0
  · have : ¬ 0 ≤ day := by omega
    simp [h1, h2, h3, valF, wi, this]
  by_cases h4 : 100000 < day
  · have : ¬ day ≤ 100000 := by omega
    simp [h1, h2, h3, h4, valF, wi, this]
  have h3' : 0 ≤ day := by omega
  have h4' : day ≤ 100000 := by omega
  have ht := tmOK_iff.1 h1
  have hp := plOK_iff.1 h2
  have hw0 : IntKind.i64.wrap (p.due - day) = p.due - day := wrap64_id (by omega)
  have e1 : 0 ≤ p.price * (1000 - t.hc) := Int.mul_nonneg hp.1.1 (by omega)
  have e2 : p.price * (1000 - t.hc) ≤ p.price * 1000 := Int.mul_le_mul_of_nonneg_left (by omega) hp.1.1
  have hw1 : IntKind.i64.wrap (1000 - t.hc) = 1000 - t.hc := wrap64_id (by omega)
  have hw2 : IntKind.i64.wrap (p.price * (1000 - t.hc)) = p.price * (1000 - t.hc) := wrap64_id (by omega)
  have hq : (p.price * (1000 - t.hc)).tdiv 1000 = p.price * (1000 - t.hc) / 1000 := Int.tdiv_eq_ediv_of_nonneg e1
  have hw3 : IntKind.i64.wrap (p.price * (1000 - t.hc) / 1000) = p.price * (1000 - t.hc) / 1000 := wrap64_id (by omega)
  by_cases c1 : p.price < t.price
  · simp [h1, h2, h3, h4, h3', h4', valF, wi, c1]
  by_cases c2 : p.signs < t.signs
  · simp [h1, h2, h3, h4, h3', h4', valF, wi, c1, c2]
  by_cases c3 : p.due < day
  · simp [h1, h2, h3, h4, h3', h4', valF, wi, c1, c2, c3]
  by_cases c4 : day + t.days < p.due
  · have c4' : t.days < p.due - day := by omega
    simp [h1, h2, h3, h4, h3', h4', valF, wi, c1, c2, c3, hw0, c4, c4']
  · have c4' : ¬ t.days < p.due - day := by omega
    simp [h1, h2, h3, h4, h3', h4', valF, wi, c1, c2, c3, hw0, c4, c4', hw1, hw2, hq, hw3]

theorem rsum_runs (t : Tm) (l : List Pl) (day : Int) (hl : l.length ≤ 1000000) : Runs T 28 [encT t, pls l, .int day] (.int (coverF t l day)) := by
  refine .of_tree rfl rfl tr28_eq ?_
  simp [tr28]
  refine EvP.forRounds l.length (fun k => [.int (coverF t (l.take k) day), .int k]) (fun k => []) ?_ (fun k hk => ?_) ?_
  · simp [coverF]
  · have hw : IntKind.i64.wrap ((k : Int) + 1) = (k : Int) + 1 := wrap64_id (by omega)
    have hs : coverF t (l.take (k + 1)) day = coverF t (l.take k) day + valF t l[k] day := by
      rw [List.take_succ_eq_append_getElem hk, cover_append]; simp [coverF]
    have hb := cover_bounds t (l.take k) day
    have hv := val_bounds t l[k] day
    have hlen : (l.take k).length ≤ 1000000 := by rw [List.length_take]; omega
    have hw2 : IntKind.i64.wrap (coverF t (l.take k) day + valF t l[k] day) = coverF t (l.take k) day + valF t l[k] day := wrap64_id (by omega)
    rw [hs]
    simp [rd28_0_eq, rd28_0, hk, hw]
    refine ⟨_, rvalue_runs t _ day, ?_⟩
    simp [hw, hw2]
  · simp [rd28_0_eq, rd28_0]

theorem rcover_runs (t : Tm) (l : List Pl) (day : Int) (hl : l.length ≤ maxLen) : Runs T 11 [encT t, pls l, .int day] (if checkF t l day = 0 then .tup [.int (coverF t l day), .int 0] else .tup [.int 0, .int (checkF t l day)]) := by
  refine .of_tree rfl rfl tr11_eq ?_
  simp [tr11]
  refine ⟨_, rcheck_runs t l day hl, ?_⟩
  by_cases h : checkF t l day = 0
  · have hc := check_zero.1 h
    simp [h]
    exact rsum_runs t l day (by omega)
  · simp [h]

theorem rsame_runs (l : List Int) (hl : l.length ≤ 1000000) : Runs T 21 [ints l, ints l] (.bool true) := by
  refine .of_tree rfl rfl tr21_eq ?_
  simp [tr21]
  refine EvP.forRounds l.length (fun k => [.bool false, .int k]) (fun _ => []) ?_ (fun k hk => ?_) ?_
  · simp
  · have hw : IntKind.i64.wrap ((k : Int) + 1) = (k : Int) + 1 := wrap64_id (by omega)
    simp [rd21_0_eq, rd21_0, hk, hw, ints]
  · simp [rd21_0_eq, rd21_0]

set_option maxHeartbeats 2000000 in
theorem rswap_runs (t : Tm) (l : List Pl) (day : Int) (out : List Int) (inn : List Pl) (hl : l.length ≤ maxLen) (ho : out.length ≤ 1000) (hi : inn.length ≤ 1000) :
    Runs T 13 [encT t, pls l, .int day, ints out, pls inn] (.tup [pls (swapF t l day out inn).1, .int (swapF t l day out inn).2]) := by
  refine .of_tree rfl rfl tr13_eq ?_
  simp [tr13]
  refine ⟨_, rcheck_runs t l day hl, ?_⟩
  by_cases c1 : checkF t l day = 0
  case neg => simp [c1, swapF, pls]
  have hc := check_zero.1 c1
  simp [c1]
  refine EvP.scan out.length (fun k => okAt l.length out k = true) (fun k => [.list [], .int 0, .int k]) (fun _ => []) ?_ (fun k hk hj hok => ?_) (fun k hk hj hok => ?_) (fun hj => ?_)
  · simp
  · have hw : IntKind.i64.wrap ((k : Int) + 1) = (k : Int) + 1 := wrap64_id (by omega)
    have hw2 : 0 < k → IntKind.i64.wrap ((k : Int) - 1) = ((k - 1 : Nat) : Int) := fun h => by rw [wrap64_id (by omega)]; omega
    simp [okAt, hk] at hok
    obtain ⟨⟨h1, h2⟩, h3⟩ := hok
    have h1' : ¬ out[k] < 0 := by omega
    have h2' : ¬ (l.length : Int) ≤ out[k] := by omega
    by_cases hk0 : 0 < k
    · have hk1 : k - 1 < out.length := by omega
      have h3' : ¬ out[k] ≤ out[k - 1] := by
        rcases h3 with h3 | h3
        · omega
        · simp [hk1] at h3; omega
      simp [rd13_0_eq, rd13_0, hk, hw, hw2 hk0, ints, h1, h2, h1', h2', h3', hk0, hk1]
    · simp [rd13_0_eq, rd13_0, hk, hw, ints, h1, h2, h1', h2', hk0]
  · have hw2 : 0 < k → IntKind.i64.wrap ((k : Int) - 1) = ((k - 1 : Nat) : Int) := fun h => by rw [wrap64_id (by omega)]; omega
    have hr : rises l.length out = false := rises_false hk hok
    have hf : swapF t l day out inn = ([], 4) := by simp [swapF, c1, hr]
    rw [hf]
    simp [okAt, hk] at hok
    by_cases h1 : out[k] < 0
    · simp [rd13_0_eq, rd13_0, hk, ints, h1, pls]
    by_cases h2 : (l.length : Int) ≤ out[k]
    · simp [rd13_0_eq, rd13_0, hk, ints, h1, h2, pls]
    have hok' := hok (by omega) (by omega)
    have hk0 : 0 < k := by omega
    have hk1 : k - 1 < out.length := by omega
    have h3 := hok'.2
    simp [hk1] at h3
    simp [rd13_0_eq, rd13_0, hk, hw2 hk0, ints, h1, h2, h3, hk0, hk1, pls]
  · have hr : rises l.length out = true := rises_true hj
    simp [rd13_0_eq, rd13_0]
    refine ⟨_, without_runs l out (by omega) (by omega), ?_⟩
    have hlen := woF_len l out
    have hlen3 : (woF l out ++ inn).length ≤ 1100 := by rw [List.length_append]; omega
    have e1 : pls (woF l out ++ inn) = .list ((woF l out ++ inn).map encP) := rfl
    unfold swapF
    rw [hr]
    simp [c1]
    generalize hw : woF l out ++ inn = want at *
    have e2 : (woF l out).map encP ++ inn.map encP = want.map encP := by rw [← hw, List.map_append]
    refine ⟨by rw [← hw, List.length_append] at hlen3; omega, _, rcheck_runs t want day (by rw [maxLen_eq]; omega), ?_⟩
    by_cases c2 : checkF t want day = 0
    case neg => simp [c2, pls]
    simp [c2]
    refine ⟨_, rsum_runs t want day (by omega), ?_⟩
    by_cases c3 : coverF t want day < t.loan <;> simp [c3, pls]
end Pool
