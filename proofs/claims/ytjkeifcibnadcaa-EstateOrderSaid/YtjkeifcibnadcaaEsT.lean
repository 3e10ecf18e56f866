/-
  EstateOrder: the walk.
-/
import Derived.Test.YtjkeifcibnadcaaEsS
set_option linter.unusedSimpArgs false
set_option linter.unusedVariables false
namespace Esta
open Go Go.Proofs Cx

theorem same15_runs (l : List Int) (hl : l.length ≤ 100000) : Runs T 15 [ints l, ints l] (.bool true) := by
  refine .of_tree rfl rfl tr15_eq ?_
  simp [tr15]
  refine EvP.forRounds l.length (fun k => [.bool false, .int k]) (fun _ => []) ?_ (fun k hk => ?_) ?_
  · simp
  · have hw : IntKind.i64.wrap ((k : Int) + 1) = (k : Int) + 1 := wrap64_id (by omega)
    simp [rd15_0_eq, rd15_0, hk, hw]
  · simp [rd15_0_eq, rd15_0]

theorem paidL_drp (g : Int) (st : Stt) : paidL (drp g st) = (st.filter fun x => decide (x.1.est ≠ g)).map (·.2) := rfl
set_option maxHeartbeats 8000000 in
theorem order10_runs (es : List Est) (ws : List Int) (ps : List Pr) (first : Int) : Runs T 10 [ests es, ints ws, prs ps, .int first] (.bool true) := by
  refine .of_tree rfl rfl tr10_eq ?_
  obtain ⟨bf, hfew, hfew2⟩ := few_runs es ws ps
  simp [tr10]
  refine ⟨_, sane_runs, _, hfew, ?_⟩
  cases bf with
  | false => simp
  | true =>
  obtain ⟨q1, q2, q3⟩ := hfew2 rfl
  simp
  refine ⟨_, right_runs es ws ps, ?_⟩
  cases hr : rightF es ws ps with
  | false => simp
  | true =>
  simp
  intro c1 c2 c3
  have hne : 0 < es.length := List.length_pos_iff.2 c3
  obtain ⟨n, rfl⟩ := Int.eq_ofNat_of_zero_le c1
  have hn : n ≤ ps.length := by omega
  have hpr := paid_runs es ws ps hr
  have hr2 := rot_right n hr
  have hpr2 := paid_runs es ws (rot n ps) hr2
  rw [rot_shareF] at hpr2
  have hr3 := less_right hr hne
  have hpr3 := paid_runs _ ws _ hr3
  rw [less_shareF hr hne] at hpr3
  have hf := share_fine hr
  obtain ⟨f1, f2, f3, f4, f5⟩ := rightF_facts hr
  have h100 := f3.len
  have hlen := hf.len
  generalize shareF es ws ps = st at *
  have hpl : (paidL st).length = st.length := by simp [paidL]
  have hpl2 : (paidL (rot n st)).length = st.length := by simp [paidL, (rot_perm n st).length_eq]
  have hpg : ∀ k (hk : k < st.length), (paidL st)[k]'(by rw [hpl]; exact hk) = st[k].2 := fun k hk => by simp [paidL]
  have hpsg : ∀ k (hk : k < st.length), ps[k]'(by rw [← hlen]; exact hk) = st[k].1 := fun k hk => by have := hf.fst; subst this; simp
  have hturn : D.list (List.drop (n : Int).toNat (List.take ps.length (ps.map encP)) ++ List.take (n : Int).toNat (ps.map encP)) = prs (rot n ps) := by
    rw [List.take_of_length_le (by simp), Int.toNat_natCast]; unfold prs; rw [rot_map]; rfl
  rw [hturn]
  refine ⟨by omega, by omega, by omega, by omega, _, hpr, _, hpr2, ?_⟩
  simp
  refine EvP.forRounds st.length (fun k => [.bool false, .none, .none, .int k]) (fun k => [prs (lessP ((es.length : Int) - 1) (ps.take k)), ints (paidL (drp ((es.length : Int) - 1) (st.take k)))]) ?_ (fun k hk => ?_) ?_
  · simp [lessP, drp, paidL, prs, ints]
  · have hw : IntKind.i64.wrap ((k : Int) + 1) = (k : Int) + 1 := wrap64_id (by omega)
    have hk2 : k < ps.length := by omega
    have hwn : IntKind.i64.wrap ((k : Int) + (n : Int)) = (k : Int) + n := wrap64_id (by omega)
    have hwe : IntKind.i64.wrap ((es.length : Int) - 1) = (es.length : Int) - 1 := wrap64_id (by omega)
    have hmod : ((k : Int) + (n : Int)).tmod (ps.length : Int) = (((k + n) % ps.length : Nat) : Int) := by
      rw [Int.tmod_eq_emod_of_nonneg (by omega), ← Int.natCast_add, ← Int.natCast_emod]
    have hml : (k + n) % ps.length < ps.length := Nat.mod_lt _ (by omega)
    have hrot : (paidL (rot n st))[k]'(by rw [hpl2]; exact hk) = (paidL st)[(k + n) % ps.length]'(by omega) := by
      have := rot_at n st (by omega) k hk
      simp only [paidL, List.getElem_map, this, hlen]
    have hlL : (lessP ((es.length : Int) - 1) (ps.take k)).length ≤ 100 := Nat.le_trans (List.length_filter_le ..) (by rw [List.length_take]; omega)
    have hlD : (paidL (drp ((es.length : Int) - 1) (st.take k))).length ≤ 100 := by
      unfold paidL
      rw [List.length_map]
      exact Nat.le_trans (List.length_filter_le ..) (by rw [List.length_take]; omega)
    have hL1 : lessP ((es.length : Int) - 1) (ps.take (k + 1)) = if st[k].1.est = (es.length : Int) - 1 then lessP ((es.length : Int) - 1) (ps.take k) else lessP ((es.length : Int) - 1) (ps.take k) ++ [st[k].1] := by
      unfold lessP
      rw [List.take_succ_eq_append_getElem hk2, List.filter_append, hpsg k hk]
      by_cases c : st[k].1.est = (es.length : Int) - 1 <;> simp [c]
    have hD1 : paidL (drp ((es.length : Int) - 1) (st.take (k + 1))) = if st[k].1.est = (es.length : Int) - 1 then paidL (drp ((es.length : Int) - 1) (st.take k)) else paidL (drp ((es.length : Int) - 1) (st.take k)) ++ [st[k].2] := by
      unfold paidL drp
      rw [List.take_succ_eq_append_getElem hk, List.filter_append, List.map_append]
      by_cases c : st[k].1.est = (es.length : Int) - 1 <;> simp [c]
    rw [hL1, hD1]
    generalize lessP ((es.length : Int) - 1) (ps.take k) = LL at *
    generalize paidL (drp ((es.length : Int) - 1) (st.take k)) = DD at *
    have hmod2 : ((k : Int) + (n : Int)) % (ps.length : Int) = (((k + n) % ps.length : Nat) : Int) := by
      rw [← Int.natCast_add, ← Int.natCast_emod]
    have hps : ¬ ps = [] := fun h => by rw [h] at hk2; simp at hk2
    have hml2 : (k + n) % ps.length < (paidL st).length := by omega
    simp [rd10_0_eq, rd10_0, hk, hk2, hw, hwn, hwe, hmod, hrot, hpl, hpl2, hpg, hpsg, hlen]
    rw [hmod2, Int.toNat_natCast, List.getElem?_eq_getElem hml2]
    refine ⟨hps, ⟨by omega, by omega⟩, rfl, ?_⟩
    by_cases c : st[k].1.est = (es.length : Int) - 1
    · simp [c]
    · simp [c, prs, ints]
      omega
  · rw [hlen, List.take_length, ← hlen, List.take_length]
    have hwe : IntKind.i64.wrap ((es.length : Int) - 1) = (es.length : Int) - 1 := wrap64_id (by omega)
    have hte : D.list (List.take (es.length - 1) (es.map encE)) = ests (es.take (es.length - 1)) := by unfold ests; rw [List.map_take]
    have hdl : (paidL (drp ((es.length : Int) - 1) st)).length ≤ 100 := by
      unfold paidL
      rw [List.length_map]
      exact Nat.le_trans (List.length_filter_le ..) (by omega)
    simp [rd10_0_eq, rd10_0, hwe, hlen]
    rw [hte]
    refine ⟨by omega, _, hpr3, ?_⟩
    simp
    exact same15_runs _ (by omega)
end Esta
