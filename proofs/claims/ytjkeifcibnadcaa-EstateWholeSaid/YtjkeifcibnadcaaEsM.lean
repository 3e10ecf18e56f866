/-
  EstateWhole.
-/
import Derived.Test.YtjkeifcibnadcaaEsL
set_option linter.unusedSimpArgs false
set_option linter.unusedVariables false
namespace Esta
open Go Go.Proofs Cx

def leftL (es : List Est) (st : Stt) : List Int := es.mapIdx fun i x => x.pot - outOf st i
set_option maxHeartbeats 8000000 in
theorem whole8_runs (es : List Est) (ws : List Int) (ps : List Pr) : Runs T 8 [ests es, ints ws, prs ps] (.bool true) := by
  refine .of_tree rfl rfl tr8_eq ?_
  obtain ⟨bf, hfew, hfew2⟩ := few_runs es ws ps
  simp [tr8]
  refine ⟨_, sane_runs, _, hfew, ?_⟩
  cases bf with
  | false => simp
  | true =>
  obtain ⟨q1, q2, q3⟩ := hfew2 rfl
  simp
  refine ⟨_, right_runs es ws ps, ?_⟩
  cases hr : rightF es ws ps with
  | false => simp
  | true =>
  have hsr := share_runs es ws ps
  rw [if_pos hr] at hsr
  have hpr := paid_runs es ws ps hr
  have hf := share_fine hr
  obtain ⟨f1, f2, f3, f4, f5⟩ := rightF_facts hr
  have h100 := f3.len
  have h50 := f3.wlen
  have hout : ∀ i (hi : i < es.length), outOf (shareF es ws ps) i ≤ es[i].pot := fun i hi => by
    have := (share_out ws (es.map (·.pot)) 0 f5 fun p hp => by
      obtain ⟨x, hx, rfl⟩ := List.mem_map.1 hp
      exact (f2 x hx).1).2 i (by simpa using hi)
    rw [outOf_start] at this
    have e0 : (0 : Int) + (i : Int) = i := by omega
    rw [e0] at this
    simpa [shareF] using this
  have hlen := hf.len
  generalize shareF es ws ps = st at *
  have hlr := left_runs es ps (outL st) (by omega) (by omega) (by simp; omega)
  have hle : (es.mapIdx fun i x => leftW ps (outL st) x.pot i) = leftL es st := by
    apply List.ext_getElem
    · simp [leftL]
    · intro i h1 h2
      have hi : i < es.length := by simpa using h1
      simp only [leftL, List.getElem_mapIdx]
      exact left_out hf _ _ (f2 _ (List.getElem_mem hi))
  rw [hle] at hlr
  simp
  refine ⟨_, hpr, _, hsr, ?_⟩
  simp
  refine ⟨_, hlr, ?_⟩
  have hll : (leftL es st).length = es.length := by simp [leftL]
  have hpl : (paidL st).length = st.length := by simp [paidL]
  have hpg : ∀ k (hk : k < st.length), (paidL st)[k]'(by rw [hpl]; exact hk) = st[k].2 := fun k hk => by simp [paidL]
  have hpsg : ∀ k (hk : k < st.length), ps[k]'(by rw [← hlen]; exact hk) = st[k].1 := fun k hk => by have := hf.fst; subst this; simp
  simp [hll]
  refine EvP.forRounds st.length (fun k => [.bool false, .int k]) (fun k => []) ?_ (fun k hk => ?_) ?_
  · simp
  · have hw : IntKind.i64.wrap ((k : Int) + 1) = (k : Int) + 1 := wrap64_id (by omega)
    have hk2 : k < ps.length := by omega
    have hle2 := hf.good.high st[k] (List.getElem_mem hk)
    have hle3 : ¬ st[k].1.sum < st[k].2 := by omega
    simp [rd8_0_eq, rd8_0, hk, hk2, hw, hpl, hpg, hpsg, hle3]
  simp [rd8_0_eq, rd8_0, hpl]
  refine EvP.forRounds ws.length (fun k => [.bool false, .int k]) (fun k => []) ?_ (fun b hb => ?_) ?_
  · simp
  · have hw : IntKind.i64.wrap ((b : Int) + 1) = (b : Int) + 1 := wrap64_id (by omega)
    simp [rd8_2_eq, rd8_2, hb, hw]
    refine EvP.forRounds st.length (fun k => [.int ((st.take k).map fun x : Pr × Int => if x.1.bill = (b : Int) then x.2 else 0).sum, .int k]) (fun k => []) ?_ (fun k hk => ?_) ?_
    · simp
    · have hwk : IntKind.i64.wrap ((k : Int) + 1) = (k : Int) + 1 := wrap64_id (by omega)
      have hk2 : k < ps.length := by omega
      rw [sum_take _ st k hk]
      have h1 := sum_bound (f := fun x : Pr × Int => if x.1.bill = (b : Int) then x.2 else 0) (M := 1099511627776) (l := st.take k) fun x hx => by
        have := hf.b x (List.mem_of_mem_take hx); split <;> omega
      have h2 : (st.take k).length ≤ 100 := by rw [List.length_take]; omega
      have h3 := hf.b st[k] (List.getElem_mem hk)
      generalize ((st.take k).map fun x : Pr × Int => if x.1.bill = (b : Int) then x.2 else 0).sum = z at *
      have hwz : IntKind.i64.wrap (z + st[k].2) = z + st[k].2 := wrap64_id (by omega)
      by_cases c : st[k].1.bill = b <;> simp [rd8_1_eq, rd8_1, hk, hk2, hwk, hpl, hpg, hpsg, c, hwz]
    · have hrc : (st.map fun x => if x.1.bill = (b : Int) then x.2 else 0).sum = rcv st b := rfl
      have hrb := hf.good.rcv b hb
      rw [List.take_length, hrc]
      have hrr := received_runs ps (outL st) b (by omega) (by simp; omega)
      rw [recv_out hf] at hrr
      have hwg : ws[b] = ws.getD b 0 := by simp [hb]
      have hnl : rcv st b ≤ ws[b] := by omega
      simp [rd8_1_eq, rd8_1, hpl, hb, hnl]
      refine ⟨_, hrr, ?_⟩
      simp
  simp [rd8_2_eq, rd8_2]
  refine EvP.forRounds es.length (fun k => [.bool false, .int k]) (fun k => []) ?_ (fun i hi => ?_) ?_
  · simp
  · have hw : IntKind.i64.wrap ((i : Int) + 1) = (i : Int) + 1 := wrap64_id (by omega)
    simp [rd8_4_eq, rd8_4, hi, hw]
    have hpot := f2 es[i] (List.getElem_mem hi)
    refine EvP.forRounds st.length (fun k => [.int (es[i].pot - ((st.take k).map fun x : Pr × Int => if x.1.est = (i : Int) then x.2 else 0).sum), .int k]) (fun k => []) ?_ (fun k hk => ?_) ?_
    · simp [hi]
    · have hwk : IntKind.i64.wrap ((k : Int) + 1) = (k : Int) + 1 := wrap64_id (by omega)
      have hk2 : k < ps.length := by omega
      rw [sum_take _ st k hk]
      have h1 := sum_bound (f := fun x : Pr × Int => if x.1.est = (i : Int) then x.2 else 0) (M := 1099511627776) (l := st.take k) fun x hx => by
        have := hf.b x (List.mem_of_mem_take hx); split <;> omega
      have h2 : (st.take k).length ≤ 100 := by rw [List.length_take]; omega
      have h3 := hf.b st[k] (List.getElem_mem hk)
      generalize ((st.take k).map fun x : Pr × Int => if x.1.est = (i : Int) then x.2 else 0).sum = z at *
      have hwz : IntKind.i64.wrap (es[i].pot - z - st[k].2) = es[i].pot - (z + st[k].2) := by rw [wrap64_id (by omega)]; omega
      by_cases c : st[k].1.est = i <;> simp [rd8_3_eq, rd8_3, hk, hk2, hwk, hpl, hpg, hpsg, c, hwz]
    · have hrc : (st.map fun x => if x.1.est = (i : Int) then x.2 else 0).sum = outOf st i := rfl
      rw [List.take_length, hrc]
      have ho := hout i hi
      have hn0 : ¬ es[i].pot - outOf st i < 0 := by omega
      have hlg : (leftL es st)[i]'(by rw [hll]; exact hi) = es[i].pot - outOf st i := by simp [leftL]
      simp [rd8_3_eq, rd8_3, hpl, hi, hn0, hll, hlg, hw]
      exact ho
  simp [rd8_4_eq, rd8_4]
end Esta
