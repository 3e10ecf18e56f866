/-
  EstateLeft: the walk.
-/
import Derived.Test.YtjkeifcibnadcaaEsP
set_option linter.unusedSimpArgs false
set_option linter.unusedVariables false
namespace Esta
open Go Go.Proofs Cx

theorem until_runs (ps : List Pr) (l : List Int) (e : Int) (hl : l.length = ps.length) (hp : ps.length ≤ 1000) : Runs T 38 [prs ps, ints l, .int e] (ints (ps.mapIdx fun i p => if e < p.est then 0 else l.getD i 0)) := by
  refine .of_tree rfl rfl tr38_eq ?_
  simp [tr38]
  refine EvP.forRounds ps.length (fun k => [.none, .int k]) (fun k => [ints ((ps.take k).mapIdx fun i p => if e < p.est then 0 else l.getD i 0)]) ?_ (fun k hk => ?_) ?_
  · simp [ints]
  · have hw : IntKind.i64.wrap ((k : Int) + 1) = (k : Int) + 1 := wrap64_id (by omega)
    have hkl : k < l.length := by omega
    have hlen : ((ps.take k).mapIdx fun i p => if e < p.est then 0 else l.getD i 0).length ≤ 1000 := by simp; omega
    have htk : (ps.take k).length = k := by rw [List.length_take]; omega
    rw [List.take_succ_eq_append_getElem hk, List.mapIdx_append]
    generalize ((ps.take k).mapIdx fun i p => if e < p.est then 0 else l.getD i 0) = L at *
    by_cases c : e < ps[k].est
    · simp [rd38_0_eq, rd38_0, hk, hkl, hw, c, ints]
      omega
    · have hm : min k ps.length = k := by omega
      simp [rd38_0_eq, rd38_0, hk, hkl, hw, c, ints, hm]
      omega
  · simp [rd38_0_eq, rd38_0]

variable {ws : List Int} {ps : List Pr}
theorem lack_runs {S : Stt} (h : Fine ws ps S) (i : Nat) (hi : i < S.length) : Runs T 39 [ints ws, prs ps, ints (paidL S), .int i] (.int (lack ws S S[i])) := by
  refine .of_tree rfl rfl tr39_eq ?_
  have hlen := h.len
  have h100 := h.low.len
  have hpl : (paidL S).length = S.length := by simp [paidL]
  have hpg : ∀ k (hk : k < S.length), (paidL S)[k]'(by rw [hpl]; exact hk) = S[k].2 := fun k hk => by simp [paidL]
  have hpsg : ∀ k (hk : k < S.length), ps[k]'(by rw [← hlen]; exact hk) = S[k].1 := fun k hk => by have := h.fst; subst this; simp
  have hi2 : i < ps.length := by omega
  have hmem : S[i].1 ∈ ps := by rw [← h.fst]; exact List.mem_map_of_mem (List.getElem_mem hi)
  have hb := h.low.bill _ hmem
  have hs := h.low.sum _ hmem
  have hbl : S[i].1.bill.toNat < ws.length := by omega
  have hbe : ((S[i].1.bill.toNat : Nat) : Int) = S[i].1.bill := by omega
  have hwb := h.low.whole _ (List.getElem_mem hbl)
  have hwg : ws.getD S[i].1.bill.toNat 0 = ws[S[i].1.bill.toNat] := by simp [hbl]
  have hlow := h.good.low _ (List.getElem_mem hi)
  have hhigh := h.good.high _ (List.getElem_mem hi)
  have hrc := h.good.rcv _ hbl
  have hr0 := rcv_nonneg h.good S[i].1.bill
  rw [hbe, hwg] at hrc
  simp [tr39, hi2, hpsg i hi, hbl]
  refine ⟨by omega, ?_⟩
  refine EvP.forRounds S.length (fun k => [.int (ws[S[i].1.bill.toNat] - ((S.take k).map fun x : Pr × Int => if x.1.bill = S[i].1.bill then x.2 else 0).sum), .int k]) (fun k => []) ?_ (fun k hk => ?_) ?_
  · simp [hi2, hpsg i hi, hbl]
  · have hwk : IntKind.i64.wrap ((k : Int) + 1) = (k : Int) + 1 := wrap64_id (by omega)
    have hk2 : k < ps.length := by omega
    rw [sum_take _ S k hk]
    have h1 := sum_bound (f := fun x : Pr × Int => if x.1.bill = S[i].1.bill then x.2 else 0) (M := 1099511627776) (l := S.take k) fun x hx => by
      have := h.b x (List.mem_of_mem_take hx); split <;> omega
    have h2 : (S.take k).length ≤ 100 := by rw [List.length_take]; omega
    have h3 := h.b S[k] (List.getElem_mem hk)
    generalize ((S.take k).map fun x : Pr × Int => if x.1.bill = S[i].1.bill then x.2 else 0).sum = z at *
    have hwz : IntKind.i64.wrap (ws[S[i].1.bill.toNat] - z - S[k].2) = ws[S[i].1.bill.toNat] - (z + S[k].2) := by rw [wrap64_id (by omega)]; omega
    by_cases c : S[k].1.bill = S[i].1.bill <;> simp [rd39_0_eq, rd39_0, hk, hk2, hi2, hwk, hpl, hpg, hpsg, c, hwz]
    · exact fun hh => absurd (by rw [hpsg i hi]) hh
    · exact fun hh => absurd (hh.trans (by rw [hpsg i hi])) c
  · have hrs : (S.map fun x : Pr × Int => if x.1.bill = S[i].1.bill then x.2 else 0).sum = rcv S S[i].1.bill := rfl
    rw [List.take_length, hrs]
    have hwd : IntKind.i64.wrap (S[i].1.sum - S[i].2) = S[i].1.sum - S[i].2 := wrap64_id (by omega)
    simp [rd39_0_eq, rd39_0, hlen, hpl, hi2, hi, hpg, hpsg, hwd]
    unfold lack
    rw [hwg]
    split
    · congr 1; omega
    · congr 1; omega

set_option maxHeartbeats 8000000 in
theorem left9_runs (es : List Est) (ws : List Int) (ps : List Pr) : Runs T 9 [ests es, ints ws, prs ps] (.bool true) := by
  refine .of_tree rfl rfl tr9_eq ?_
  obtain ⟨bf, hfew, hfew2⟩ := few_runs es ws ps
  simp [tr9]
  refine ⟨_, sane_runs, _, hfew, ?_⟩
  cases bf with
  | false => simp
  | true =>
  obtain ⟨q1, q2, q3⟩ := hfew2 rfl
  simp
  refine ⟨_, right_runs es ws ps, ?_⟩
  cases hr : rightF es ws ps with
  | false => simp
  | true =>
  have hpr := paid_runs es ws ps hr
  have hf := share_fine hr
  have hdone := fun e he => done_at (es := es) hr e he
  obtain ⟨f1, f2, f3, f4, f5⟩ := rightF_facts hr
  have h100 := f3.len
  have h50 := f3.wlen
  have hlen := hf.len
  generalize shareF es ws ps = st at *
  have hpl : (paidL st).length = st.length := by simp [paidL]
  have hpg : ∀ k (hk : k < st.length), (paidL st)[k]'(by rw [hpl]; exact hk) = st[k].2 := fun k hk => by simp [paidL]
  have hpsg : ∀ k (hk : k < st.length), ps[k]'(by rw [← hlen]; exact hk) = st[k].1 := fun k hk => by have := hf.fst; subst this; simp
  simp
  refine ⟨_, hpr, ?_⟩
  simp
  refine EvP.forRounds es.length (fun k => [.bool false, .int k]) (fun k => []) ?_ (fun e he => ?_) ?_
  · simp
  · have hw : IntKind.i64.wrap ((e : Int) + 1) = (e : Int) + 1 := wrap64_id (by omega)
    obtain ⟨S, left, hd⟩ := hdone e he
    have hpot := f2 es[e] (List.getElem_mem he)
    have hSl := hd.fine.len
    have hun := until_runs ps (paidL st) e (by omega) (by omega)
    have hue : (ps.mapIdx fun i p => if (e : Int) < p.est then 0 else (paidL st).getD i 0) = paidL S := by
      apply List.ext_getElem
      · simp [paidL]; omega
      · intro i h1 h2
        have hi : i < ps.length := by simpa using h1
        have hiS : i < S.length := by omega
        have hist : i < st.length := by omega
        have p1 := hd.past i hi
        have p2 := hd.later i hi
        rw [getD_at st i hist, getD_at S i hiS, getD_at ps i hi] at p1
        rw [getD_at S i hiS, getD_at ps i hi] at p2
        simp only [List.getElem_mapIdx, paidL, List.getElem_map]
        by_cases c : (e : Int) < ps[i].est
        · rw [if_pos c, p2 c]
        · rw [if_neg c]
          have := p1 (by omega)
          simp [hist, this]
    rw [hue] at hun
    have hsame : ∀ i (hi : i < st.length), st[i].1.est = e → S[i]'(by omega) = st[i] := fun i hi hh => by
      have p1 := hd.past i (by omega)
      rw [getD_at st i hi, getD_at S i (by omega), getD_at ps i (by omega), hpsg i hi] at p1
      exact (p1 (by omega)).symm
    have hfstS : ∀ i (hi : i < st.length), (S[i]'(by omega)).1 = st[i].1 := fun i hi => by
      have h1 := getD_fst hd.fine.fst (k := i) (by omega)
      rw [getD_at S i (by omega), getD_at ps i (by omega), hpsg i hi] at h1
      exact h1
    simp [rd9_2_eq, rd9_2, he, hw]
    refine ⟨_, hun, ?_⟩
    refine EvP.forRounds st.length (fun k => [.bool false, .int (es[e].pot - ((st.take k).map fun x : Pr × Int => if x.1.est = (e : Int) then x.2 else 0).sum), .int ((S.take k).map fun x : Pr × Int => if act ws S e x then (1 : Int) else 0).sum, .int k]) (fun k => []) ?_ (fun i hi => ?_) ?_
    · simp [he]
    · have hwk : IntKind.i64.wrap ((i : Int) + 1) = (i : Int) + 1 := wrap64_id (by omega)
      have hi2 : i < ps.length := by omega
      have hiS : i < S.length := by omega
      rw [sum_take _ st i hi, sum_take _ S i hiS]
      have h1 := sum_bound (f := fun x : Pr × Int => if x.1.est = (e : Int) then x.2 else 0) (M := 1099511627776) (l := st.take i) fun x hx => by
        have := hf.b x (List.mem_of_mem_take hx); split <;> omega
      have h2 : (st.take i).length ≤ 100 := by rw [List.length_take]; omega
      have h3 := hf.b st[i] (List.getElem_mem hi)
      have h4 := sum_bound (f := fun x : Pr × Int => if act ws S e x then (1 : Int) else 0) (M := 1) (l := S.take i) fun x hx => by split <;> omega
      have h5 : (S.take i).length ≤ 100 := by rw [List.length_take]; omega
      generalize ((st.take i).map fun x : Pr × Int => if x.1.est = (e : Int) then x.2 else 0).sum = z at *
      generalize ((S.take i).map fun x : Pr × Int => if act ws S e x then (1 : Int) else 0).sum = n at *
      have hwz : IntKind.i64.wrap (es[e].pot - z - st[i].2) = es[e].pot - (z + st[i].2) := by rw [wrap64_id (by omega)]; omega
      have hwn : IntKind.i64.wrap (n + 1) = n + 1 := wrap64_id (by omega)
      by_cases c : st[i].1.est = e
      case neg =>
        have hna : ¬ act ws S e S[i] := fun ha => c (by rw [← hfstS i hi]; exact ha.1)
        simp [rd9_1_eq, rd9_1, hi, hi2, hwk, hpsg, c, hna]
      have hSi := hsame i hi c
      simp [rd9_1_eq, rd9_1, hi, hi2, hwk, hpl, hpg, hpsg, c, hwz]
      refine ⟨_, lack_runs hd.fine i hiS, ?_⟩
      have hl0 := hd.fine.good.lack (List.getElem_mem hiS)
      by_cases c2 : lack ws S S[i] = 0
      · have hna : ¬ act ws S e S[i] := fun ha => by have := ha.2; omega
        simp [c2, hna, hwk]
      have hact : act ws S e S[i] := ⟨by rw [hfstS i hi]; exact c, by omega⟩
      simp [c2, hact, hwn]
      refine EvP.forRounds st.length (fun k => [.bool false, .int k]) (fun k => []) ?_ (fun k hk => ?_) ?_
      · simp
      · have hwk2 : IntKind.i64.wrap ((k : Int) + 1) = (k : Int) + 1 := wrap64_id (by omega)
        have hk2 : k < ps.length := by omega
        have hkS : k < S.length := by omega
        have c' : st[i].1.est = e := c
        by_cases d1 : st[k].1.est = e
        case neg => simp [rd9_0_eq, rd9_0, hk, hk2, hi2, hwk2, hpsg, d1]
        by_cases d2 : st[k].1.sum = st[i].1.sum
        case neg => simp [rd9_0_eq, rd9_0, hk, hk2, hi, hi2, hwk2, hpsg, d1, d2]
        simp [rd9_0_eq, rd9_0, hk, hk2, hi, hi2, hwk2, hpsg, hpl, hpg, d1, d2]
        refine ⟨_, lack_runs hd.fine k hkS, ?_⟩
        by_cases d3 : 0 < lack ws S S[k]
        · have hak : act ws S e S[k] := ⟨by rw [hfstS k hk]; exact d1, d3⟩
          have hev := hd.even S[k] (List.getElem_mem hkS) S[i] (List.getElem_mem hiS) (by rw [hfstS k hk, hfstS i hi]; exact d2) hak hact
          rw [hsame k hk d1, hSi] at hev
          simp [d3, hev]
        · simp [d3]
      · simp [rd9_0_eq, rd9_0, hlen, hi, hi2, hpl, hpg, hwz, hwn]
    · have hz : (st.map fun x : Pr × Int => if x.1.est = (e : Int) then x.2 else 0).sum = outOf st e := rfl
      have hn : (S.map fun x : Pr × Int => if act ws S e x then (1 : Int) else 0).sum = cnt ws S e := rfl
      have htS : S.take st.length = S := List.take_of_length_le (by omega)
      rw [List.take_length, hz, htS, hn]
      have hlt := left_lt hd.fine.good hd.left0 hd.paid
      rw [hd.leq] at hlt
      simp [rd9_1_eq, rd9_1, hlen]
      exact hlt
  simp [rd9_2_eq, rd9_2]
end Esta
