/-
  PoolSwaps: exchanges.
-/
import Derived.Test.YtaihcmbfhgmjgaaPoE
set_option linter.unusedSimpArgs false
set_option linter.unusedVariables false
namespace Pool
open Go Go.Proofs Cx

def woF {α : Type} (l : List α) (out : List Int) : List α := (l.zipIdx.filter fun x => !out.contains (x.2 : Int)).map (·.1)
theorem woF_succ {α : Type} (l : List α) (out : List Int) (k : Nat) (hk : k < l.length) : woF (l.take (k + 1)) out = if (k : Int) ∈ out then woF (l.take k) out else woF (l.take k) out ++ [l[k]] := by
  rw [List.take_succ_eq_append_getElem hk]
  have : (l.take k).length = k := by rw [List.length_take]; omega
  unfold woF
  rw [List.zipIdx_append, List.filter_append, List.map_append, this]
  by_cases h : (k : Int) ∈ out <;> simp [h]
theorem woF_len {α : Type} (l : List α) (out : List Int) : (woF l out).length ≤ l.length := by
  unfold woF
  rw [List.length_map]
  exact Nat.le_trans (List.length_filter_le ..) (by simp)

theorem index_runs (out : List Int) (x : Int) (hl : out.length ≤ maxLen) : Runs T 40 [ints out, .int x] (.int (if out.contains x then (out.findIdx (· == x) : Nat) else -1)) := by
  refine .of_tree rfl rfl tr40_eq ?_
  simp [tr40]
  rw [maxLen_eq] at hl
  refine EvP.scan out.length (fun k => out.getD k 0 ≠ x) (fun k => [.int 0, .int k]) (fun _ => []) ?_ (fun k hk hj ho => ?_) (fun k hk hj ho => ?_) (fun hj => ?_)
  · simp
  · have hw : IntKind.i64.wrap ((k : Int) + 1) = (k : Int) + 1 := wrap64_id (by omega)
    simp [hk] at ho
    have ho' : ¬ x = out[k] := fun e => ho e.symm
    simp [rd40_0_eq, rd40_0, hk, hw, ints, ho, ho']
  · simp [hk] at ho
    have hm : x ∈ out := ho ▸ List.getElem_mem hk
    have e : out.findIdx (· == x) = k := (List.findIdx_eq hk).2 ⟨by simp [ho], fun j hji => by
      have := hj j hji
      have hjl : j < out.length := by omega
      simpa [List.getD_eq_getElem?_getD, List.getElem?_eq_getElem hjl] using this⟩
    simp [rd40_0_eq, rd40_0, hk, ints, ho, hm, e]
  · have : ¬ x ∈ out := fun hm => by
      obtain ⟨j, hjl, rfl⟩ := List.getElem_of_mem hm
      have := hj j hjl
      rw [List.getD_eq_getElem?_getD, List.getElem?_eq_getElem hjl] at this
      exact this rfl
    simp [rd40_0_eq, rd40_0, this, ints]
theorem has_runs (out : List Int) (x : Int) (hl : out.length ≤ maxLen) : Runs T 29 [ints out, .int x] (.bool (out.contains x)) := by
  refine .of_tree rfl rfl tr29_eq ?_
  simp [tr29]
  refine ⟨_, index_runs out x hl, ?_⟩
  by_cases h : x ∈ out <;> simp [h]

theorem same20_runs (l : List Pl) (hl : l.length ≤ maxLen) : Runs T 20 [pls l, pls l] (.bool true) := by
  refine .of_tree rfl rfl tr20_eq ?_
  simp [tr20]
  rw [maxLen_eq] at hl
  refine EvP.forRounds l.length (fun k => [.bool false, .int k]) (fun _ => []) ?_ (fun k hk => ?_) ?_
  · simp
  · have hw : IntKind.i64.wrap ((k : Int) + 1) = (k : Int) + 1 := wrap64_id (by omega)
    simp [rd20_0_eq, rd20_0, hk, hw]
  · simp [rd20_0_eq, rd20_0]

theorem without_runs (l : List Pl) (out : List Int) (hl : l.length ≤ 1000) (ho : out.length ≤ 1000) : Runs T 24 [pls l, ints out] (pls (woF l out)) := by
  refine .of_tree rfl rfl tr24_eq ?_
  simp [tr24]
  refine EvP.forRounds l.length (fun k => [.none, .int k]) (fun k => [pls (woF (l.take k) out)]) ?_ (fun k hk => ?_) ?_
  · simp [woF, pls]
  · have hw : IntKind.i64.wrap ((k : Int) + 1) = (k : Int) + 1 := wrap64_id (by omega)
    have hlen := woF_len (l.take k) out
    have hlen2 : (l.take k).length ≤ 1000 := by rw [List.length_take]; omega
    rw [woF_succ l out k hk]
    generalize woF (l.take k) out = L at *
    simp [rd24_1_eq, rd24_1, hk, hw]
    refine EvP.forRounds out.length (fun j => [.bool ((out.take j).contains (k : Int)), .int j]) (fun _ => []) ?_ (fun j hj => ?_) ?_
    · simp
    · have hwj : IntKind.i64.wrap ((j : Int) + 1) = (j : Int) + 1 := wrap64_id (by omega)
      have hs : (out.take (j + 1)).contains (k : Int) = ((out.take j).contains (k : Int) || decide (out[j] = (k : Int))) := by
        rw [List.take_succ_eq_append_getElem hj, List.contains_append]
        by_cases e : out[j] = (k : Int)
        · simp [e]
        · have e' : ¬ (k : Int) = out[j] := fun h => e h.symm
          simp [e, e']
      rw [hs]
      generalize (out.take j).contains (k : Int) = b
      cases b <;> simp [rd24_0_eq, rd24_0, hj, hwj, ints]
      rfl
    · have hx : (out.take out.length).contains (k : Int) = out.contains (k : Int) := by rw [List.take_length]
      rw [hx]
      by_cases hb : (k : Int) ∈ out <;> simp [rd24_0_eq, rd24_0, hb, hk, hw, ints, pls]
      omega
  · simp [rd24_1_eq, rd24_1]

def okAt (n : Int) (out : List Int) (k : Nat) : Bool := decide (0 ≤ out.getD k 0) && decide (out.getD k 0 < n) && (k == 0 || decide (out.getD (k - 1) 0 < out.getD k 0))
def rises (n : Int) (out : List Int) : Bool := (List.range out.length).all (okAt n out)
def swapF (t : Tm) (l : List Pl) (day : Int) (out : List Int) (inn : List Pl) : List Pl × Int :=
  if checkF t l day ≠ 0 then ([], checkF t l day) else
  if rises l.length out = false then ([], 4) else
  if checkF t (woF l out ++ inn) day ≠ 0 then ([], checkF t (woF l out ++ inn) day) else
  if coverF t (woF l out ++ inn) day < t.loan then ([], 7) else (woF l out ++ inn, 0)
theorem rises_true {n : Int} {out : List Int} (h : ∀ k, k < out.length → okAt n out k = true) : rises n out = true := by
  unfold rises; rw [List.all_eq_true]; intro k hk; exact h k (List.mem_range.1 hk)
theorem rises_false {n : Int} {out : List Int} {k : Nat} (hk : k < out.length) (h : ¬ okAt n out k = true) : rises n out = false := by
  unfold rises; rw [List.all_eq_false]; exact ⟨k, List.mem_range.2 hk, h⟩

set_option maxHeartbeats 2000000 in
theorem swap_runs (t : Tm) (l : List Pl) (day : Int) (out : List Int) (inn : List Pl) (hl : l.length ≤ maxLen) (ho : out.length ≤ 1000) (hi : inn.length ≤ 1000) :
    Runs T 12 [encT t, pls l, .int day, ints out, pls inn] (.tup [pls (swapF t l day out inn).1, .int (swapF t l day out inn).2]) := by
  refine .of_tree rfl rfl tr12_eq ?_
  simp [tr12]
  refine ⟨_, check_runs t l day hl, ?_⟩
  by_cases c1 : checkF t l day = 0
  case neg => simp [c1, swapF, pls]
  have hc := check_zero.1 c1
  simp [c1]
  refine EvP.scan out.length (fun k => okAt l.length out k = true) (fun k => [.list [], .int 0, .int k]) (fun _ => []) ?_ (fun k hk hj hok => ?_) (fun k hk hj hok => ?_) (fun hj => ?_)
  · simp
  · have hw : IntKind.i64.wrap ((k : Int) + 1) = (k : Int) + 1 := wrap64_id (by omega)
    have hw2 : 0 < k → IntKind.i64.wrap ((k : Int) - 1) = ((k - 1 : Nat) : Int) := fun h => by rw [wrap64_id (by omega)]; omega
    simp [okAt, hk] at hok
    obtain ⟨⟨h1, h2⟩, h3⟩ := hok
    have h1' : ¬ out[k] < 0 := by omega
    have h2' : ¬ (l.length : Int) ≤ out[k] := by omega
    by_cases hk0 : 0 < k
    · have hk1 : k - 1 < out.length := by omega
      have h3' : ¬ out[k] ≤ out[k - 1] := by
        rcases h3 with h3 | h3
        · omega
        · simp [hk1] at h3; omega
      simp [rd12_0_eq, rd12_0, hk, hw, hw2 hk0, ints, h1, h2, h1', h2', h3', hk0, hk1]
    · simp [rd12_0_eq, rd12_0, hk, hw, ints, h1, h2, h1', h2', hk0]
  · have hw2 : 0 < k → IntKind.i64.wrap ((k : Int) - 1) = ((k - 1 : Nat) : Int) := fun h => by rw [wrap64_id (by omega)]; omega
    have hr : rises l.length out = false := rises_false hk hok
    have hf : swapF t l day out inn = ([], 4) := by simp [swapF, c1, hr]
    rw [hf]
    simp [okAt, hk] at hok
    by_cases h1 : out[k] < 0
    · simp [rd12_0_eq, rd12_0, hk, ints, h1, pls]
    by_cases h2 : (l.length : Int) ≤ out[k]
    · simp [rd12_0_eq, rd12_0, hk, ints, h1, h2, pls]
    have hok' := hok (by omega) (by omega)
    have hk0 : 0 < k := by omega
    have hk1 : k - 1 < out.length := by omega
    have h3 := hok'.2
    simp [hk1] at h3
    simp [rd12_0_eq, rd12_0, hk, hw2 hk0, ints, h1, h2, h3, hk0, hk1, pls]
  · have hr : rises l.length out = true := rises_true hj
    simp [rd12_0_eq, rd12_0]
    refine EvP.forRounds l.length (fun k => [.none, .int k]) (fun k => [pls (woF (l.take k) out)]) ?_ (fun k hk => ?_) ?_
    · simp [woF, pls]
    · have hw : IntKind.i64.wrap ((k : Int) + 1) = (k : Int) + 1 := wrap64_id (by omega)
      have hlen := woF_len (l.take k) out
      have hlen2 : (l.take k).length ≤ 50 := by rw [List.length_take]; omega
      rw [woF_succ l out k hk]
      generalize woF (l.take k) out = L at *
      simp [rd12_1_eq, rd12_1, hk, hw]
      refine ⟨_, has_runs out k (by rw [maxLen_eq]; omega), ?_⟩
      by_cases hb : (k : Int) ∈ out <;> simp [hb, hw, pls]
      omega
    · have hlen := woF_len l out
      simp [rd12_1_eq, rd12_1]
      have hlen3 : (woF l out ++ inn).length ≤ 1100 := by rw [List.length_append]; omega
      have e1 : pls (woF l out ++ inn) = .list ((woF l out ++ inn).map encP) := rfl
      unfold swapF
      rw [hr]
      simp [c1]
      generalize hw : woF l out ++ inn = want at *
      have e2 : (woF l out).map encP ++ inn.map encP = want.map encP := by rw [← hw, List.map_append]
      simp [e2]
      refine ⟨by omega, _, check_runs t want day (by rw [maxLen_eq]; omega), ?_⟩
      by_cases c2 : checkF t want day = 0
      case neg => simp [c2, pls]
      simp [c2]
      refine ⟨_, cover_runs t want day (by omega), ?_⟩
      by_cases c3 : coverF t want day < t.loan <;> simp [c3, pls]

structure Tr where
  (out : List Int) (inn : List Pl)
def encR (x : Tr) : D := .agg [ints x.out, pls x.inn]
instance : Inhabited Tr := ⟨⟨[], []⟩⟩
@[simp] theorem R_c0 (x : Tr) : (encR x).c 0 = ints x.out := _root_.id rfl
@[simp] theorem R_c1 (x : Tr) : (encR x).c 1 = pls x.inn := _root_.id rfl
@[simp] theorem encR_cells (x : Tr) : (encR x).cells = [ints x.out, pls x.inn] := _root_.id rfl
@[simp] theorem encR_over (x : Tr) : D.agg (splice [.list [], .list []] 0 [ints x.out, pls x.inn]) = encR x := _root_.id rfl
@[simp] theorem ints_l (l : List Int) : (ints l).l = l.map .int := _root_.id rfl
@[simp] theorem pls_append (a b : List Pl) : D.list (a.map encP ++ b.map encP) = pls (a ++ b) := by unfold pls; rw [List.map_append]

theorem rises_take (n : Int) (out : List Int) (k : Nat) (hk : k < out.length) : (List.range (k + 1)).all (okAt n out) = ((List.range k).all (okAt n out) && okAt n out k) := by
  rw [List.range_succ, List.all_append]; simp

set_option maxHeartbeats 4000000 in
theorem swaps4_runs (t : Tm) (l : List Pl) (day : Int) (trs : List Tr) (hl : l.length ≤ maxLen) (hout : ∀ x, x ∈ trs → x.out.length ≤ maxLen ∧ x.inn.length ≤ maxLen) : Runs T 4 [encT t, pls l, .int day, .list (trs.map encR)] (.bool true) := by
  refine .of_tree rfl rfl tr4_eq ?_
  simp [tr4]
  refine ⟨_, sane_runs, _, few_runs l, ?_⟩
  by_cases h60 : l.length ≤ 60
  case neg => simp [h60]
  by_cases h10 : (trs.length : Int) ≤ 10
  case neg => simp [h60, h10]
  have h10' : trs.length ≤ 10 := by omega
  simp [h60, h10]
  refine ⟨_, check_runs t l day hl, ?_⟩
  by_cases c1 : checkF t l day = 0
  case neg => simp [c1]
  simp [c1]
  refine EvP.forLoop (α := Nat × List Pl) (fun s vr vo => s.1 ≤ trs.length ∧ checkF t s.2 day = 0 ∧ vr = [pls s.2, .bool false, .int s.1] ∧ vo = []) (fun s => trs.length - s.1) (0, l) ⟨Nat.zero_le _, c1, by simp, by simp⟩ ?_
  rintro ⟨k, m⟩ vr vo ⟨hk, cm, rfl, rfl⟩
  dsimp only at hk cm
  have hm := check_zero.1 cm
  have hml : m.length ≤ maxLen := by rw [maxLen_eq]; omega
  by_cases hlt : k < trs.length
  case neg =>
    obtain rfl : k = trs.length := by omega
    simp [rd4_1_eq, rd4_1]
  have hw : IntKind.i64.wrap ((k : Int) + 1) = (k : Int) + 1 := wrap64_id (by omega)
  have hx := hout trs[k] (List.getElem_mem hlt)
  generalize hX : trs[k] = x at *
  have hg : (trs.map encR).getD k default = encR x := by
    rw [List.getD_eq_getElem?_getD, List.getElem?_map, List.getElem?_eq_getElem hlt, hX]; rfl
  simp [rd4_1_eq, rd4_1, hlt, hw, hX]
  refine ⟨_, few_runs x.inn, ?_⟩
  by_cases hi : x.inn.length ≤ 60
  case neg => simp [hi]
  by_cases ho : (x.out.length : Int) ≤ 60
  case neg => simp [hi, ho]
  simp [hi, ho]
  refine ⟨_, swap_runs t m day x.out x.inn hml (by omega) (by omega), ?_⟩
  refine EvP.forRounds x.out.length (fun j => [.bool ((List.range j).all (okAt m.length x.out)), .int j]) (fun _ => []) ?_ (fun j hj => ?_) ?_
  · simp
  · have hwj : IntKind.i64.wrap ((j : Int) + 1) = (j : Int) + 1 := wrap64_id (by omega)
    have hw2 : 0 < j → IntKind.i64.wrap ((j : Int) - 1) = ((j - 1 : Nat) : Int) := fun h => by rw [wrap64_id (by omega)]; omega
    rw [rises_take _ _ _ hj]
    generalize (List.range j).all (okAt m.length x.out) = b
    have e1 : okAt m.length x.out j = (decide (0 ≤ x.out[j]) && decide (x.out[j] < m.length) && (j == 0 || decide (x.out.getD (j - 1) 0 < x.out[j]))) := by simp [okAt, hj]
    rw [e1]
    by_cases h1 : x.out[j] < 0
    · have h1' : ¬ 0 ≤ x.out[j] := by omega
      simp [rd4_0_eq, rd4_0, hlt, hX, hj, hwj, h1, h1']
    have h1' : 0 ≤ x.out[j] := by omega
    by_cases h2 : (m.length : Int) ≤ x.out[j]
    · have h2' : ¬ x.out[j] < m.length := by omega
      simp [rd4_0_eq, rd4_0, hlt, hX, hj, hwj, h1, h1', h2, h2']
    have h2' : x.out[j] < m.length := by omega
    by_cases hj0 : 0 < j
    · have hj1 : j - 1 < x.out.length := by omega
      have hj2 : ¬ j = 0 := by omega
      by_cases h3 : x.out[j] ≤ x.out[j - 1]
      · have h3' : ¬ x.out[j - 1] < x.out[j] := by omega
        simp [rd4_0_eq, rd4_0, hlt, hX, hj, hwj, hw2 hj0, h1, h1', h2, h2', hj0, hj1, hj2, h3, h3']
      · have h3' : x.out[j - 1] < x.out[j] := by omega
        simp [rd4_0_eq, rd4_0, hlt, hX, hj, hwj, hw2 hj0, h1, h1', h2, h2', hj0, hj1, hj2, h3, h3']
    · have hj2 : j = 0 := by omega
      subst hj2
      simp [rd4_0_eq, rd4_0, hlt, hX, hj, hwj, h1, h1', h2, h2']
  · simp [rd4_0_eq, rd4_0, hlt, hX]
    refine ⟨_, without_runs m x.out (by omega) (by omega), ?_⟩
    have hwl := woF_len m x.out
    have hwant : (woF m x.out ++ x.inn).length ≤ 1100 := by rw [List.length_append]; omega
    simp
    refine ⟨by omega, ?_⟩
    have r := cover10_runs t (woF m x.out ++ x.inn) day (by rw [maxLen_eq]; omega)
    have hr : (∀ i : Nat, i < x.out.length → okAt (↑m.length) x.out i = true) ↔ rises m.length x.out = true := by unfold rises; simp
    have hr2 : (List.range x.out.length).all (okAt (↑m.length) x.out) = rises m.length x.out := rfl
    have hcv : checkF t (woF m x.out ++ x.inn) day = 0 ∨ checkF t (woF m x.out ++ x.inn) day = 1 ∨ checkF t (woF m x.out ++ x.inn) day = 6 := by
      unfold checkF; repeat' split
      all_goals simp
    rw [hr2]
    simp only [hr]
    have hsame := same20_runs (woF m x.out ++ x.inn) (by rw [maxLen_eq]; omega)
    unfold swapF
    generalize woF m x.out ++ x.inn = want at *
    cases hri : rises m.length x.out with
    | false =>
      simp only [cm]
      refine ⟨_, r, ?_⟩
      simp
      exact ⟨k + 1, by omega, by omega, m, cm, rfl, by simp⟩
    | true =>
      simp [cm]
      refine ⟨_, r, ?_⟩
      rcases hcv with hcv | hcv | hcv
      · by_cases hlo : coverF t want day < t.loan
        · simp [hcv, hlo]
          exact ⟨k + 1, by omega, by omega, m, cm, rfl, by simp⟩
        · simp [hcv, hlo]
          exact ⟨_, hsame, ⟨rfl, by omega⟩, k + 1, by omega, by omega, want, hcv, rfl, by simp⟩
      · simp [hcv]
        exact ⟨k + 1, by omega, by omega, m, cm, rfl, by simp⟩
      · simp [hcv]
        exact ⟨k + 1, by omega, by omega, m, cm, rfl, by simp⟩
end Pool
