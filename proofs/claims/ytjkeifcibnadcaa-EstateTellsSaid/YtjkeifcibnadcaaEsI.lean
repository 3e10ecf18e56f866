/-
  A round: the closure, what it turns.
-/
import Derived.Test.YtjkeifcibnadcaaEsH
set_option linter.unusedSimpArgs false
set_option linter.unusedVariables false
namespace Esta
open Go Go.Proofs Cx

def outL (st : Stt) : List (Int × Int) := st.mapIdx fun i x => ((i : Int), x.2)
def rcvL (ws : List Int) (st : Stt) : List Int := (List.range ws.length).map fun b => rcv st (b : Nat)
@[simp] theorem outL_len (st : Stt) : (outL st).length = st.length := by simp [outL]
@[simp] theorem rcvL_len (ws : List Int) (st : Stt) : (rcvL ws st).length = ws.length := by simp [rcvL]

theorem sum_set {α : Type} (f : α → Int) : ∀ (l : List α) (i : Nat) (h : i < l.length) (y : α), ((l.set i y).map f).sum = (l.map f).sum - f l[i] + f y
  | x :: l, 0, _, y => by simp only [List.set_cons_zero, List.map_cons, List.sum_cons, List.getElem_cons_zero]; omega
  | x :: l, i + 1, h, y => by
    simp only [List.set_cons_succ, List.map_cons, List.sum_cons, List.getElem_cons_succ, sum_set f l i (by simpa using h) y]; omega
theorem outL_set (st : Stt) (i : Nat) (h : i < st.length) (n : Int) : outL (st.set i (st[i].1, st[i].2 + n)) = (outL st).set i ((i : Int), st[i].2 + n) := by
  apply List.ext_getElem
  · simp
  · intro j h1 h2
    simp only [outL, List.getElem_mapIdx, List.getElem_set]
    by_cases e : i = j
    · subst e; simp
    · simp [e]
theorem rcv_set (st : Stt) (i : Nat) (h : i < st.length) (n : Int) (b : Int) : rcv (st.set i (st[i].1, st[i].2 + n)) b = rcv st b + if st[i].1.bill = b then n else 0 := by
  unfold rcv
  rw [sum_set _ st i h]
  by_cases e : st[i].1.bill = b <;> simp [e] <;> omega
theorem rcvL_set (ws : List Int) (st : Stt) (i : Nat) (h : i < st.length) (n : Int) (b : Nat) (hb : st[i].1.bill = b) (hbl : b < ws.length) : rcvL ws (st.set i (st[i].1, st[i].2 + n)) = (rcvL ws st).set b (rcv st b + n) := by
  apply List.ext_getElem
  · simp
  · intro j h1 h2
    simp only [rcvL, List.getElem_map, List.getElem_range, List.getElem_set]
    rw [rcv_set st i h]
    by_cases e : b = j
    · subst e; simp [hb]
    · have : ¬ st[i].1.bill = (j : Int) := by omega
      simp [e, this]

@[simp] theorem outL_get (st : Stt) (i : Nat) (h : i < (outL st).length) : (outL st)[i] = ((i : Int), (st[i]'(by simpa using h)).2) := by simp [outL]
@[simp] theorem rcvL_get (ws : List Int) (st : Stt) (b : Nat) (h : b < (rcvL ws st).length) : (rcvL ws st)[b] = rcv st (b : Nat) := by simp [rcvL]
@[simp] theorem splice_O (x : Int × Int) (c : Int) : spliceD (encO x) 1 (.int c) = encO (x.1, c) := _root_.id rfl
@[simp] theorem splice_I (a c : Int) : spliceD (.int a) 0 (.int c) = .int c := _root_.id rfl
theorem clo_runs (ws : List Int) (st : Stt) (i : Nat) (h : i < st.length) (n : Int) (b : Nat) (hb : st[i].1.bill = b) (hbl : b < ws.length) (d5 d7 : D)
    (w1 : IntKind.i64.wrap (st[i].2 + n) = st[i].2 + n) (w2 : IntKind.i64.wrap (rcv st b + n) = rcv st b + n) :
    Runs T 48 [.int i, .int n, .none, .none, .none, d5, outs (outL st), d7, ints (rcvL ws st), .agg [prs (st.map (·.1))]]
      (.tup [.tup [], d5, outs (outL (st.set i (st[i].1, st[i].2 + n))), d7, ints (rcvL ws (st.set i (st[i].1, st[i].2 + n))), .agg [prs (st.map (·.1))]]) := by
  refine .of_tree rfl rfl tr48_eq ?_
  rw [outL_set st i h, rcvL_set ws st i h n b hb hbl]
  simp [tr48, h, hb, hbl, w1, w2]
  simp [outs, ints]

/-! the state after the first k proofs -/
def upTo (ws : List Int) (e left : Int) (st : Stt) (k : Nat) : Stt := st.mapIdx fun i x => if i < k then (x.1, x.2 + pay ws st e left x) else x
variable {ws : List Int} {st : Stt} {e left : Int}
theorem upTo_len (k : Nat) : (upTo ws e left st k).length = st.length := by simp [upTo]
theorem upTo_at (k i : Nat) (h : i < (upTo ws e left st k).length) : (upTo ws e left st k)[i] = if i < k then ((st[i]'(by simpa [upTo] using h)).1, (st[i]'(by simpa [upTo] using h)).2 + pay ws st e left (st[i]'(by simpa [upTo] using h))) else st[i]'(by simpa [upTo] using h) := by
  simp [upTo]
theorem upTo_zero : upTo ws e left st 0 = st := by
  apply List.ext_getElem
  · simp [upTo]
  · intro i h1 h2; simp [upTo]
theorem upTo_all : upTo ws e left st st.length = next ws st e left := by
  apply List.ext_getElem
  · simp [upTo, next]
  · intro i h1 h2
    have : i < st.length := by simpa [upTo] using h1
    simp [upTo, next, this]
theorem upTo_fst (k : Nat) : (upTo ws e left st k).map (·.1) = st.map (·.1) := by
  apply List.ext_getElem
  · simp [upTo]
  · intro i h1 h2
    simp only [List.getElem_map, upTo_at]
    split <;> rfl
theorem upTo_succ (k : Nat) (hk : k < st.length) : upTo ws e left st (k + 1) = (upTo ws e left st k).set k (((upTo ws e left st k)[k]'(by rw [upTo_len]; exact hk)).1, ((upTo ws e left st k)[k]'(by rw [upTo_len]; exact hk)).2 + pay ws st e left st[k]) := by
  apply List.ext_getElem
  · simp [upTo]
  · intro i h1 h2
    rw [List.getElem_set]
    simp only [upTo_at]
    by_cases h : k = i
    · subst h; simp
    · by_cases h3 : i < k
      · have : i < k + 1 := by omega
        simp [h, h3, this]
      · have : ¬ i < k + 1 := by omega
        simp [h, h3, this]
theorem upTo_same (k : Nat) (hk : k < st.length) (h0 : pay ws st e left st[k] = 0) : upTo ws e left st (k + 1) = upTo ws e left st k := by
  rw [upTo_succ k hk, h0, Int.add_zero, List.set_getElem_self]
theorem rcv_upTo (k : Nat) (hk : k < st.length) (b : Int) : rcv (upTo ws e left st (k + 1)) b = rcv (upTo ws e left st k) b + if st[k].1.bill = b then pay ws st e left st[k] else 0 := by
  rw [upTo_succ k hk, rcv_set _ k (by rw [upTo_len]; exact hk)]
  have : ((upTo ws e left st k)[k]'(by rw [upTo_len]; exact hk)).1 = st[k].1 := by rw [upTo_at]; simp
  rw [this]
theorem rcv_mono (h : Good ws st) (hl : 0 ≤ left) (b : Int) : ∀ (d k : Nat), k + d ≤ st.length → rcv (upTo ws e left st k) b ≤ rcv (upTo ws e left st (k + d)) b
  | 0, k, _ => Int.le_refl _
  | d + 1, k, hk => by
    have h1 := rcv_mono h hl b d k (by omega)
    have h2 := rcv_upTo (ws := ws) (st := st) (e := e) (left := left) (k + d) (by omega) b
    have h3 := pay_nonneg (e := e) h hl (List.getElem_mem (show k + d < st.length by omega))
    rw [show k + (d + 1) = k + d + 1 by omega, h2]
    split <;> omega
theorem rcv_nonneg (h : Good ws st) (b : Int) : 0 ≤ rcv st b := sum_nonneg fun x hx => by have := h.low x hx; split <;> omega
theorem rcv_upTo_bounds (h : Good ws st) (hl : 0 ≤ left) (k : Nat) (hk : k ≤ st.length) (b : Nat) (hb : b < ws.length) : 0 ≤ rcv (upTo ws e left st k) b ∧ rcv (upTo ws e left st k) b ≤ ws.getD b 0 := by
  have h1 := rcv_mono (e := e) h hl b k 0 (by omega)
  have h2 := rcv_mono (e := e) h hl b (st.length - k) k (by omega)
  rw [upTo_zero] at h1
  rw [show k + (st.length - k) = st.length by omega, upTo_all] at h2
  have h3 := rcv_nonneg h (b : Int)
  have h4 := (h.next (e := e) hl).rcv b hb
  rw [show 0 + k = k by omega] at h1
  omega
end Esta
