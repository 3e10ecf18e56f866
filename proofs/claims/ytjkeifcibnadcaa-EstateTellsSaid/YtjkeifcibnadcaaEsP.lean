/-
  EstateLeft: the plain law.
-/
import Derived.Test.YtjkeifcibnadcaaEsL
set_option linter.unusedSimpArgs false
set_option linter.unusedVariables false
namespace Esta
open Go Go.Proofs Cx
variable {ws : List Int} {st : Stt} {e left : Int}

def cnt (ws : List Int) (st : Stt) (e : Int) : Int := (st.map fun x => if act ws st e x then (1 : Int) else 0).sum
/-- what is left, when nothing can be paid any more -/
theorem left_lt (h : Good ws st) (hl : 0 ≤ left) (h0 : paidS ws st e left = 0) (hc : 0 < cnt ws st e) : left < cnt ws st e := by
  have hT0 := total_nonneg (e := e) h
  have hT : 0 < total ws st e := by
    rcases Int.lt_or_eq_of_le hT0 with h1 | h1
    · exact h1
    · exfalso
      have : cnt ws st e = 0 := by
        unfold cnt
        rw [sum_congr (g := fun _ => 0) fun x hx => if_neg fun ha => by have := total_pos h hx ha; omega]
        exact sum_zero st
      omega
  have key : (st.map fun x => left * if act ws st e x then x.1.sum else 0).sum ≤ (st.map fun x => (total ws st e - 1) * if act ws st e x then (1 : Int) else 0).sum := sum_le fun x hx => by
    by_cases ha : act ws st e x
    · simp only [if_pos ha]
      have h1 := le_sum (f := pay ws st e left) (l := st) (fun y hy => pay_nonneg h hl hy) x hx
      have h2 := pay_nonneg (e := e) h hl hx
      have h3 : (st.map (pay ws st e left)).sum = 0 := h0
      have h4 : pay ws st e left x = min (lack ws st x) (left * x.1.sum / total ws st e) := if_pos ha
      have h5 := ha.2
      have h6 : left * x.1.sum / total ws st e ≤ 0 := by omega
      have h7 := Int.lt_ediv_add_one_mul_self (left * x.1.sum) hT
      have h8 : (left * x.1.sum / total ws st e + 1) * total ws st e ≤ 1 * total ws st e := Int.mul_le_mul_of_nonneg_right (by omega) hT0
      omega
    · simp [ha]
  rw [sum_mul, sum_mul] at key
  have k2 : left * total ws st e ≤ (total ws st e - 1) * cnt ws st e := key
  have k3 : (total ws st e - 1) * cnt ws st e = cnt ws st e * total ws st e - cnt ws st e := by rw [Int.sub_mul, Int.one_mul, Int.mul_comm]
  exact Int.lt_of_mul_lt_mul_right (by omega) hT0

/-- equal proofs have received the same -/
def Even (ws : List Int) (e : Int) (st : Stt) : Prop := ∀ x, x ∈ st → ∀ y, y ∈ st → x.1.sum = y.1.sum → act ws st e x → act ws st e y → x.2 = y.2
theorem lack_next (h : Good ws st) (hl : 0 ≤ left) {x : Pr × Int} (hx : x ∈ st) (he : x.1.est = e) : lack ws (next ws st e left) (x.1, x.2 + pay ws st e left x) ≤ lack ws st x - pay ws st e left x := by
  have h1 := rcv_next (ws := ws) (st := st) (e := e) (left := left) x.1.bill
  have h2 := le_sum (f := fun y : Pr × Int => if y.1.bill = x.1.bill ∧ y.1.est = e then pay ws st e left y else 0) (l := st) (fun y hy => by
    have := pay_nonneg (e := e) h hl hy
    split <;> omega) x hx
  simp [he] at h2
  unfold lack
  dsimp only
  omega
theorem Even.next (h : Good ws st) (hl : 0 ≤ left) (hE : Even ws e st) : Even ws e (next ws st e left) := by
  intro x' hx' y' hy' hs ha hb
  obtain ⟨x, hx, rfl⟩ := List.mem_map.1 hx'
  obtain ⟨y, hy, rfl⟩ := List.mem_map.1 hy'
  have ex : x.1.est = e := ha.1
  have ey : y.1.est = e := hb.1
  have lx := lack_next (e := e) h hl hx ex
  have ly := lack_next (e := e) h hl hy ey
  have px := pay_nonneg (e := e) h hl hx
  have py := pay_nonneg (e := e) h hl hy
  have ax : act ws st e x := ⟨ex, by have := ha.2; omega⟩
  have ay : act ws st e y := ⟨ey, by have := hb.2; omega⟩
  have qx : pay ws st e left x = min (lack ws st x) (left * x.1.sum / total ws st e) := if_pos ax
  have qy : pay ws st e left y = min (lack ws st y) (left * y.1.sum / total ws st e) := if_pos ay
  have h0 := hE x hx y hy hs ax ay
  have hx2 := ha.2
  have hy2 := hb.2
  dsimp only at hs ⊢
  rw [← hs] at qy
  omega
theorem run_even (e : Int) : ∀ (n : Nat) {left : Int} {st : Stt}, Good ws st → 0 ≤ left → left < n → Even ws e st → Even ws e (run ws e n left st).2
  | 0, left, st, h, h0, hn, _ => by omega
  | n + 1, left, st, h, h0, hn, hE => by
    simp only [run]
    have p0 := paid_nonneg (e := e) h h0
    have p1 := paid_le (e := e) h h0
    by_cases hp : paidS ws st e left = 0
    · rw [if_pos hp]; exact hE
    · rw [if_neg hp]
      exact run_even e n (h.next (e := e) h0) (by omega) (by omega) (hE.next h h0)

theorem share_append (ws : List Int) : ∀ (a b : List Int) (e : Int) (st : Stt), share ws (a ++ b) e st = share ws b (e + a.length) (share ws a e st)
  | [], b, e, st => by simp [share]
  | p :: a, b, e, st => by
    simp only [List.cons_append, share, List.length_cons]
    rw [share_append ws a b (e + 1)]
    have : e + 1 + (a.length : Int) = e + ((a.length + 1 : Nat) : Int) := by omega
    rw [this]
theorem share_at : ∀ (l : List Int) (e : Int) {st : Stt}, Good ws st → (∀ p, p ∈ l → 0 ≤ p) → ∀ i, i < st.length → ((st.getD i default).1.est < e ∨ e + l.length ≤ (st.getD i default).1.est) → (share ws l e st).getD i default = st.getD i default
  | [], e, st, _, _, i, _, _ => rfl
  | p :: l, e, st, h, hp, i, hi, ho => by
    have h0 := hp p (List.mem_cons_self ..)
    obtain ⟨g1, g2, g3, g4, g5, g6⟩ := run_ok e (p.toNat + 1) h h0 (by omega)
    simp only [List.length_cons] at ho
    have e1 := g4.same i hi (by omega)
    have := share_at l (e + 1) g1 (fun q hq => hp q (List.mem_cons_of_mem _ hq)) i (by rw [g4.len]; exact hi) (by rw [e1]; omega)
    show (share ws l (e + 1) _).getD i default = _
    rw [this, e1]

/-- an estate, when it is done -/
structure Done (ws : List Int) (ps : List Pr) (st S : Stt) (e : Nat) (pot left : Int) : Prop where
  fine : Fine ws ps S
  left0 : 0 ≤ left
  paid : paidS ws S e left = 0
  even : Even ws e S
  leq : left = pot - outOf st e
  past : ∀ i, i < ps.length → (ps.getD i default).est ≤ e → st.getD i default = S.getD i default
  later : ∀ i, i < ps.length → (e : Int) < (ps.getD i default).est → (S.getD i default).2 = 0
theorem getD_fst {st : Stt} {ps : List Pr} (hf : st.map (·.1) = ps) {k : Nat} (hk : k < ps.length) : (st.getD k default).1 = ps.getD k default := by
  subst hf
  have : k < st.length := by simpa using hk
  simp [this]
theorem getD_at {α : Type} [Inhabited α] (l : List α) (i : Nat) (h : i < l.length) : l.getD i default = l[i] := by simp [h]
theorem outOf_eq {ps : List Pr} {a b : Stt} (ha : a.map (·.1) = ps) (hb : b.map (·.1) = ps) (e : Int) (h : ∀ i, i < ps.length → (ps.getD i default).est = e → a.getD i default = b.getD i default) : outOf a e = outOf b e := by
  unfold outOf
  congr 1
  have la : a.length = ps.length := by rw [← ha]; simp
  have lb : b.length = ps.length := by rw [← hb]; simp
  apply List.ext_getElem
  · simp [la, lb]
  · intro i h1 h2
    have hi : i < ps.length := by rw [List.length_map, la] at h1; exact h1
    have ia : i < a.length := by omega
    have ib : i < b.length := by omega
    have f1 := getD_fst ha hi
    have f2 := getD_fst hb hi
    have h3 := h i hi
    simp only [List.getElem_map]
    rw [List.getD_eq_getElem?_getD, List.getElem?_eq_getElem ia, Option.getD_some] at f1
    rw [List.getD_eq_getElem?_getD, List.getElem?_eq_getElem ib, Option.getD_some] at f2
    rw [getD_at a i ia, getD_at b i ib] at h3
    rw [f1, f2]
    by_cases c : (ps.getD i default).est = e
    · rw [if_pos c, if_pos c, h3 c]
    · rw [if_neg c, if_neg c]
theorem done_at {es : List Est} {ps : List Pr} (h : rightF es ws ps = true) (e : Nat) (he : e < es.length) : ∃ S left, Done ws ps (shareF es ws ps) S e es[e].pot left := by
  obtain ⟨f1, f2, f3, f4, f5⟩ := rightF_facts h
  have hpos : ∀ p, p ∈ es.map (·.pot) → 0 ≤ p := fun p hp => by
    obtain ⟨x, hx, rfl⟩ := List.mem_map.1 hp
    exact (f2 x hx).1
  have hpot := f2 es[e] (List.getElem_mem he)
  have he' : e < (es.map (·.pot)).length := by simpa using he
  have hpos1 : ∀ p, p ∈ (es.map (·.pot)).take e → 0 ≤ p := fun p hp => hpos p (List.mem_of_mem_take hp)
  have hpos2 : ∀ p, p ∈ (es.map (·.pot)).drop (e + 1) → 0 ≤ p := fun p hp => hpos p (List.mem_of_mem_drop hp)
  have hlt : ((es.map (·.pot)).take e).length = e := by rw [List.length_take]; omega
  have hlen0 : (start ps).length = ps.length := by simp [start]
  obtain ⟨a1, a2⟩ := share_good ((es.map (·.pot)).take e) 0 f5 hpos1
  have a3 := (share_out ws ((es.map (·.pot)).take e) 0 f5 hpos1).1 e (.inr (by rw [hlt]; omega))
  have a4 := share_at ((es.map (·.pot)).take e) 0 f5 hpos1
  rw [outOf_start] at a3
  rw [start_fst] at a2
  rw [hlt, hlen0] at a4
  have hsplit : es.map (·.pot) = ((es.map (·.pot)).take e ++ [es[e].pot]) ++ (es.map (·.pot)).drop (e + 1) := by
    have h1 : (es.map (·.pot)).take e ++ [es[e].pot] = (es.map (·.pot)).take (e + 1) := by
      rw [List.take_succ_eq_append_getElem he']; simp
    rw [h1, List.take_append_drop]
  have hst : shareF es ws ps = share ws ((es.map (·.pot)).drop (e + 1)) (e + 1) (run ws e (es[e].pot.toNat + 1) es[e].pot (share ws ((es.map (·.pot)).take e) 0 (start ps))).2 := by
    unfold shareF
    conv => lhs; rw [hsplit]
    rw [share_append, share_snoc, List.length_append, hlt]
    have e1 : (0 : Int) + (e : Int) = e := by omega
    have e2 : (0 : Int) + ((e + [es[e].pot].length : Nat) : Int) = e + 1 := by simp
    rw [e1, e2]
  generalize share ws ((es.map (·.pot)).take e) 0 (start ps) = S0 at *
  have hS0 : ∀ i, i < ps.length → (e : Int) ≤ (ps.getD i default).est → (S0.getD i default).2 = 0 := fun i hi hh => by
    have hs : (start ps).getD i default = (ps.getD i default, 0) := by simp [start, hi]
    have := a4 i hi (.inr (by rw [hs]; dsimp only; omega))
    rw [this, hs]
  obtain ⟨g1, g2, g3, g4, g5, g6⟩ := run_ok (e : Int) (es[e].pot.toNat + 1) a1 hpot.1 (by omega)
  have gE := run_even (ws := ws) (e : Int) (es[e].pot.toNat + 1) a1 hpot.1 (by omega) (fun x hx y hy _ ax ay => by
    obtain ⟨i, hi, rfl⟩ := List.getElem_of_mem hx
    obtain ⟨j, hj, rfl⟩ := List.getElem_of_mem hy
    have l0 : S0.length = ps.length := by rw [← a2]; simp
    have k1 := getD_fst a2 (k := i) (by omega)
    have k2 := getD_fst a2 (k := j) (by omega)
    have z1 := hS0 i (by omega)
    have z2 := hS0 j (by omega)
    rw [← k1] at z1
    rw [← k2] at z2
    simp only [List.getD_eq_getElem?_getD, List.getElem?_eq_getElem hi, List.getElem?_eq_getElem hj, Option.getD_some] at z1 z2
    rw [z1 (by rw [ax.1]; omega), z2 (by rw [ay.1]; omega)])
  generalize hR : run ws e (es[e].pot.toNat + 1) es[e].pot S0 = R at *
  have hfst : R.2.map (·.1) = ps := g4.fst.trans a2
  have l0 : S0.length = ps.length := by rw [← a2]; simp
  have lR : R.2.length = ps.length := by rw [← hfst]; simp
  have b4 := share_at ((es.map (·.pot)).drop (e + 1)) ((e : Int) + 1) g1 hpos2
  have b1 := share_good ((es.map (·.pot)).drop (e + 1)) ((e : Int) + 1) g1 hpos2
  rw [← hst] at b4 b1
  have hpast : ∀ i, i < ps.length → (ps.getD i default).est ≤ e → (shareF es ws ps).getD i default = R.2.getD i default := fun i hi hh =>
    b4 i (by omega) (.inl (by rw [getD_fst hfst hi]; omega))
  have hout := outOf_eq (b1.2.trans hfst) hfst (e : Int) fun i hi hh => hpast i hi (by omega)
  refine ⟨R.2, R.1, ⟨g1, hfst, f3⟩, g2, g3, gE, ?_, hpast, fun i hi hh => ?_⟩
  · rw [hout]; omega
  · have := g4.same i (by omega) (by rw [getD_fst a2 hi]; omega)
    rw [this]
    exact hS0 i hi (by omega)
end Esta
