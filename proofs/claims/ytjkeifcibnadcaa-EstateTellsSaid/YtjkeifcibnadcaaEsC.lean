/-
  The shares of estates, as Lean's own functions; what is true of them (no program).
-/
import Derived.Test.YtjkeifcibnadcaaCyH
set_option linter.unusedSimpArgs false
set_option linter.unusedVariables false
namespace Esta

structure Pr where
  (bill est sum : Int)
  deriving Inhabited
abbrev Stt := List (Pr × Int)

def rcv (st : Stt) (b : Int) : Int := (st.map fun x => if x.1.bill = b then x.2 else 0).sum
def lack (ws : List Int) (st : Stt) (x : Pr × Int) : Int := min (x.1.sum - x.2) (ws.getD x.1.bill.toNat 0 - rcv st x.1.bill)
def act (ws : List Int) (st : Stt) (e : Int) (x : Pr × Int) : Prop := x.1.est = e ∧ 0 < lack ws st x
instance (ws : List Int) (st : Stt) (e : Int) (x : Pr × Int) : Decidable (act ws st e x) := by unfold act; infer_instance
def total (ws : List Int) (st : Stt) (e : Int) : Int := (st.map fun x => if act ws st e x then x.1.sum else 0).sum
def pay (ws : List Int) (st : Stt) (e left : Int) (x : Pr × Int) : Int := if act ws st e x then min (lack ws st x) (left * x.1.sum / total ws st e) else 0
def next (ws : List Int) (st : Stt) (e left : Int) : Stt := st.map fun x => (x.1, x.2 + pay ws st e left x)
def paidS (ws : List Int) (st : Stt) (e left : Int) : Int := (st.map (pay ws st e left)).sum
def run (ws : List Int) (e : Int) : Nat → Int → Stt → Int × Stt
  | 0, left, st => (left, st)
  | n + 1, left, st => if paidS ws st e left = 0 then (left, st) else run ws e n (left - paidS ws st e left) (next ws st e left)
def share (ws : List Int) : List Int → Int → Stt → Stt
  | [], _, st => st
  | p :: ps, e, st => share ws ps (e + 1) (run ws e (p.toNat + 1) p st).2
def start (ps : List Pr) : Stt := ps.map fun p => (p, 0)

/-! sums -/
theorem sum_add {α : Type} (f g : α → Int) : ∀ l : List α, (l.map fun x => f x + g x).sum = (l.map f).sum + (l.map g).sum
  | [] => rfl
  | x :: l => by simp only [List.map_cons, List.sum_cons, sum_add f g l]; omega
theorem sum_le {α : Type} {f g : α → Int} : ∀ {l : List α}, (∀ x, x ∈ l → f x ≤ g x) → (l.map f).sum ≤ (l.map g).sum
  | [], _ => Int.le_refl _
  | x :: l, h => by
    simp only [List.map_cons, List.sum_cons]
    have := h x (List.mem_cons_self ..)
    have := sum_le (f := f) (g := g) (l := l) fun y hy => h y (List.mem_cons_of_mem _ hy)
    omega
theorem sum_nonneg {α : Type} {f : α → Int} : ∀ {l : List α}, (∀ x, x ∈ l → 0 ≤ f x) → 0 ≤ (l.map f).sum
  | [], _ => Int.le_refl _
  | x :: l, h => by
    simp only [List.map_cons, List.sum_cons]
    have := h x (List.mem_cons_self ..)
    have := sum_nonneg (f := f) (l := l) fun y hy => h y (List.mem_cons_of_mem _ hy)
    omega
theorem sum_mul {α : Type} (c : Int) (f : α → Int) : ∀ l : List α, (l.map fun x => c * f x).sum = c * (l.map f).sum
  | [] => by simp
  | x :: l => by simp only [List.map_cons, List.sum_cons, sum_mul c f l, Int.mul_add]
theorem le_sum {α : Type} {f : α → Int} : ∀ {l : List α}, (∀ x, x ∈ l → 0 ≤ f x) → ∀ x, x ∈ l → f x ≤ (l.map f).sum
  | [], _, x, h => nomatch h
  | y :: l, h, x, hx => by
    simp only [List.map_cons, List.sum_cons]
    have h0 := sum_nonneg (f := f) (l := l) fun y hy => h y (List.mem_cons_of_mem _ hy)
    rcases List.mem_cons.1 hx with rfl | hx
    · omega
    · have := le_sum (f := f) (l := l) (fun y hy => h y (List.mem_cons_of_mem _ hy)) x hx
      have := h y (List.mem_cons_self ..)
      omega
theorem sum_congr {α : Type} {f g : α → Int} {l : List α} (h : ∀ x, x ∈ l → f x = g x) : (l.map f).sum = (l.map g).sum := by
  rw [List.map_congr_left h]
theorem sum_append' (a b : List Int) : (a ++ b).sum = a.sum + b.sum := by
  induction a with
  | nil => simp
  | cons x a ih => simp only [List.cons_append, List.sum_cons, ih]; omega
theorem sum_zero {α : Type} : ∀ (l : List α), (l.map fun _ => (0 : Int)).sum = 0
  | [] => rfl
  | x :: l => by simp only [List.map_cons, List.sum_cons, sum_zero l]; rfl

/-- at most one is meant -/
theorem sum_one {α : Type} {p : α → Prop} [DecidablePred p] {f : α → Int} {M : Int} (hM : 0 ≤ M) : ∀ {l : List α}, l.Pairwise (fun x y => ¬ (p x ∧ p y)) → (∀ x, x ∈ l → p x → f x ≤ M) → (l.map fun x => if p x then f x else 0).sum ≤ M
  | [], _, _ => hM
  | x :: l, hp, h => by
    rw [List.pairwise_cons] at hp
    simp only [List.map_cons, List.sum_cons]
    by_cases hx : p x
    · have : (l.map fun x => if p x then f x else 0).sum = 0 := by
        rw [sum_congr (g := fun _ => 0) fun y hy => if_neg fun hy' => hp.1 y hy ⟨hx, hy'⟩]
        exact sum_zero l
      rw [this, if_pos hx]
      have := h x (List.mem_cons_self ..) hx
      omega
    · rw [if_neg hx]
      have := sum_one hM hp.2 fun y hy => h y (List.mem_cons_of_mem _ hy)
      omega

/-! what stays true -/
/-- the bills' and estates' numbers are not met twice -/
def Once (st : Stt) : Prop := st.Pairwise fun x y => ¬ (x.1.bill = y.1.bill ∧ x.1.est = y.1.est)
structure Good (ws : List Int) (st : Stt) : Prop where
  once : Once st
  low : ∀ x, x ∈ st → 0 ≤ x.2
  high : ∀ x, x ∈ st → x.2 ≤ x.1.sum
  pos : ∀ x, x ∈ st → 1 ≤ x.1.sum
  bill : ∀ x, x ∈ st → 0 ≤ x.1.bill ∧ x.1.bill < ws.length
  rcv : ∀ b : Nat, b < ws.length → rcv st b ≤ ws.getD b 0

variable {ws : List Int} {st : Stt} {e left : Int}

theorem Good.lack (h : Good ws st) {x : Pr × Int} (hx : x ∈ st) : 0 ≤ lack ws st x := by
  have h1 := h.high x hx
  obtain ⟨b1, b2⟩ := h.bill x hx
  have h2 := h.rcv x.1.bill.toNat (by omega)
  have e1 : ((x.1.bill.toNat : Nat) : Int) = x.1.bill := by omega
  rw [e1] at h2
  unfold Esta.lack
  omega
theorem total_nonneg (h : Good ws st) : 0 ≤ total ws st e := sum_nonneg fun x hx => by
  have := h.pos x hx
  split <;> omega
theorem total_ge (h : Good ws st) {x : Pr × Int} (hx : x ∈ st) (ha : act ws st e x) : x.1.sum ≤ total ws st e := by
  have := le_sum (f := fun x => if act ws st e x then x.1.sum else 0) (l := st) (fun y hy => by have := h.pos y hy; by_cases hh : act ws st e y <;> simp [hh] <;> omega) x hx
  unfold total
  simpa [ha] using this
theorem total_pos (h : Good ws st) {x : Pr × Int} (hx : x ∈ st) (ha : act ws st e x) : 0 < total ws st e := by
  have := total_ge h hx ha
  have := h.pos x hx
  omega
theorem pay_nonneg (h : Good ws st) (hl : 0 ≤ left) {x : Pr × Int} (hx : x ∈ st) : 0 ≤ pay ws st e left x := by
  unfold pay
  split
  · rename_i ha
    have h1 := total_pos h hx ha
    have h2 := h.pos x hx
    have h3 : 0 ≤ left * x.1.sum / total ws st e := Int.ediv_nonneg (Int.mul_nonneg hl (by omega)) (by omega)
    have h4 := ha.2
    omega
  · omega
theorem pay_le (h : Good ws st) {x : Pr × Int} (hx : x ∈ st) : pay ws st e left x ≤ lack ws st x := by
  unfold pay
  split
  · omega
  · exact h.lack hx
theorem paid_nonneg (h : Good ws st) (hl : 0 ≤ left) : 0 ≤ paidS ws st e left := sum_nonneg fun _ hx => pay_nonneg h hl hx
theorem paid_le (h : Good ws st) (hl : 0 ≤ left) : paidS ws st e left ≤ left := by
  by_cases hT : total ws st e = 0
  · have : paidS ws st e left = 0 := by
      unfold paidS
      rw [sum_congr (g := fun _ => 0) fun x hx => ?_]
      · exact sum_zero st
      · unfold pay
        split
        · rename_i ha
          have := total_pos h hx ha
          omega
        · rfl
    omega
  · have h0 := total_nonneg (e := e) h
    have hT' : 0 < total ws st e := by omega
    have h1 : total ws st e * paidS ws st e left ≤ total ws st e * left := by
      have e1 : total ws st e * left = (st.map fun x => left * if act ws st e x then x.1.sum else 0).sum := by
        rw [sum_mul, Int.mul_comm]; rfl
      rw [e1]
      unfold paidS
      rw [← sum_mul]
      refine sum_le fun x hx => ?_
      unfold pay
      split
      · have h2 : total ws st e * (left * x.1.sum / total ws st e) ≤ left * x.1.sum := Int.mul_ediv_self_le (by omega)
        have h3 : total ws st e * min (lack ws st x) (left * x.1.sum / total ws st e) ≤ total ws st e * (left * x.1.sum / total ws st e) := Int.mul_le_mul_of_nonneg_left (by omega) (by omega)
        omega
      · simp
    exact Int.le_of_mul_le_mul_left h1 hT'

theorem rcv_next (b : Int) : rcv (next ws st e left) b = rcv st b + (st.map fun x => if x.1.bill = b ∧ x.1.est = e then pay ws st e left x else 0).sum := by
  unfold rcv next
  rw [List.map_map, ← sum_add]
  refine sum_congr fun x _ => ?_
  simp only [Function.comp]
  by_cases h1 : x.1.bill = b
  · by_cases h2 : x.1.est = e
    · simp [h1, h2]
    · have : pay ws st e left x = 0 := if_neg fun ha => h2 ha.1
      simp [h1, h2, this]
  · simp [h1]

theorem Good.next (h : Good ws st) (hl : 0 ≤ left) : Good ws (next ws st e left) := by
  refine ⟨?_, fun y hy => ?_, fun y hy => ?_, fun y hy => ?_, fun y hy => ?_, fun b hb => ?_⟩
  · unfold Once Esta.next
    rw [List.pairwise_map]
    exact h.once
  all_goals try (obtain ⟨x, hx, rfl⟩ := List.mem_map.1 hy)
  · have := h.low x hx
    have := pay_nonneg (e := e) h hl hx
    show 0 ≤ x.2 + _
    omega
  · have h1 := pay_le (e := e) (left := left) h hx
    have h2 : Esta.lack ws st x ≤ x.1.sum - x.2 := by unfold Esta.lack; omega
    show x.2 + _ ≤ x.1.sum
    omega
  · exact h.pos x hx
  · exact h.bill x hx
  · rw [rcv_next]
    have h0 := h.rcv b hb
    have := sum_one (p := fun x : Pr × Int => x.1.bill = (b : Int) ∧ x.1.est = e) (f := pay ws st e left) (M := ws.getD b 0 - Esta.rcv st b) (by omega) (l := st) (h.once.imp fun hxy hh => hxy ⟨hh.1.1.trans hh.2.1.symm, hh.1.2.trans hh.2.2.symm⟩) (fun x hx hp => by
      have h1 := pay_le (e := e) (left := left) h hx
      have h2 : Esta.lack ws st x ≤ ws.getD x.1.bill.toNat 0 - Esta.rcv st x.1.bill := by unfold Esta.lack; omega
      have e1 : x.1.bill.toNat = b := by omega
      rw [e1, hp.1] at h2
      omega)
    omega

/-! what has been paid out of an estate -/
def outOf (st : Stt) (e : Int) : Int := (st.map fun x => if x.1.est = e then x.2 else 0).sum
theorem outOf_next (e' : Int) : outOf (next ws st e left) e' = outOf st e' + if e' = e then paidS ws st e left else 0 := by
  unfold outOf next
  rw [List.map_map]
  by_cases h : e' = e
  · subst h
    rw [if_pos rfl]
    unfold paidS
    rw [← sum_add]
    refine sum_congr fun x _ => ?_
    simp only [Function.comp]
    by_cases h2 : x.1.est = e'
    · simp [h2]
    · have : pay ws st e' left x = 0 := if_neg fun ha => h2 ha.1
      simp [h2, this]
  · rw [if_neg h, Int.add_zero]
    refine sum_congr fun x _ => ?_
    simp only [Function.comp]
    by_cases h2 : x.1.est = e'
    · have : pay ws st e left x = 0 := if_neg fun ha => h (h2.symm.trans ha.1)
      simp [h2, this]
    · simp [h2]
/-- the proofs are the same, in their order; of other estates nothing turns -/
structure Like (e : Int) (st st' : Stt) : Prop where
  fst : st'.map (·.1) = st.map (·.1)
  same : ∀ i : Nat, i < st.length → (st.getD i default).1.est ≠ e → st'.getD i default = st.getD i default
theorem Like.refl (e : Int) (st : Stt) : Like e st st := ⟨rfl, fun _ _ _ => rfl⟩
theorem Like.len {st st' : Stt} (h : Like e st st') : st'.length = st.length := by have := congrArg List.length h.fst; simpa using this
theorem Like.fst_at {st st' : Stt} (h : Like e st st') (i : Nat) (hi : i < st.length) : (st'.getD i default).1 = (st.getD i default).1 := by
  have := congrArg (fun l => l[i]?) h.fst
  have hi' : i < st'.length := by rw [h.len]; exact hi
  simp only [List.getElem?_map, List.getElem?_eq_getElem hi, List.getElem?_eq_getElem hi', Option.map_some, Option.some.injEq] at this
  simpa [List.getD_eq_getElem?_getD, List.getElem?_eq_getElem hi, List.getElem?_eq_getElem hi'] using this
theorem Like.trans {a b c : Stt} (h : Like e a b) (k : Like e b c) : Like e a c :=
  ⟨k.fst.trans h.fst, fun i hi hne => by
    rw [← h.same i hi hne]
    exact k.same i (by rw [h.len]; exact hi) (by rw [h.fst_at i hi]; exact hne)⟩
theorem next_at (i : Nat) (hi : i < st.length) : (next ws st e left).getD i default = ((st.getD i default).1, (st.getD i default).2 + pay ws st e left (st.getD i default)) := by
  simp [next, List.getD_eq_getElem?_getD, List.getElem?_map, List.getElem?_eq_getElem hi]
theorem Like.next : Like e st (next ws st e left) :=
  ⟨by simp [Esta.next, Function.comp_def], fun i hi hne => by
    rw [next_at i hi]
    have : pay ws st e left (st.getD i default) = 0 := if_neg fun ha => hne ha.1
    rw [this, Int.add_zero]⟩

/-- a whole estate -/
theorem run_ok (e : Int) : ∀ (n : Nat) {left : Int} {st : Stt}, Good ws st → 0 ≤ left → left < n → let r := run ws e n left st
    Good ws r.2 ∧ 0 ≤ r.1 ∧ paidS ws r.2 e r.1 = 0 ∧ Like e st r.2 ∧ outOf r.2 e + r.1 = outOf st e + left ∧ ∀ e', e' ≠ e → outOf r.2 e' = outOf st e'
  | 0, left, st, h, h0, hn => by omega
  | n + 1, left, st, h, h0, hn => by
    simp only [run]
    have p0 := paid_nonneg (e := e) h h0
    have p1 := paid_le (e := e) h h0
    by_cases hp : paidS ws st e left = 0
    · rw [if_pos hp]
      exact ⟨h, h0, hp, .refl _ _, rfl, fun _ _ => rfl⟩
    · rw [if_neg hp]
      obtain ⟨g1, g2, g3, g4, g5, g6⟩ := run_ok e n (h.next (e := e) h0) (left := left - paidS ws st e left) (by omega) (by omega)
      refine ⟨g1, g2, g3, Like.next.trans g4, ?_, fun e' he => ?_⟩
      · rw [g5, outOf_next, if_pos rfl]; omega
      · rw [g6 e' he, outOf_next, if_neg he]; omega
end Esta
