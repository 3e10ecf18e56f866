/-
  EstateOrder: the plain law.
-/
import Derived.Test.YtjkeifcibnadcaaEsP
set_option linter.unusedSimpArgs false
set_option linter.unusedVariables false
namespace Esta
open Go Go.Proofs Cx
variable {ws : List Int} {st : Stt} {e left : Int}

/-- Right, without an order of the proofs -/
theorem rightF_iff {es : List Est} {ws : List Int} {ps : List Pr} : rightF es ws ps = true ↔ es.length ≤ 10 ∧ ws.length ≤ 50 ∧ ps.length ≤ 100 ∧ (∀ x, x ∈ es → 0 ≤ x.pot ∧ x.pot ≤ 1099511627776) ∧ (∀ w, w ∈ ws → 1 ≤ w ∧ w ≤ 1099511627776) ∧
    (∀ p, p ∈ ps → (0 ≤ p.bill ∧ p.bill ≤ ws.length - 1) ∧ (0 ≤ p.est ∧ p.est ≤ es.length - 1) ∧ 1 ≤ p.sum ∧ p.sum ≤ ws.getD p.bill.toNat 0) ∧ ps.Pairwise (fun p q => ¬ (p.bill = q.bill ∧ p.est = q.est)) := by
  unfold rightF
  simp only [Bool.and_eq_true, decide_eq_true_eq, List.all_eq_true, inn_iff]
  constructor
  · rintro ⟨⟨⟨⟨⟨h1, h2⟩, h3⟩, h4⟩, h5⟩, h6⟩
    have key : ∀ k (hk : k < ps.length), (0 ≤ ps[k].bill ∧ ps[k].bill ≤ ws.length - 1) ∧ (0 ≤ ps[k].est ∧ ps[k].est ≤ es.length - 1) ∧ (ps.take k).any (same ps[k]) = false ∧ (1 ≤ ps[k].sum ∧ ps[k].sum ≤ ws.getD ps[k].bill.toNat 0) := by
      intro k hk
      have := h6 k (List.mem_range.2 hk)
      simp only [okP, Bool.and_eq_true, Bool.not_eq_true', inn_iff] at this
      rw [getD_at ps k hk] at this
      exact ⟨this.1.1.1, this.1.1.2, this.1.2, this.2⟩
    refine ⟨h1, h2, h3, h4, h5, fun p hp => ?_, ?_⟩
    · obtain ⟨k, hk, rfl⟩ := List.getElem_of_mem hp
      obtain ⟨a, b, c, d⟩ := key k hk
      exact ⟨a, b, d⟩
    · rw [List.pairwise_iff_getElem]
      intro i j hi hj hij
      rintro ⟨a, b⟩
      have := (key j hj).2.2.1
      rw [List.any_eq_false] at this
      refine this ps[i] ?_ ?_
      · rw [List.mem_take_iff_getElem]; exact ⟨i, by omega, rfl⟩
      · simp [same, a, b]
  · rintro ⟨h1, h2, h3, h4, h5, h6, h7⟩
    refine ⟨⟨⟨⟨⟨h1, h2⟩, h3⟩, h4⟩, h5⟩, fun k hk => ?_⟩
    have hk := List.mem_range.1 hk
    obtain ⟨a, b, d⟩ := h6 ps[k] (List.getElem_mem hk)
    simp only [okP, Bool.and_eq_true, Bool.not_eq_true', inn_iff]
    rw [getD_at ps k hk]
    refine ⟨⟨⟨a, b⟩, ?_⟩, d⟩
    rw [List.any_eq_false]
    intro q hq hs
    obtain ⟨i, hi, rfl⟩ := List.mem_take_iff_getElem.1 hq
    rw [List.pairwise_iff_getElem] at h7
    refine h7 i k (by omega) hk (by omega) ?_
    simp [same] at hs
    exact ⟨hs.1.symm, hs.2.symm⟩

/-! turned -/
def rot {α : Type} (n : Nat) (l : List α) : List α := l.drop n ++ l.take n
theorem rot_map {α β : Type} (f : α → β) (n : Nat) (l : List α) : (rot n l).map f = rot n (l.map f) := by
  unfold rot; rw [List.map_append, List.map_drop, List.map_take]
theorem rot_sum (n : Nat) (l : List Int) : (rot n l).sum = l.sum := by
  unfold rot
  have := sum_append' (l.take n) (l.drop n)
  rw [List.take_append_drop] at this
  rw [sum_append', this]; omega
theorem rot_perm {α : Type} (n : Nat) (l : List α) : (rot n l).Perm l := by
  unfold rot
  have := List.perm_append_comm (l₁ := l.drop n) (l₂ := l.take n)
  rwa [List.take_append_drop] at this
theorem rot_rcv (n : Nat) (b : Int) : rcv (rot n st) b = rcv st b := by unfold rcv; rw [rot_map, rot_sum]
theorem rot_lack (n : Nat) (x : Pr × Int) : lack ws (rot n st) x = lack ws st x := by unfold lack; rw [rot_rcv]
theorem rot_act (n : Nat) (x : Pr × Int) : act ws (rot n st) e x ↔ act ws st e x := by unfold act; rw [rot_lack]
theorem rot_total (n : Nat) : total ws (rot n st) e = total ws st e := by
  unfold total
  rw [rot_map, rot_sum]
  simp only [rot_act]
theorem rot_pay (n : Nat) (x : Pr × Int) : pay ws (rot n st) e left x = pay ws st e left x := by
  unfold pay; simp only [rot_act, rot_lack, rot_total]
theorem rot_paid (n : Nat) : paidS ws (rot n st) e left = paidS ws st e left := by
  unfold paidS
  rw [show pay ws (rot n st) e left = pay ws st e left from funext fun x => rot_pay n x, rot_map, rot_sum]
theorem rot_next (n : Nat) : next ws (rot n st) e left = rot n (next ws st e left) := by
  unfold next
  simp only [rot_pay]
  rw [rot_map]
theorem rot_run (e : Int) (n : Nat) : ∀ (k : Nat) (left : Int) (st : Stt), run ws e k left (rot n st) = ((run ws e k left st).1, rot n (run ws e k left st).2)
  | 0, left, st => rfl
  | k + 1, left, st => by
    simp only [run, rot_paid, rot_next]
    split
    · rfl
    · exact rot_run e n k _ _
theorem rot_share (n : Nat) : ∀ (l : List Int) (e : Int) (st : Stt), share ws l e (rot n st) = rot n (share ws l e st)
  | [], e, st => rfl
  | p :: l, e, st => by
    simp only [share, rot_run]
    exact rot_share n l (e + 1) _
theorem rot_shareF (es : List Est) (ws : List Int) (ps : List Pr) (n : Nat) : shareF es ws (rot n ps) = rot n (shareF es ws ps) := by
  unfold shareF
  have : start (rot n ps) = rot n (start ps) := rot_map _ n ps
  rw [this, rot_share]
theorem rot_right {es : List Est} {ws : List Int} {ps : List Pr} (n : Nat) (h : rightF es ws ps = true) : rightF es ws (rot n ps) = true := by
  rw [rightF_iff] at h ⊢
  obtain ⟨h1, h2, h3, h4, h5, h6, h7⟩ := h
  refine ⟨h1, h2, by rw [(rot_perm n ps).length_eq]; exact h3, h4, h5, fun p hp => h6 p ((rot_perm n ps).mem_iff.1 hp), ?_⟩
  refine (List.Perm.pairwise_iff (R := fun p q : Pr => ¬ (p.bill = q.bill ∧ p.est = q.est)) (fun {a b} hab h => hab ⟨h.1.symm, h.2.symm⟩) (rot_perm n ps)).2 h7
theorem rot_at {α : Type} (n : Nat) (l : List α) (hn : n ≤ l.length) (i : Nat) (hi : i < l.length) : (rot n l)[i]'(by rw [(rot_perm n l).length_eq]; exact hi) = l[(i + n) % l.length]'(Nat.mod_lt _ (by omega)) := by
  unfold rot
  rw [List.getElem_append]
  split
  · rename_i h
    rw [List.length_drop] at h
    have e1 : (i + n) % l.length = n + i := by rw [Nat.mod_eq_of_lt (by omega)]; omega
    simp only [e1, List.getElem_drop]
  · rename_i h
    rw [List.length_drop] at h
    have e1 : (i + n) % l.length = i - (l.length - n) := by
      have : i + n = (i - (l.length - n)) + l.length := by omega
      rw [this, Nat.add_mod_right, Nat.mod_eq_of_lt (by omega)]
    simp only [e1, List.getElem_take, List.length_drop]

/-! without an estate -/
def drp (g : Int) (st : Stt) : Stt := st.filter fun x => decide (x.1.est ≠ g)
theorem sum_filter {α : Type} (p : α → Bool) (f : α → Int) : ∀ (l : List α), (∀ x, x ∈ l → p x = false → f x = 0) → ((l.filter p).map f).sum = (l.map f).sum
  | [], _ => rfl
  | x :: l, h => by
    have ih := sum_filter p f l fun y hy => h y (List.mem_cons_of_mem _ hy)
    by_cases hp : p x = true
    · rw [List.filter_cons_of_pos hp]; simp only [List.map_cons, List.sum_cons, ih]
    · rw [List.filter_cons_of_neg hp]; simp only [List.map_cons, List.sum_cons, ih, h x (List.mem_cons_self ..) (by simpa using hp)]; omega
/-- of this estate nothing has been paid -/
def Zero (g : Int) (st : Stt) : Prop := ∀ x, x ∈ st → x.1.est = g → x.2 = 0
variable {g : Int}
theorem drp_rcv (hz : Zero g st) (b : Int) : rcv (drp g st) b = rcv st b := sum_filter _ _ st fun x hx h => by
  have : x.1.est = g := by simpa using h
  rw [hz x hx this]; split <;> rfl
theorem drp_lack (hz : Zero g st) (x : Pr × Int) : lack ws (drp g st) x = lack ws st x := by unfold lack; rw [drp_rcv hz]
theorem drp_act (hz : Zero g st) (x : Pr × Int) : act ws (drp g st) e x ↔ act ws st e x := by unfold act; rw [drp_lack hz]
theorem drp_total (hz : Zero g st) (he : e ≠ g) : total ws (drp g st) e = total ws st e := by
  unfold total
  simp only [drp_act hz]
  refine sum_filter _ _ st fun x hx h => if_neg fun ha => he ?_
  have : x.1.est = g := by simpa using h
  rw [← ha.1, this]
theorem drp_pay (hz : Zero g st) (he : e ≠ g) (x : Pr × Int) : pay ws (drp g st) e left x = pay ws st e left x := by
  unfold pay; simp only [drp_act hz, drp_lack hz, drp_total hz he]
theorem pay_other (x : Pr × Int) (h : x.1.est ≠ e) : pay ws st e left x = 0 := if_neg fun ha => h ha.1
theorem drp_paid (hz : Zero g st) (he : e ≠ g) : paidS ws (drp g st) e left = paidS ws st e left := by
  unfold paidS
  rw [show pay ws (drp g st) e left = pay ws st e left from funext fun x => drp_pay hz he x]
  refine sum_filter _ _ st fun x hx h => pay_other x ?_
  have : x.1.est = g := by simpa using h
  rw [this]; exact fun hh => he hh.symm
theorem drp_next (hz : Zero g st) (he : e ≠ g) : next ws (drp g st) e left = drp g (next ws st e left) := by
  unfold next
  simp only [drp_pay hz he]
  unfold drp
  rw [List.filter_map]
  rfl
theorem Zero.next (hz : Zero g st) (he : e ≠ g) : Zero g (next ws st e left) := fun y hy h => by
  obtain ⟨x, hx, rfl⟩ := List.mem_map.1 hy
  have h' : x.1.est = g := h
  show x.2 + pay ws st e left x = 0
  rw [hz x hx h', pay_other x (by rw [h']; exact fun hh => he hh.symm)]; rfl
theorem drp_run (e : Int) (he : e ≠ g) : ∀ (k : Nat) (left : Int) (st : Stt), Zero g st → run ws e k left (drp g st) = ((run ws e k left st).1, drp g (run ws e k left st).2) ∧ Zero g (run ws e k left st).2
  | 0, left, st, hz => ⟨rfl, hz⟩
  | k + 1, left, st, hz => by
    simp only [run, drp_paid hz he, drp_next hz he]
    split
    · exact ⟨rfl, hz⟩
    · exact drp_run e he k _ _ (hz.next he)
theorem drp_share : ∀ (l : List Int) (e : Int) (st : Stt), (e + l.length ≤ g) → Zero g st → share ws l e (drp g st) = drp g (share ws l e st) ∧ Zero g (share ws l e st)
  | [], e, st, _, hz => ⟨rfl, hz⟩
  | p :: l, e, st, h, hz => by
    simp only [List.length_cons] at h
    obtain ⟨h1, h2⟩ := drp_run (ws := ws) (g := g) e (by omega) (p.toNat + 1) p st hz
    simp only [share, h1]
    exact drp_share l (e + 1) _ (by omega) h2
def lessP (g : Int) (ps : List Pr) : List Pr := ps.filter fun p => decide (p.est ≠ g)
theorem drp_start (ps : List Pr) : start (lessP g ps) = drp g (start ps) := by
  unfold start lessP drp
  rw [List.filter_map]; rfl
theorem Zero.start (ps : List Pr) : Zero g (start ps) := fun x hx _ => by
  obtain ⟨p, hp, rfl⟩ := List.mem_map.1 hx; rfl
theorem less_shareF {es : List Est} {ps : List Pr} (hr : rightF es ws ps = true) (hne : 0 < es.length) : shareF (es.take (es.length - 1)) ws (lessP ((es.length : Int) - 1) ps) = drp ((es.length : Int) - 1) (shareF es ws ps) := by
  obtain ⟨f1, f2, f3, f4, f5⟩ := rightF_facts hr
  have hlen : ((es.map (·.pot)).take (es.length - 1)).length = es.length - 1 := by rw [List.length_take]; simp
  obtain ⟨h1, h2⟩ := drp_share (ws := ws) (g := (es.length : Int) - 1) ((es.map (·.pot)).take (es.length - 1)) 0 (start ps) (by rw [hlen]; omega) (Zero.start ps)
  have hlast : es.length - 1 < es.length := by omega
  have hsplit : es.map (·.pot) = (es.map (·.pot)).take (es.length - 1) ++ [es[es.length - 1].pot] := by
    have h3 : es.length - 1 < (es.map (·.pot)).length := by simpa using hlast
    have h4 : (es.map (·.pot)).take (es.length - 1 + 1) = es.map (·.pot) := List.take_of_length_le (by simp; omega)
    rw [List.take_succ_eq_append_getElem h3] at h4
    simpa using h4.symm
  have e1 : shareF (es.take (es.length - 1)) ws (lessP ((es.length : Int) - 1) ps) = drp ((es.length : Int) - 1) (share ws ((es.map (·.pot)).take (es.length - 1)) 0 (start ps)) := by
    unfold shareF
    rw [drp_start, List.map_take, h1]
  rw [e1]
  obtain ⟨a1, a2⟩ := share_good ((es.map (·.pot)).take (es.length - 1)) 0 f5 fun p hp => by
    obtain ⟨x, hx, rfl⟩ := List.mem_map.1 (List.mem_of_mem_take hp)
    exact (f2 x hx).1
  have hpot := f2 _ (List.getElem_mem hlast)
  have e2 : shareF es ws ps = (run ws ((es.length : Int) - 1) (es[es.length - 1].pot.toNat + 1) es[es.length - 1].pot (share ws ((es.map (·.pot)).take (es.length - 1)) 0 (start ps))).2 := by
    unfold shareF
    conv => lhs; rw [hsplit]
    rw [share_snoc, hlen]
    have e3 : (0 : Int) + ((es.length - 1 : Nat) : Int) = (es.length : Int) - 1 := by omega
    rw [e3]
  rw [e2]
  obtain ⟨g1, g2, g3, g4, g5, g6⟩ := run_ok ((es.length : Int) - 1) (es[es.length - 1].pot.toNat + 1) a1 hpot.1 (by omega)
  generalize share ws ((es.map (·.pot)).take (es.length - 1)) 0 (start ps) = S0 at *
  generalize (run ws ((es.length : Int) - 1) (es[es.length - 1].pot.toNat + 1) es[es.length - 1].pot S0).2 = R at *
  -- the two differ at this estate's proofs alone
  have key : ∀ (a b : Stt), b.map (·.1) = a.map (·.1) → (∀ i : Nat, i < a.length → (a.getD i default).1.est ≠ (es.length : Int) - 1 → b.getD i default = a.getD i default) → drp ((es.length : Int) - 1) a = drp ((es.length : Int) - 1) b := by
    intro a
    induction a with
    | nil =>
      intro b hb _
      have : b = [] := by simpa using hb
      rw [this]
    | cons x a ih =>
      intro b hb hs
      match b, hb with
      | y :: b, hb =>
        simp only [List.map_cons, List.cons.injEq] at hb
        have h0 := hs 0 (by simp)
        have hr := ih b hb.2 fun i hi hne => hs (i + 1) (by simpa using hi) hne
        unfold drp at hr ⊢
        by_cases c : x.1.est = (es.length : Int) - 1
        · rw [List.filter_cons_of_neg (by simpa using c), List.filter_cons_of_neg (by rw [hb.1]; simpa using c)]; exact hr
        · have : y = x := h0 c
          rw [List.filter_cons_of_pos (by simpa using c), this, List.filter_cons_of_pos (by simpa using c), hr]
  exact key S0 R g4.fst g4.same
theorem less_right {es : List Est} {ps : List Pr} (hr : rightF es ws ps = true) (hne : 0 < es.length) : rightF (es.take (es.length - 1)) ws (lessP ((es.length : Int) - 1) ps) = true := by
  rw [rightF_iff] at hr ⊢
  obtain ⟨h1, h2, h3, h4, h5, h6, h7⟩ := hr
  have hl : (es.take (es.length - 1)).length = es.length - 1 := by rw [List.length_take]; omega
  refine ⟨by omega, h2, Nat.le_trans (List.length_filter_le ..) h3, fun x hx => h4 x (List.mem_of_mem_take hx), h5, fun p hp => ?_, h7.filter _⟩
  obtain ⟨hm, hd⟩ := List.mem_filter.1 hp
  have hd : p.est ≠ (es.length : Int) - 1 := by simpa using hd
  obtain ⟨a, b, c⟩ := h6 p hm
  exact ⟨a, by rw [hl]; omega, c⟩
end Esta
