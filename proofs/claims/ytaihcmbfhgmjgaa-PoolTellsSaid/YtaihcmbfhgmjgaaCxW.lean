/-
  Where ways meet: states made canonical, and weakened.
-/
import Derived.Test.YtaihcmbfhgmjgaaCxV
set_option linter.unusedSimpArgs false
set_option linter.unusedVariables false
namespace Cx
open Go Go.RowKit

/-- a shape with its version struck: void ones say nothing -/
def normSh (S : St) : Sh → Sh
  | .none => .none
  | .dat t => .dat t
  | .obj j ver => bif Nat.beq ver (S.ver j) then .obj j 0 else .none
  | .ptr j ver off => bif Nat.beq ver (S.ver j) then .ptr j 0 off else .none
  | .eptr j ver size off => bif Nat.beq ver (S.ver j) then .eptr j 0 size off else .none
  | .opt _ _ => .none
  | .yv => .yv
  | .fclo f caps => bif caps.all (fun c => Nat.beq c.2 (S.ver c.1)) then .fclo f (caps.map fun c => (c.1, 0)) else .none
def normOb (S : St) : Ob → Ob
  | .box ag shs => .box ag (shs.map (normSh S))
  | ob => ob
def St.norm (S : St) : St := ⟨fun t => normSh S (S.r t), fun j => normOb S (S.o j), fun _ => 0⟩

def meetSh : Sh → Sh → Sh
  | .dat a, .dat b => bif Ty.sub a b then .dat b else bif Ty.sub b a then .dat a else .none
  | .obj j v, .obj k u => bif Nat.beq j k && Nat.beq v u then .obj j v else .none
  | .ptr j v o, .ptr k u p => bif Nat.beq j k && Nat.beq v u && Nat.beq o p then .ptr j v o else .none
  | .eptr j v s o, .eptr k u t p => bif Nat.beq j k && Nat.beq v u && Nat.beq s t && Nat.beq o p then .eptr j v s o else .none
  | .yv, .yv => .yv
  | .fclo f a, .fclo g b => bif Nat.beq f g && capBeq a b then .fclo f a else .none
  | _, _ => .none
def meetShs : List Sh → List Sh → Option (List Sh)
  | [], [] => some []
  | a :: as, b :: bs => (meetShs as bs).map (meetSh a b :: ·)
  | _, _ => none
def meetOb : Ob → Ob → Ob
  | .fz a, .fz b => bif Ty.beq a b then .fz a else .dead
  | .fbox a, .fbox b => bif Ty.beq a b then .fbox a else .dead
  | .box ag as, .box bg bs => bif ag == bg then (match meetShs as bs with | some cs => .box ag cs | none => .dead) else .dead
  | .row T e, .row U f => bif Nat.beq T U && Ty.beq e f then .row T e else .dead
  | .mp k e, .mp l f => bif Ty.beq k l && Ty.beq e f then .mp k e else .dead
  | .tr, .tr => .tr
  | _, _ => .dead

/-- the weaker of two states: the first 'n' registers, the objects named -/
def St.meet (n : Nat) (ids : List Nat) (S T : St) : St :=
  ⟨fun t => bif Nat.blt t n then meetSh (S.r t) (T.r t) else .none, fun j => bif ids.any (Nat.beq j) then meetOb (S.o j) (T.o j) else .dead, S.ver⟩

section
variable {C : Ctx} {S : St} {ρ : Env} {σ : Im} {own : Nat → Option Nat} {hv : Nat → Value} {w0 : World} {σ0 : Base} {A : Nat → Prop} {a : Act} {w : World} {gs : List (Nat × Bool)} {Φ : Funs} {dst : Nat}

theorem normSh_ok {s : Sh} {v : Value} {d : D} (h : CellOK C S ρ σ hv s v d) : CellOK C S.norm ρ σ hv (normSh S s) v d ∧ ∀ gs s', normSh S s ≠ .opt gs s' := by
  cases s with
  | none => exact ⟨trivial, fun _ _ e => by cases e⟩
  | dat t => exact ⟨h, fun _ _ e => by cases e⟩
  | obj j ver =>
    simp only [normSh]
    cases hb : Nat.beq ver (S.ver j)
    · exact ⟨trivial, fun _ _ e => by cases e⟩
    · exact ⟨⟨Nat.le_refl _, fun _ => h.2 (Nat.eq_of_beq_eq_true hb)⟩, fun _ _ e => by cases e⟩
  | ptr j ver off =>
    simp only [normSh]
    cases hb : Nat.beq ver (S.ver j)
    · exact ⟨trivial, fun _ _ e => by cases e⟩
    · exact ⟨⟨Nat.le_refl _, fun _ => h.2 (Nat.eq_of_beq_eq_true hb)⟩, fun _ _ e => by cases e⟩
  | eptr j ver size off =>
    simp only [normSh]
    cases hb : Nat.beq ver (S.ver j)
    · exact ⟨trivial, fun _ _ e => by cases e⟩
    · exact ⟨⟨Nat.le_refl _, fun _ => h.2 (Nat.eq_of_beq_eq_true hb)⟩, fun _ _ e => by cases e⟩
  | opt gs s => exact ⟨trivial, fun _ _ e => by cases e⟩
  | yv => exact ⟨h, fun _ _ e => by cases e⟩
  | fclo f caps =>
    simp only [normSh]
    cases hb : caps.all (fun c => Nat.beq c.2 (S.ver c.1))
    · exact ⟨trivial, fun _ _ e => by cases e⟩
    · refine ⟨?_, fun _ _ e => by cases e⟩
      obtain ⟨vs, h1, h2, h3⟩ := h
      refine ⟨vs, h1, by simpa using h2, fun i j ver hi => ?_⟩
      simp only [List.getElem?_map, Option.map_eq_some_iff] at hi
      obtain ⟨⟨j', v'⟩, hc, e⟩ := hi
      cases e
      have := List.all_eq_true.1 hb _ (List.mem_of_getElem? hc)
      exact ⟨Nat.le_refl _, fun _ => (h3 i _ _ hc).2 (Nat.eq_of_beq_eq_true this)⟩

/-- The general weakening: shape by shape, object by object. -/
theorem Inv.weaken (h : Inv C S ρ σ own hv w0 σ0 A a w) {S' : St} {ρ' : Env} (hr : ∀ t, CellOK C S' ρ' σ hv (S'.r t) (a.tmps.getD t undef) (ρ'.r t)) (ho : ∀ j, ObjOK C S' ρ' σ own hv w w0.heap.size j (S'.o j))
    (hn : ∀ t gs s, S'.r t ≠ .opt gs s) (ht : ∀ j, S'.o j = .tr → S.o j = .tr ∧ ρ'.o j = ρ.o j) : Inv C S' ρ' σ own hv w0 σ0 (fun _ => False) a w :=
  ⟨h.defers, h.ok, h.le, h.old, h.newc, h.newm, h.below, h.bw, h.owns, hr, ho, fun t gs s e => absurd e (hn t gs s), by
    obtain ⟨t, fx, cx, h1, h5⟩ := h.frame
    exact ⟨t, fx, cx, h1, fun j hj => by rw [(ht j hj).2]; exact h5 j (ht j hj).1⟩⟩

theorem normOb_tr {ob : Ob} (h : normOb S ob = .tr) : ob = .tr := by
  cases ob <;> simp only [normOb] at h <;> first | rfl | cases h
theorem meetOb_tr {x y : Ob} (h : meetOb x y = .tr) : x = .tr ∧ y = .tr := by
  cases x <;> cases y <;> simp only [meetOb] at h <;> first
    | exact ⟨rfl, rfl⟩
    | (cases h; done)
    | skip
  · rename_i a b; cases hb : Ty.beq a b <;> rw [hb] at h <;> cases h
  · rename_i a b; cases hb : Ty.beq a b <;> rw [hb] at h <;> cases h
  · rename_i ag as bg bs
    cases hb : ag == bg <;> rw [hb] at h
    · cases h
    · simp only [cond_true] at h
      split at h <;> cases h
  · rename_i T e U f; cases hb : (Nat.beq T U && Ty.beq e f) <;> rw [hb] at h <;> cases h
  · rename_i T e U f; cases hb : (Ty.beq T U && Ty.beq e f) <;> rw [hb] at h <;> cases h

theorem Inv.norm (h : Inv C S ρ σ own hv w0 σ0 A a w) : Inv C S.norm ρ σ own hv w0 σ0 (fun _ => False) a w := by
  refine h.weaken (fun t => (normSh_ok (h.regs t)).1) (fun j => ?_) (fun t => (normSh_ok (h.regs t)).2) (fun j hj => ⟨normOb_tr hj, rfl⟩)
  have hobj := h.objs j
  show ObjOK C S.norm ρ σ own hv w w0.heap.size j (normOb S (S.o j))
  cases hob : S.o j with
  | box ag shs =>
    rw [hob] at hobj
    obtain ⟨k, cs, T, ds, h1, h2, h3, h4, h5, h6, h7⟩ := hobj
    refine ⟨k, cs, T, ds, h1, h2, h3, by simpa using h4, h5, by simpa using h6, fun i s hi => ?_⟩
    simp only [List.getElem?_map, Option.map_eq_some_iff] at hi
    obtain ⟨s0, hs0, rfl⟩ := hi
    have := normSh_ok (h7 i s0 hs0).2
    exact ⟨this.2, this.1⟩
  | _ => rw [hob] at hobj; exact hobj

theorem bifSh_ok {b : Bool} {s : Sh} {v : Value} {d : D} (hs : ∀ gs s', s ≠ .opt gs s') (h : b = true → CellOK C S ρ σ hv s v d) : CellOK C S ρ σ hv (bif b then s else .none) v d ∧ ∀ gs s', (bif b then s else Sh.none) ≠ .opt gs s' := by
  cases b with
  | true => exact ⟨h rfl, hs⟩
  | false => exact ⟨trivial, fun _ _ e => by cases e⟩

theorem meetSh_ok1 {s u : Sh} {v : Value} {d : D} (h : CellOK C S ρ σ hv s v d) : CellOK C S ρ σ hv (meetSh s u) v d ∧ ∀ gs s', meetSh s u ≠ .opt gs s' := by
  cases s <;> cases u <;> simp only [meetSh] <;> first
    | exact ⟨trivial, fun _ _ e => by cases e⟩
    | exact bifSh_ok (fun _ _ e => by cases e) (fun _ => h)
    | exact ⟨h, fun _ _ e => by cases e⟩
    | skip
  rename_i a b
  cases h1 : Ty.sub a b
  · exact bifSh_ok (fun _ _ e => by cases e) (fun _ => h)
  · exact ⟨Rep.sub h h1, fun _ _ e => by cases e⟩

theorem meetSh_ok2 {s u : Sh} {v : Value} {d : D} (h : CellOK C S ρ σ hv u v d) : CellOK C S ρ σ hv (meetSh s u) v d ∧ ∀ gs s', meetSh s u ≠ .opt gs s' := by
  cases s <;> cases u <;> simp only [meetSh] <;> first
    | exact ⟨trivial, fun _ _ e => by cases e⟩
    | exact ⟨h, fun _ _ e => by cases e⟩
    | skip
  · rename_i a b
    cases h1 : Ty.sub a b
    · exact bifSh_ok (fun _ _ e => by cases e) (fun h2 => Rep.sub h h2)
    · exact ⟨h, fun _ _ e => by cases e⟩
  all_goals
    refine bifSh_ok (fun _ _ e => by cases e) (fun hb => ?_)
    simp only [Bool.and_eq_true] at hb
    first
      | (obtain ⟨⟨⟨h1, h2⟩, h3⟩, h4⟩ := hb; rw [Nat.eq_of_beq_eq_true h1, Nat.eq_of_beq_eq_true h2, Nat.eq_of_beq_eq_true h3, Nat.eq_of_beq_eq_true h4]; exact h)
      | (obtain ⟨⟨h1, h2⟩, h3⟩ := hb; rw [Nat.eq_of_beq_eq_true h1, Nat.eq_of_beq_eq_true h2, Nat.eq_of_beq_eq_true h3]; exact h)
      | (obtain ⟨h1, h2⟩ := hb; rw [Nat.eq_of_beq_eq_true h1, Nat.eq_of_beq_eq_true h2]; exact h)
      | (obtain ⟨h1, h2⟩ := hb; rw [Nat.eq_of_beq_eq_true h1, capBeq_eq _ _ h2]; exact h)

theorem meetShs_get : ∀ (as bs cs : List Sh), meetShs as bs = some cs → cs.length = as.length ∧ cs.length = bs.length ∧ ∀ (i : Nat) (c : Sh), cs[i]? = some c → ∃ x y, as[i]? = some x ∧ bs[i]? = some y ∧ c = meetSh x y
  | [], [], cs, h => by simp [meetShs] at h; subst h; simp
  | [], b :: bs, cs, h => by simp [meetShs] at h
  | a :: as, [], cs, h => by simp [meetShs] at h
  | a :: as, b :: bs, cs, h => by
    simp only [meetShs, Option.map_eq_some_iff] at h
    obtain ⟨ds, hd, rfl⟩ := h
    obtain ⟨h1, h2, h3⟩ := meetShs_get as bs ds hd
    refine ⟨by simp [h1], by simp [h2], fun i c hi => ?_⟩
    cases i with
    | zero => simp at hi; exact ⟨a, b, rfl, rfl, hi.symm⟩
    | succ i => simp at hi; simpa using h3 i c hi

theorem meetOb_ok1 {j B : Nat} {x y : Ob} (h : ObjOK C S ρ σ own hv w B j x) : ObjOK C S ρ σ own hv w B j (meetOb x y) := by
  cases x <;> cases y <;> simp only [meetOb] <;> first
    | trivial
    | (rename_i a b; cases Ty.beq a b; · trivial
       · exact h)
    | skip
  · rename_i ag as bg bs
    cases ag == bg
    · trivial
    · simp only [cond_true]
      split
      · rename_i cs hcs
        obtain ⟨l1, l2, hget⟩ := meetShs_get as bs cs hcs
        obtain ⟨k, cells, T, ds, h1, h2, h3, h4, h5, h6, h7⟩ := h
        refine ⟨k, cells, T, ds, h1, h2, h3, by omega, h5, by omega, fun i s hi => ?_⟩
        obtain ⟨x, y, hx, hy, rfl⟩ := hget i s hi
        have := meetSh_ok1 (u := y) (h7 i x hx).2
        exact ⟨this.2, this.1⟩
      · trivial
  · rename_i T e U f
    cases Nat.beq T U && Ty.beq e f
    · trivial
    · exact h
  · rename_i T e U f
    cases Ty.beq T U && Ty.beq e f
    · trivial
    · exact h

theorem meetOb_ok2 {j B : Nat} {x y : Ob} (h : ObjOK C S ρ σ own hv w B j y) : ObjOK C S ρ σ own hv w B j (meetOb x y) := by
  cases x <;> cases y <;> simp only [meetOb] <;> first
    | trivial
    | skip
  · rename_i a b
    cases hb : Ty.beq a b
    · trivial
    · rw [Ty.beq_eq _ _ hb]; exact h
  · rename_i a b
    cases hb : Ty.beq a b
    · trivial
    · rw [Ty.beq_eq _ _ hb]; exact h
  · rename_i ag as bg bs
    cases ag == bg
    · trivial
    · simp only [cond_true]
      split
      · rename_i cs hcs
        obtain ⟨l1, l2, hget⟩ := meetShs_get as bs cs hcs
        obtain ⟨k, cells, T, ds, h1, h2, h3, h4, h5, h6, h7⟩ := h
        refine ⟨k, cells, T, ds, h1, h2, h3, by omega, h5, by omega, fun i s hi => ?_⟩
        obtain ⟨x, y, hx, hy, rfl⟩ := hget i s hi
        have := meetSh_ok2 (s := x) (h7 i y hy).2
        exact ⟨this.2, this.1⟩
      · trivial
  · rename_i T e U f
    cases hb : (Nat.beq T U && Ty.beq e f)
    · trivial
    · simp only [Bool.and_eq_true] at hb
      rw [Nat.eq_of_beq_eq_true hb.1, Ty.beq_eq _ _ hb.2]; exact h
  · rename_i T e U f
    cases hb : (Ty.beq T U && Ty.beq e f)
    · trivial
    · simp only [Bool.and_eq_true] at hb
      rw [Ty.beq_eq _ _ hb.1, Ty.beq_eq _ _ hb.2]; exact h
end
end Cx
