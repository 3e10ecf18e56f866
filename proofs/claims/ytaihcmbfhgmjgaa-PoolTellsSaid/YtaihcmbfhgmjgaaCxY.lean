/-
  Snapshots: states as finite tables.
-/
import Derived.Test.YtaihcmbfhgmjgaaCxX
set_option linter.unusedSimpArgs false
set_option linter.unusedVariables false
namespace Cx
open Go Go.RowKit

structure Snap where
  rs : List Sh
  os : List Ob
  deriving Inhabited

def lookO : List Nat → List Ob → Nat → Ob
  | i :: is, o :: os, j => bif Nat.beq i j then o else lookO is os j
  | _, _, _ => .dead
def unopt : Sh → Sh
  | .opt _ _ => .none
  | s => s
def Snap.st (ids : List Nat) (s : Snap) : St := ⟨fun t => unopt (s.rs.getD t .none), fun j => lookO ids s.os j, fun _ => 0⟩
def St.snap (n : Nat) (ids : List Nat) (S : St) : Snap := ⟨(List.range n).map fun t => normSh S (S.r t), ids.map fun j => normOb S (S.o j)⟩
def Snap.beq (a b : Snap) : Bool := shsBeq a.rs b.rs && obsBeq a.os b.os
theorem Snap.beq_eq (a b : Snap) (h : a.beq b = true) : a = b := by
  cases a; cases b
  simp only [Snap.beq, Bool.and_eq_true] at h
  rw [shsBeq_eq _ _ h.1, obsBeq_eq _ _ h.2]
def Snap.meet (a b : Snap) : Snap := ⟨List.zipWith meetSh a.rs b.rs, List.zipWith meetOb a.os b.os⟩

theorem unopt_ne (s : Sh) : ∀ gs s', unopt s ≠ .opt gs s' := by
  intro gs s' e
  cases s <;> simp [unopt] at e
theorem Snap.noOpt (ids : List Nat) (s : Snap) : ∀ t gs s', (s.st ids).r t ≠ .opt gs s' := fun t => unopt_ne _

section
variable {C : Ctx} {S : St} {ρ : Env} {σ : Im} {own : Nat → Option Nat} {hv : Nat → Value} {w0 : World} {σ0 : Base} {A : Nat → Prop} {a : Act} {w : World} {n : Nat} {ids : List Nat}

theorem lookO_map (f : Nat → Ob) (P : Ob → Prop) (hd : P .dead) (j : Nat) (hf : P (f j)) : ∀ ids : List Nat, P (lookO ids (ids.map f) j)
  | [] => hd
  | i :: is => by
    simp only [List.map_cons, lookO]
    cases hb : Nat.beq i j
    · exact lookO_map f P hd j hf is
    · rw [Nat.eq_of_beq_eq_true hb]; exact hf

theorem unopt_ok {s : Sh} {v : Value} {d : D} (h : CellOK C S ρ σ hv s v d) : CellOK C S ρ σ hv (unopt s) v d := by
  cases s <;> first | exact h | trivial

theorem Inv.snap (h : Inv C S ρ σ own hv w0 σ0 A a w) (n : Nat) (ids : List Nat) : Inv C ((S.snap n ids).st ids) ρ σ own hv w0 σ0 (fun _ => False) a w := by
  have h1 := h.norm
  have hc : Compat S.norm hv ((S.snap n ids).st ids) hv := ⟨fun _ => Nat.le_refl _, fun _ _ => rfl⟩
  refine h1.weaken (fun t => ?_) (fun j => ?_) (Snap.noOpt _ _) (fun j hj => ⟨lookO_map (fun j => normOb S (S.o j)) (fun ob => ob = .tr → normOb S (S.o j) = .tr) (fun e => by cases e) j id ids hj, rfl⟩)
  · refine CellOK.mono' (ρ := ρ) (.refl σ) hc (Snap.noOpt _ _ t) ?_
    show CellOK C S.norm ρ σ hv (unopt (((List.range n).map fun t => normSh S (S.r t)).getD t .none)) _ _
    refine unopt_ok ?_
    rw [List.getD_eq_getElem?_getD, List.getElem?_map]
    by_cases ht : t < n
    · rw [List.getElem?_range ht]; exact h1.regs t
    · rw [List.getElem?_eq_none (by simpa using ht)]; trivial
  · have ho := (h1.objs j).mono (.refl σ) hc (w := w) (w' := w) rfl rfl (fun k hk => ⟨hk, rfl⟩)
    exact lookO_map (fun j => normOb S (S.o j)) (fun ob => ObjOK C _ ρ σ own hv w w0.heap.size j ob) trivial j ho ids

theorem zip_get1 {f : Sh → Sh → Sh} : ∀ (x y : List Sh) (t : Nat), (List.zipWith f x y).getD t .none = .none ∨ ∃ s u, x.getD t .none = s ∧ y.getD t .none = u ∧ (List.zipWith f x y).getD t .none = f s u
  | [], _, t => .inl (by simp)
  | _ :: _, [], t => .inl (by simp)
  | a :: as, b :: bs, 0 => .inr ⟨a, b, rfl, rfl, rfl⟩
  | a :: as, b :: bs, t + 1 => by simpa using zip_get1 (f := f) as bs t

theorem lookO_zip {f : Ob → Ob → Ob} : ∀ (ids : List Nat) (x y : List Ob) (j : Nat), lookO ids (List.zipWith f x y) j = .dead ∨ lookO ids (List.zipWith f x y) j = f (lookO ids x j) (lookO ids y j)
  | [], _, _, _ => .inl rfl
  | _ :: _, [], _, _ => .inl rfl
  | _ :: _, _ :: _, [], _ => .inl rfl
  | i :: is, a :: as, b :: bs, j => by
    simp only [List.zipWith_cons_cons, lookO]
    cases Nat.beq i j
    · exact lookO_zip is as bs j
    · exact .inr rfl

theorem unopt_meet1 {s u : Sh} {v : Value} {d : D} (h : CellOK C S ρ σ hv (unopt s) v d) : CellOK C S ρ σ hv (unopt (meetSh s u)) v d := by
  cases hs : s with
  | opt gs s' => cases u <;> simp [meetSh, unopt, CellOK]
  | _ => rw [hs] at h; exact unopt_ok (meetSh_ok1 h).1
theorem unopt_meet2 {s u : Sh} {v : Value} {d : D} (h : CellOK C S ρ σ hv (unopt u) v d) : CellOK C S ρ σ hv (unopt (meetSh s u)) v d := by
  cases hs : u with
  | opt gs s' => cases s <;> simp [meetSh, unopt, CellOK]
  | _ => rw [hs] at h; exact unopt_ok (meetSh_ok2 h).1

theorem meet_tr {x y : Snap} {j : Nat} (h : ((x.meet y).st ids).o j = .tr) : (x.st ids).o j = .tr ∧ (y.st ids).o j = .tr := by
  change lookO ids (List.zipWith meetOb x.os y.os) j = .tr at h
  rcases lookO_zip (f := meetOb) ids x.os y.os j with h0 | h0
  · rw [h0] at h; cases h
  · rw [h0] at h; exact meetOb_tr h

theorem Snap.meet_ok1 {x y : Snap} (h : Inv C (x.st ids) ρ σ own hv w0 σ0 A a w) : Inv C ((x.meet y).st ids) ρ σ own hv w0 σ0 (fun _ => False) a w := by
  have hc : Compat (x.st ids) hv ((x.meet y).st ids) hv := ⟨fun _ => Nat.le_refl _, fun _ _ => rfl⟩
  refine h.weaken (fun t => ?_) (fun j => ?_) (Snap.noOpt _ _) (fun j hj => ⟨(meet_tr hj).1, rfl⟩)
  · refine CellOK.mono' (ρ := ρ) (.refl σ) hc (Snap.noOpt _ _ t) ?_
    show CellOK C (x.st ids) ρ σ hv (unopt ((List.zipWith meetSh x.rs y.rs).getD t .none)) _ _
    rcases zip_get1 (f := meetSh) x.rs y.rs t with h0 | ⟨s, u, h1, h2, h3⟩
    · rw [h0]; trivial
    · rw [h3]; exact unopt_meet1 (by rw [← h1]; exact h.regs t)
  · refine ObjOK.mono (S := x.st ids) (ρ := ρ) (own := own) (hv := hv) (.refl σ) hc (w := w) rfl rfl (fun k hk => ⟨hk, rfl⟩) ?_
    show ObjOK C _ ρ σ own hv w w0.heap.size j (lookO ids (List.zipWith meetOb x.os y.os) j)
    rcases lookO_zip (f := meetOb) ids x.os y.os j with h0 | h0
    · rw [h0]; trivial
    · rw [h0]; exact meetOb_ok1 (h.objs j)

theorem Snap.meet_ok2 {x y : Snap} (h : Inv C (y.st ids) ρ σ own hv w0 σ0 A a w) : Inv C ((x.meet y).st ids) ρ σ own hv w0 σ0 (fun _ => False) a w := by
  have hc : Compat (y.st ids) hv ((x.meet y).st ids) hv := ⟨fun _ => Nat.le_refl _, fun _ _ => rfl⟩
  refine h.weaken (fun t => ?_) (fun j => ?_) (Snap.noOpt _ _) (fun j hj => ⟨(meet_tr hj).2, rfl⟩)
  · refine CellOK.mono' (ρ := ρ) (.refl σ) hc (Snap.noOpt _ _ t) ?_
    show CellOK C (y.st ids) ρ σ hv (unopt ((List.zipWith meetSh x.rs y.rs).getD t .none)) _ _
    rcases zip_get1 (f := meetSh) x.rs y.rs t with h0 | ⟨s, u, h1, h2, h3⟩
    · rw [h0]; trivial
    · rw [h3]; exact unopt_meet2 (by rw [← h2]; exact h.regs t)
  · refine ObjOK.mono (S := y.st ids) (ρ := ρ) (own := own) (hv := hv) (.refl σ) hc (w := w) rfl rfl (fun k hk => ⟨hk, rfl⟩) ?_
    show ObjOK C _ ρ σ own hv w w0.heap.size j (lookO ids (List.zipWith meetOb x.os y.os) j)
    rcases lookO_zip (f := meetOb) ids x.os y.os j with h0 | h0
    · rw [h0]; trivial
    · rw [h0]; exact meetOb_ok2 (h.objs j)
end
end Cx
