/-
  Iterators: what they are asked; and the frames in which the rounds of a range over a function run.
-/
import Derived.Test.YtaihcmbfhgmjgaaCxZ
set_option linter.unusedSimpArgs false
set_option linter.unusedVariables false
namespace Cx
open Go Go.RowKit

/-- The contract of an iterator: it yields the elements xs, one by one, until it is told to stop (at the element m), whatever the other one does meanwhile, in its own memory. -/
def ItOK (C : Ctx) (f : Nat) (cts ys : List Ty) (ds xs : List D) : Prop :=
  ∀ (σ : Im) (w : World) (yv : Value) (vs : List Value) (F : D → (Nat → Prop) → (Nat → Prop) → World → Prop) (fx cx : Nat → Prop) (m : Nat), σ.ok w → CtxOK C σ → ArgsOK C σ cts vs ds → m ≤ xs.length →
    (∀ t fx cx w, F t fx cx w → ∀ k, fx k → k < w.heap.size) → (∀ t fx cx w, F t fx cx w → ∀ k, cx k → fx k) →
    (∀ t fx cx w w', F t fx cx w → Below 0 w w' → (∀ k, fx k → w'.heap[k]? = w.heap[k]?) → F t fx cx w') →
    F (.list []) fx cx w → (∀ k o x, σ.c k o = some x → ¬ cx k) → (∀ k x, σ.m k = some x → ¬ cx k) →
    (∀ (i : Nat) (fx cx : Nat → Prop) (w1 : World) (σ1 : Im) (args : List Value) (ds' : List D), i ≤ m → xs[i]? = some (.tup ds') → F (.list (xs.take i)) fx cx w1 → σ1.ok w1 → ArgsOK C σ1 ys args ds' →
      (∀ k o x, σ1.c k o = some x → ¬ cx k) → (∀ k x, σ1.m k = some x → ¬ cx k) →
      (∀ k o x, σ1.c k o = some x → σ.c k o = some x ∨ w.heap.size ≤ k) → (∀ k x, σ1.m k = some x → σ.m k = some x ∨ w.heap.size ≤ k) →
      YOK C.P yv args w1 fun u w2 => u = .bool (decide (i < m)) ∧ Below 0 w1 w2 ∧ (∀ k, k < w1.heap.size → ¬ cx k → w2.heap[k]? = w1.heap[k]?) ∧
        ∃ fx' cx', F (.list (xs.take (i + 1))) fx' cx' w2 ∧ (∀ k, fx' k → k < w1.heap.size → fx k ∨ (∃ o x, σ1.c k o = some x) ∨ (∃ x, σ1.m k = some x ∧ x ≠ dfrM)) ∧ (∀ k, cx' k → k < w1.heap.size → cx k)) →
    Calls C.P f (#[yv] ++ vs.toArray) w fun e w' => (∃ v, e = .returned v) ∧ ∃ fx cx, F (.list (xs.take (m + 1))) fx cx w'

/-- All that a table says of iterators is so. -/
def ItsOK (C : Ctx) (Φ : Funs) : Prop := ∀ f cs ys, C.cap f = some cs → itOf cs.args cs.res = some ys → (∃ fn, C.P.funcs[f]? = some fn ∧ fn.body.isSome = true ∧ (fn.name == "runtime.NumGoroutine") = false) ∧
  ∀ ds d, Φ f ds = some d → ∃ xs, d = .list xs ∧ (∀ x, x ∈ xs → ∃ ds', x = .tup ds' ∧ ds'.length = ys.length) ∧ ItOK C f cs.caps ys ds xs

section
variable {C : Ctx} {S : St} {ρ : Env} {σ : Im} {own : Nat → Option Nat} {hv : Nat → Value} {w0 : World} {σ0 : Base} {A : Nat → Prop} {a : Act} {w : World}

theorem Inv.mono_regs (h : Inv C S ρ σ own hv w0 σ0 A a w) {τ : Im} (hle : σ.le τ) (t : Nat) : CellOK C S ρ τ hv (S.r t) (a.tmps.getD t undef) (ρ.r t) :=
  CellOK.mono hle (.refl S hv) (fun _ _ _ => rfl) (fun gs s e => (h.opts t gs s e).2) (h.regs t)

/-- What another one knows of immutable memory is known here too. -/
theorem Inv.joinIm (h : Inv C S ρ σ own hv w0 σ0 A a w) {τ : Im} (hτ : τ.ok w) (hd : ∀ k, τ.m k ≠ some dfrM) (hoc : ∀ k o v, τ.c k o = some v → own k = none) (hom : ∀ k v, τ.m k = some v → own k = none)
    (hnc : ∀ k o v, τ.c k o = some v → σ.c k o = some v ∨ w0.heap.size ≤ k) (hnm : ∀ k v, τ.m k = some v → σ.m k = some v ∨ w0.heap.size ≤ k)
    (hfr : ∀ t fx cx, FrOK σ own w0.heap.size σ0 w t fx cx → (∀ k o v, τ.c k o = some v → ¬ cx k) ∧ ∀ k v, τ.m k = some v → ¬ cx k) : Inv C S ρ (σ.plus τ) own hv w0 σ0 A a w where
  defers := h.defers.mono (Im.plus_le1 σ τ)
  ok := Im.plus_ok h.ok hτ
  le := h.le.trans (Im.plus_le1 σ τ)
  old := h.old
  newc := fun k o x e => (Im.plus_c e).elim (h.newc k o x) fun e => (hnc k o x e).elim (h.newc k o x) .inr
  newm := fun k x e => (Im.plus_m e).elim (h.newm k x) fun e => (hnm k x e).elim (h.newm k x) .inr
  below := h.below
  bw := h.bw
  owns := fun k j hk => by
    obtain ⟨g1, g2, g3, g4⟩ := h.owns k j hk
    refine ⟨g1, g2, fun o => ?_, ?_⟩
    · cases e : (σ.plus τ).c k o with
      | none => rfl
      | some x =>
        rcases Im.plus_c e with e | e
        · rw [g3 o] at e; cases e
        · rw [hoc k o x e] at hk; cases hk
    · cases e : (σ.plus τ).m k with
      | none => rfl
      | some x =>
        rcases Im.plus_m e with e | e
        · rw [g4] at e; cases e
        · rw [hom k x e] at hk; cases hk
  regs := h.mono_regs (Im.plus_le1 σ τ)
  objs := fun j => (h.objs j).mono (Im.plus_le1 σ τ) (.refl S hv) rfl rfl fun k hk => ⟨hk, rfl⟩
  opts := h.opts
  frame := by
    obtain ⟨t, fx, cx, hf, ht⟩ := h.frame
    obtain ⟨h1, h2⟩ := hfr t fx cx hf
    exact ⟨t, fx, cx, ⟨hf.F, hf.own, fun k o x e => (Im.plus_c e).elim (hf.c k o x) (h1 k o x), fun k x e => (Im.plus_m e).elim (hf.m k x) (h2 k x), fun k e => (Im.plus_m e).elim (hf.d k) fun e => absurd e (hd k)⟩, ht⟩

/-- The world turns elsewhere. -/
theorem Inv.keep (h : Inv C S ρ σ own hv w0 σ0 A a w) {w' : World} {X : Nat → Prop} (hb : Below 0 w w') (hX : ∀ k, X k → w'.heap[k]? = w.heap[k]?) (h0 : ∀ k, k < w0.heap.size → X k) (ho : ∀ k j, own k = some j → X k) (hc : ∀ k o v, σ.c k o = some v → X k) (hm : ∀ k v, σ.m k = some v → X k)
    (hfr : ∀ t fx cx, FrOK σ own w0.heap.size σ0 w t fx cx → ∀ k, fx k → X k) : Inv C S ρ σ own hv w0 σ0 A a w' where
  defers := h.defers
  ok := ⟨fun k o v e => by rw [World.cell?_of_block (hX k (hc k o v e))]; exact h.ok.c k o v e, fun k v e => (h.ok.m k v e).keep (hX k (hm k v e))⟩
  le := h.le
  old := h.old
  newc := h.newc
  newm := h.newm
  below := h.below.trans ⟨hb.os, hb.tape, hb.output, hb.size, fun k hk => hX k (h0 k (Nat.lt_of_lt_of_le hk h.bw))⟩
  bw := h.bw
  owns := fun k j hk => let ⟨g1, g2, g3⟩ := h.owns k j hk; ⟨g1, Nat.lt_of_lt_of_le g2 hb.size, g3⟩
  regs := h.regs
  objs := fun j => (h.objs j).mono (.refl σ) (.refl S hv) rfl rfl fun k hk => ⟨hk, hX k (ho k j hk)⟩
  opts := h.opts
  frame := by
    obtain ⟨t, fx, cx, hf, ht⟩ := h.frame
    exact ⟨t, fx, cx, ⟨σ0.keep _ _ _ _ _ hf.F hb fun k hk => hX k (hfr t fx cx hf k hk), hf.own, hf.c, hf.m, hf.d⟩, ht⟩
end

/-- For a while: what is not owned here (but for X) must not be touched. -/
def Base.rnd (σ0 : Base) (σ : Im) (own : Nat → Option Nat) (w : World) (t : D) (X : Nat → Prop) : Base :=
  { σ with
    B := σ0.B
    fin := False
    F := fun t' fx cx w' => t' = t ∧ (∀ k, fx k ↔ (k < w.heap.size ∧ own k = none ∧ σ.m k ≠ some dfrM ∧ ¬ X k)) ∧ (∀ k, cx k ↔ (fx k ∧ (∀ o, σ.c k o = none) ∧ σ.m k = none)) ∧ w.heap.size ≤ w'.heap.size ∧ ∀ k, fx k → w'.heap[k]? = w.heap[k]?
    lt := fun t' fx cx w' h k hk => Nat.lt_of_lt_of_le ((h.2.1 k).1 hk).1 h.2.2.2.1
    sub := fun t' fx cx w' h k hk => ((h.2.2.1 k).1 hk).1
    keep := fun t' fx cx w' w'' h hb hs => ⟨h.1, h.2.1, h.2.2.1, Nat.le_trans h.2.2.2.1 hb.size, fun k hk => (hs k hk).trans (h.2.2.2.2 k hk)⟩ }

section
variable {C : Ctx} {S S' : St} {ρ ρ' : Env} {σ σ' : Im} {own own' : Nat → Option Nat} {hv hv' : Nat → Value} {w0 : World} {σ0 : Base} {A A' : Nat → Prop} {a a' : Act} {w w' : World} {X : Nat → Prop}

theorem Inv.toRnd (h : Inv C S ρ σ own hv w0 σ0 A a w) {t : D} (ht : ∀ j, S.o j = .tr → (∃ ys, C.yl = some (j, ys)) ∧ ρ.o j = t) : Inv C S ρ σ own hv w0 (σ0.rnd σ own w t X) A a w := by
  refine ⟨h.defers, h.ok, .refl σ, (fun hf => hf.elim), (fun _ _ _ e => .inl e), (fun _ _ e => .inl e), h.below, h.bw, h.owns, h.regs, h.objs, h.opts, t, fun k => k < w.heap.size ∧ own k = none ∧ σ.m k ≠ some dfrM ∧ ¬ X k, fun k => (k < w.heap.size ∧ own k = none ∧ σ.m k ≠ some dfrM ∧ ¬ X k) ∧ (∀ o, σ.c k o = none) ∧ σ.m k = none,
    ⟨⟨rfl, fun _ => .rfl, fun _ => .rfl, Nat.le_refl _, fun _ _ => rfl⟩, fun k j hk hf => ?_, fun k o x e hc => ?_, fun k x e hc => ?_, fun k e _ hf => hf.2.2.1 e⟩, ht⟩
  · have := hf.2.1; rw [hk] at this; cases this
  · have := hc.2.1 o; rw [e] at this; cases this
  · have := hc.2.2; rw [e] at this; cases this

/-- a mark's block lies as it lay -/
theorem Inv.markSame {w1 : World} (h : σ.ok w1) (h' : σ'.ok w') (hle : σ.le σ') {k : Nat} (hk : σ.m k = some dfrM) : w'.heap[k]? = w1.heap[k]? := by
  have e1 : w1.heap[k]? = some (.deferred (some [])) := by
    rcases h.m k _ hk with ⟨h1, _⟩ | ⟨_, h2⟩
    · exact absurd rfl h1
    · exact h2
  have e2 : w'.heap[k]? = some (.deferred (some [])) := by
    rcases h'.m k _ (hle.m k _ hk) with ⟨h1, _⟩ | ⟨_, h2⟩
    · exact absurd rfl h1
    · exact h2
  rw [e1, e2]

/-- what is not owned lies as it lay -/
theorem Inv.rndSame {w1 : World} {t : D} (hok : σ.ok w1) (h' : Inv C S' ρ' σ' own' hv' w0 (σ0.rnd σ own w1 t X) A' a' w') {k : Nat} (hk : k < w1.heap.size) (ho : own k = none) (hX : ¬ X k) : w'.heap[k]? = w1.heap[k]? := by
  by_cases hd : σ.m k = some dfrM
  · exact Inv.markSame hok h'.ok h'.le hd
  · obtain ⟨t', fx, cx, hf, _⟩ := h'.frame
    obtain ⟨_, f2, _, _, f5⟩ := hf.F
    exact f5 k ((f2 k).2 ⟨hk, ho, hd, hX⟩)
theorem Inv.rndBelow {w1 : World} {t : D} (h : Inv C S ρ σ own hv w0 σ0 A a w1) (h' : Inv C S' ρ' σ' own' hv' w0 (σ0.rnd σ own w1 t X) A' a' w') : Below 0 w1 w' := by
  obtain ⟨t', fx, cx, hf, _⟩ := h'.frame
  obtain ⟨_, _, _, f4, _⟩ := hf.F
  exact ⟨h'.below.os.trans h.below.os.symm, h'.below.tape.trans h.below.tape.symm, h'.below.output.trans h.below.output.symm, f4, fun k hk => by omega⟩
/-- what is owned behind was owned, or is new -/
theorem Inv.rndOwn {w1 : World} {t : D} (h' : Inv C S' ρ' σ' own' hv' w0 (σ0.rnd σ own w1 t X) A' a' w') {k j : Nat} (hk : own' k = some j) (hX : ¬ X k) : (∃ i, own k = some i) ∨ w1.heap.size ≤ k := by
  obtain ⟨t', fx, cx, hf, _⟩ := h'.frame
  obtain ⟨_, f2, _, _, _⟩ := hf.F
  cases e : own k with
  | some i => exact .inl ⟨i, rfl⟩
  | none =>
    refine .inr (Nat.le_of_not_lt fun hlt => ?_)
    by_cases hd : σ.m k = some dfrM
    · have := (h'.owns k j hk).2.2.2
      rw [h'.le.m k _ hd] at this; cases this
    · exact hf.own k j hk ((f2 k).2 ⟨hlt, e, hd, hX⟩)
/-- what is immutable behind was so, or was owned, or is new -/
theorem Inv.rndC {w1 : World} {t : D} (h' : Inv C S' ρ' σ' own' hv' w0 (σ0.rnd σ own w1 t X) A' a' w') {k : Nat} (hk : (∃ o x, σ'.c k o = some x) ∨ ∃ x, σ'.m k = some x) (hX : ¬ X k) : (∃ o x, σ.c k o = some x) ∨ (∃ x, σ.m k = some x) ∨ (∃ i, own k = some i) ∨ w1.heap.size ≤ k := by
  obtain ⟨t', fx, cx, hf, _⟩ := h'.frame
  obtain ⟨_, f2, f3, _, _⟩ := hf.F
  cases e : own k with
  | some i => exact .inr (.inr (.inl ⟨i, rfl⟩))
  | none =>
    by_cases hm : ∃ x, σ.m k = some x
    · exact .inr (.inl hm)
    by_cases hc : ∃ o x, σ.c k o = some x
    · exact .inl hc
    refine .inr (.inr (.inr (Nat.le_of_not_lt fun hlt => ?_)))
    have hmn : σ.m k = none := by
      cases e2 : σ.m k with
      | none => rfl
      | some x => exact absurd ⟨x, e2⟩ hm
    have hcx : cx k := (f3 k).2 ⟨(f2 k).2 ⟨hlt, e, by rw [hmn]; simp, hX⟩, fun o => by
      cases e2 : σ.c k o with
      | none => rfl
      | some x => exact absurd ⟨o, x, e2⟩ hc, hmn⟩
    rcases hk with ⟨o, x, hk⟩ | ⟨x, hk⟩
    · exact hf.c k o x hk hcx
    · exact hf.m k x hk hcx

/-- and back -/
theorem Inv.ofRnd {w1 : World} (h : Inv C S ρ σ own hv w0 σ0 A a w1) {t : D} {fx cx : Nat → Prop} (hfr : FrOK σ own w0.heap.size σ0 w1 t fx cx) (hX : ∀ k, fx k → ¬ X k) (h' : Inv C S' ρ' σ' own' hv' w0 (σ0.rnd σ own w1 t X) A' a' w') :
    Inv C S' ρ' σ' own' hv' w0 σ0 A' a' w' := by
  have hb := h.rndBelow h'
  have h'' := h'
  obtain ⟨t', fx', cx', hf, ht⟩ := h''.frame
  obtain ⟨f1, f2, f3, f4, f5⟩ := hf.F
  have hlt := σ0.lt _ _ _ _ hfr.F
  have hsub := σ0.sub _ _ _ _ hfr.F
  have hon : ∀ k, fx k → own k = none := fun k hk => by
    cases e : own k with
    | none => rfl
    | some j => exact absurd hk (hfr.own k j e)
  have hnew : ∀ k, cx k → ¬ ((∃ o x, σ'.c k o = some x) ∨ ∃ x, σ'.m k = some x) := fun k hk hc => by
    have h1 := hsub k hk
    rcases Inv.rndC h' hc (hX k h1) with ⟨o, x, e⟩ | ⟨x, e⟩ | ⟨j, e⟩ | e
    · exact hfr.c k o x e hk
    · exact hfr.m k x e hk
    · exact hfr.own k j e h1
    · have := hlt k h1; omega
  refine ⟨h'.defers, h'.ok, h.le.trans h'.le, h.old, fun k o x e => (h'.newc k o x e).elim (h.newc k o x) .inr, fun k x e => (h'.newm k x e).elim (h.newm k x) .inr, h'.below, h'.bw, h'.owns, h'.regs, h'.objs, h'.opts, t, fx, cx,
    ⟨σ0.keep _ _ _ _ _ hfr.F hb fun k hk => Inv.rndSame h.ok h' (hlt k hk) (hon k hk) (hX k hk), fun k j hk hfk => ?_, fun k o x e hc => hnew k hc (.inl ⟨o, x, e⟩), fun k x e hc => hnew k hc (.inr ⟨x, e⟩), fun k e hB hfk => ?_⟩, fun j hj => ⟨(ht j hj).1, by rw [(ht j hj).2, f1]⟩⟩
  · rcases Inv.rndOwn h' hk (hX k hfk) with ⟨i, e⟩ | e
    · exact hfr.own k i e hfk
    · have := hlt k hfk; omega
  · by_cases hd : σ.m k = some dfrM
    · exact hfr.d k hd hB hfk
    · exact hf.d k e hB ((f2 k).2 ⟨hlt k hfk, hon k hfk, hd, hX k hfk⟩)

/-- The registers of another activation, the objects of another environment, where something is said. -/
theorem Inv.restore (h : Inv C S ρ σ own hv w0 σ0 A a w) (hn : ∀ t gs s, S.r t ≠ .opt gs s) (hd : DefOK σ w0.heap.size a'.defers) (hr : ∀ t, isNone (S.r t) = false → a'.tmps.getD t undef = a.tmps.getD t undef ∧ ρ'.r t = ρ.r t) (ho : ∀ j, isDead (S.o j) = false → ρ'.o j = ρ.o j) :
    Inv C S ρ' σ own hv w0 σ0 (fun _ => False) a' w := by
  refine ⟨hd, h.ok, h.le, h.old, h.newc, h.newm, h.below, h.bw, h.owns, fun t => ?_, fun j => ?_, fun t gs s e => absurd e (hn t gs s), ?_⟩
  · cases hs : isNone (S.r t) with
    | true => cases hc : S.r t <;> rw [hc] at hs <;> simp [isNone] at hs; trivial
    | false =>
      rw [(hr t hs).1, (hr t hs).2]
      exact CellOK.mono' (.refl σ) (.refl S hv) (hn t) (h.regs t)
  · cases hs : isDead (S.o j) with
    | true => cases hc : S.o j <;> rw [hc] at hs <;> simp [isDead] at hs; trivial
    | false => exact (h.objs j).mono (.refl σ) (.refl S hv) rfl (ho j hs) (fun k hk => ⟨hk, rfl⟩)
  · obtain ⟨t, fx, cx, h1, h2⟩ := h.frame
    exact ⟨t, fx, cx, h1, fun j hj => ⟨(h2 j hj).1, by rw [ho j (by rw [hj]; rfl)]; exact (h2 j hj).2⟩⟩

theorem DefOK.mem {σ : Im} {B : Nat} : ∀ {ds : List Deferred} {d : Deferred}, d ∈ ds → DefOK σ B ds → ∃ D, d = { target := .collected D, args := #[] } ∧ σ.m D = some dfrM
  | x :: ds, d, hm, ⟨⟨D, h1, h2, _⟩, h⟩ => by
    rcases List.mem_cons.1 hm with e | e
    · subst e; exact ⟨D, h1, h2⟩
    · exact DefOK.mem e h
def Im.mark (σ : Im) (D : Nat) : Im := ⟨σ.c, fun k => if k = D then some dfrM else σ.m k⟩
theorem enterBelow (w : World) (o1 o2 : Obj) : Below w.heap.size w ((w.alloc o1).alloc o2) := (((Below.refl _ w).alloc (Nat.le_refl _) o1).alloc (by simp) o2)
/-- The statement is entered: two blocks are laid. -/
theorem Inv.enter (h : Inv C S ρ σ own hv w0 σ0 A a w) (r : Loop) :
    Inv C S ρ (σ.mark w.heap.size) own hv w0 σ0 A { a with defers := { target := .collected w.heap.size, args := #[] } :: a.defers } ((w.alloc (.deferred (some []))).alloc (.loop r)) := by
  have hD : ((w.alloc (.deferred (some []))).alloc (.loop r)).heap[w.heap.size]? = some (.deferred (some [])) := (Below.heap_alloc _ _ _ (by simp)).trans (World.alloc_heap_new w _)
  have hle : σ.le (σ.mark w.heap.size) := by
    refine ⟨fun _ _ _ e => e, fun k x e => ?_⟩
    have : k ≠ w.heap.size := by have := h.ltm e; omega
    simp [Im.mark, this, e]
  have hmm : ∀ k x, (σ.mark w.heap.size).m k = some x → σ.m k = some x ∨ (k = w.heap.size ∧ x = dfrM) := by
    intro k x e
    simp only [Im.mark] at e
    split at e
    · rename_i e2; cases e; exact .inr ⟨e2, rfl⟩
    · exact .inl e
  have hb := enterBelow w (.deferred (some [])) (.loop r)
  have hok : (σ.mark w.heap.size).ok ((w.alloc (.deferred (some []))).alloc (.loop r)) := by
    have h1 := h.ok.below hb
    refine ⟨h1.c, fun k x e => ?_⟩
    rcases hmm k x e with e | ⟨rfl, rfl⟩
    · exact h1.m k x e
    · exact .inr ⟨rfl, hD⟩
  have hw := h.world hle hok hb (fun _ _ _ e => .inl e) (fun k x e => (hmm k x e).imp id fun e => by omega)
  have hdef := hw.defers
  refine ⟨⟨⟨_, rfl, by simp [Im.mark], h.below.size, fun hm => ?_⟩, hdef⟩, hw.ok, hw.le, hw.old, hw.newc, hw.newm, hw.below, hw.bw, hw.owns, hw.regs, hw.objs, hw.opts, hw.frame⟩
  obtain ⟨D, e1, e2⟩ := DefOK.mem hm h.defers
  have : D = w.heap.size := by cases e1; rfl
  subst this
  have := h.ltm e2
  omega
end
end Cx
