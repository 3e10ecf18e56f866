/-
  What the static state says of the machine: the invariant, and how it is kept.
-/
import Derived.Test.YtaihcmbfhgmjgaaCxC
import Derived.Calls
namespace Cx
open Go Go.RowKit

section
variable (C : Ctx) (S : St) (ρ : Env) (σ : Im) (own : Nat → Option Nat) (hv : Nat → Value)

def CellOK : Sh → Value → D → Prop
  | .none, _, _ => True
  | .dat t, v, d => Rep C.cap σ t v d
  | .obj j ver, v, _ => ver ≤ S.ver j ∧ (ver = S.ver j → v = hv j)
  | .ptr j ver off, v, _ => ver ≤ S.ver j ∧ (ver = S.ver j → ∃ k, hv j = .pointer (some ⟨k, 0, none⟩) ∧ v = .pointer (some ⟨k, off, none⟩))
  | .eptr j ver size off, v, d => ver ≤ S.ver j ∧ (ver = S.ver j → ∃ (k n c : Nat) (ik : IntKind) (i : Nat), hv j = .slice (some ⟨k, 0, none⟩) n c ∧ d = .v (.int ik i) ∧ i < n ∧ v = .pointer (some ⟨k, i * size + off, none⟩))
  | .yv, v, _ => v = C.yv
  | .fclo f caps, v, _ => ∃ vs : List Value, v = .func (.func f) #[] vs.toArray ∧ vs.length = caps.length ∧ ∀ (i j ver : Nat), caps[i]? = some (j, ver) → ver ≤ S.ver j ∧ (ver = S.ver j → vs.getD i undef = hv j)
  | .opt gs s, v, d => (holds gs ρ = true → CellOK s v d) ∧ (holds gs ρ = false → v = undef)

/-- The elements of a row, cell by cell, as data. -/
def ElemsOK (cap : Nat → Option CSig) (σ : Im) (e : Ty) (cells : List Value) (xs : List D) : Prop :=
  ∃ vs : Nat → Value, (∀ i x, xs[i]? = some x → Rep cap σ e (vs i) x) ∧ ∀ i j u, i < xs.length → (vs i).cells[j]? = some u → cells[i * e.size + j]? = some u

def ObjOK (w : World) (B j : Nat) : Ob → Prop
  | .dead => True
  | .tr => True
  | .fz t => t.one = true ∧ Rep C.cap σ t (hv j) (ρ.o j)
  | .fbox t => ∃ k v, hv j = .pointer (some ⟨k, 0, none⟩) ∧ Rep C.cap σ t v (ρ.o j) ∧ ∀ i u, v.cells[i]? = some u → σ.c k i = some u
  | .box _ shs => ∃ k cs T ds, hv j = .pointer (some ⟨k, 0, none⟩) ∧ own k = some j ∧ w.heap[k]? = some (.cells cs T (0, 0)) ∧ cs.size = shs.length ∧ ρ.o j = .agg ds ∧ ds.length = shs.length ∧
      ∀ i s, shs[i]? = some s → (∀ gs s', s ≠ .opt gs s') ∧ CellOK C S ρ σ hv s (cs.getD i undef) (ds.getD i .none)
  | .row T e => ∃ cells xs, ρ.o j = .list xs ∧ w.ownsRow B T e.size (hv j) xs.length cells ∧ ElemsOK C.cap σ e cells xs ∧ ∀ k, (hv j).ownBlock = some k → own k = some j
  | .mp kt et => ∃ k arr clock es, hv j = .map (some k) ∧ own k = some j ∧ w.heap[k]? = some (.map arr clock) ∧ ρ.o j = .map es ∧ es.length = arr.size ∧ es.length ≤ maxLen ∧
      ∀ (i : Nat) (e : MapEntry) (p : D × D), arr[i]? = some e → es[i]? = some p → Rep C.cap σ kt e.key p.1 ∧ Rep C.cap σ et e.val p.2

/-- What was at the start: immutable memory; the number of blocks that keep; what is somebody else's: F t fx cx w: t has been yielded, the blocks fx are the other's, of them cx may turn. -/
structure Base extends Im where
  B : Nat
  /-- may the function give back its result here? -/
  fin : Prop
  F : D → (Nat → Prop) → (Nat → Prop) → World → Prop
  lt : ∀ t fx cx w, F t fx cx w → ∀ k, fx k → k < w.heap.size
  sub : ∀ t fx cx w, F t fx cx w → ∀ k, cx k → fx k
  keep : ∀ t fx cx w w', F t fx cx w → Below 0 w w' → (∀ k, fx k → w'.heap[k]? = w.heap[k]?) → F t fx cx w'
instance : Coe Base Im := ⟨Base.toIm⟩
/-- nobody else -/
def Base.mk0 (σ : Im) (B : Nat) : Base := { σ with B := B, fin := True, F := fun _ fx cx _ => (∀ k, ¬ fx k) ∧ ∀ k, ¬ cx k, lt := fun _ _ _ _ h k hk => absurd hk (h.1 k), sub := fun _ _ _ _ h k hk => absurd hk (h.2 k), keep := fun _ _ _ _ _ h _ _ => h }

/-- deferred calls: marks of ranges over functions -/
def DefOK (σ : Im) (B : Nat) : List Deferred → Prop
  | [] => True
  | d :: ds => (∃ D, d = { target := .collected D, args := #[] } ∧ σ.m D = some dfrM ∧ B ≤ D ∧ d ∉ ds) ∧ DefOK σ B ds
theorem DefOK.mono {σ τ : Im} (hle : σ.le τ) {B : Nat} : ∀ {ds : List Deferred}, DefOK σ B ds → DefOK τ B ds
  | [], _ => trivial
  | _ :: _, ⟨⟨D, h1, h2, h3⟩, h⟩ => ⟨⟨D, h1, hle.m _ _ h2, h3⟩, DefOK.mono hle h⟩

/-- What is somebody else's lies apart. -/
structure FrOK (B : Nat) (σ0 : Base) (w : World) (t : D) (fx cx : Nat → Prop) : Prop where
  F : σ0.F t fx cx w
  own : ∀ k j, own k = some j → ¬ fx k
  c : ∀ k o x, σ.c k o = some x → ¬ cx k
  m : ∀ k x, σ.m k = some x → ¬ cx k
  d : ∀ k, σ.m k = some dfrM → B ≤ k → ¬ fx k

/-- A: the registers that the region at hand has set. -/
structure Inv (w0 : World) (σ0 : Base) (A : Nat → Prop) (a : Act) (w : World) : Prop where
  defers : DefOK σ w0.heap.size a.defers
  ok : σ.ok w
  le : σ0.le σ
  old : σ0.fin → ∀ k, σ0.m k = some dfrM → k < w0.heap.size
  newc : ∀ k o x, σ.c k o = some x → σ0.c k o = some x ∨ w0.heap.size ≤ k
  newm : ∀ k es, σ.m k = some es → σ0.m k = some es ∨ w0.heap.size ≤ k
  below : Below σ0.B w0 w
  bw : σ0.B ≤ w0.heap.size
  owns : ∀ k j, own k = some j → w0.heap.size ≤ k ∧ k < w.heap.size ∧ (∀ o, σ.c k o = none) ∧ σ.m k = none
  regs : ∀ t, CellOK C S ρ σ hv (S.r t) (a.tmps.getD t undef) (ρ.r t)
  objs : ∀ j, ObjOK C S ρ σ own hv w w0.heap.size j (S.o j)
  opts : ∀ t gs s, S.r t = .opt gs s → (∀ g, g ∈ gs → A g.1) ∧ ∀ gs' s', s ≠ .opt gs' s'
  frame : ∃ t fx cx, FrOK σ own w0.heap.size σ0 w t fx cx ∧ ∀ j, S.o j = .tr → (∃ ys, C.yl = some (j, ys)) ∧ ρ.o j = t
end

def Good (C : Ctx) (w0 : World) (σ0 : Base) (S : St) (ρ : Env) (A : Nat → Prop) (a : Act) (w : World) : Prop :=
  ∃ σ own hv, Inv C S ρ σ own hv w0 σ0 A a w

/-- how the versions may turn -/
structure Compat (S : St) (hv : Nat → Value) (S' : St) (hv' : Nat → Value) : Prop where
  ver : ∀ j, S.ver j ≤ S'.ver j
  hv : ∀ j, S'.ver j = S.ver j → hv' j = hv j

theorem Compat.refl (S : St) (hv : Nat → Value) : Compat S hv S hv := ⟨fun _ => Nat.le_refl _, fun _ _ => rfl⟩

theorem Compat.setO (S : St) (hv : Nat → Value) (j : Nat) (ob : Ob) : Compat S hv (S.setO j ob) hv := ⟨fun _ => Nat.le_refl _, fun _ _ => rfl⟩
theorem Compat.setR (S : St) (hv : Nat → Value) (t : Nat) (s : Sh) : Compat S hv (S.setR t s) hv := ⟨fun _ => Nat.le_refl _, fun _ _ => rfl⟩
theorem St.setO_o (S : St) (j : Nat) (ob : Ob) : (S.setO j ob).o j = ob := upd_same _ _ _

section
variable {C : Ctx} {S S' : St} {ρ ρ' : Env} {σ σ' : Im} {own own' : Nat → Option Nat} {hv hv' : Nat → Value}

theorem CellOK.monoR (hσ : Im.leR C.cap σ σ') (hc : Compat S hv S' hv') : ∀ {s : Sh} {v : Value} {d : D}, (∀ gs s', s = .opt gs s' → holds gs ρ' = holds gs ρ) →
    (∀ gs s', s = .opt gs s' → ∀ gs' s'', s' ≠ .opt gs' s'') → CellOK C S ρ σ hv s v d → CellOK C S' ρ' σ' hv' s v d := by
  intro s
  induction s with
  | none => intros; trivial
  | yv => intro v d _ _ h; exact h
  | fclo f caps =>
    intro v d _ _ h
    obtain ⟨vs, h1, h2, h3⟩ := h
    refine ⟨vs, h1, h2, fun i j ver hi => ?_⟩
    obtain ⟨g1, g2⟩ := h3 i j ver hi
    refine ⟨Nat.le_trans g1 (hc.ver j), fun e => ?_⟩
    have e1 : S'.ver j = S.ver j := by have := hc.ver j; omega
    rw [hc.hv j e1]; exact g2 (by omega)
  | dat t => intro v d _ _ h; exact hσ.rep h
  | obj j ver =>
    intro v d _ _ h
    refine ⟨Nat.le_trans h.1 (hc.ver j), fun e => ?_⟩
    have e1 : S'.ver j = S.ver j := by have := hc.ver j; have := h.1; omega
    rw [hc.hv j e1]; exact h.2 (by omega)
  | ptr j ver off =>
    intro v d _ _ h
    refine ⟨Nat.le_trans h.1 (hc.ver j), fun e => ?_⟩
    have e1 : S'.ver j = S.ver j := by have := hc.ver j; have := h.1; omega
    rw [hc.hv j e1]; exact h.2 (by omega)
  | eptr j ver size off =>
    intro v d _ _ h
    refine ⟨Nat.le_trans h.1 (hc.ver j), fun e => ?_⟩
    have e1 : S'.ver j = S.ver j := by have := hc.ver j; have := h.1; omega
    rw [hc.hv j e1]; exact h.2 (by omega)
  | opt gs s ih =>
    intro v d hg hn h
    refine ⟨fun hh => ih (fun gs' s' e => absurd e (hn gs s rfl gs' s')) (fun gs' s' e => absurd e (hn gs s rfl gs' s')) (h.1 (by rw [← hg gs s rfl]; exact hh)), fun hh => h.2 (by rw [← hg gs s rfl]; exact hh)⟩

theorem CellOK.mono (hσ : σ.le σ') (hc : Compat S hv S' hv') {s : Sh} {v : Value} {d : D} (h1 : ∀ gs s', s = .opt gs s' → holds gs ρ' = holds gs ρ)
    (h2 : ∀ gs s', s = .opt gs s' → ∀ gs' s'', s' ≠ .opt gs' s'') (h : CellOK C S ρ σ hv s v d) : CellOK C S' ρ' σ' hv' s v d := CellOK.monoR hσ.leR hc h1 h2 h

theorem CellOK.monoR' (hσ : Im.leR C.cap σ σ') (hc : Compat S hv S' hv') {s : Sh} {v : Value} {d : D} (hn : ∀ gs s', s ≠ .opt gs s') (h : CellOK C S ρ σ hv s v d) : CellOK C S' ρ' σ' hv' s v d :=
  CellOK.monoR hσ hc (fun gs s' e => absurd e (hn gs s')) (fun gs s' e => absurd e (hn gs s')) h
theorem CellOK.mono' (hσ : σ.le σ') (hc : Compat S hv S' hv') {s : Sh} {v : Value} {d : D} (hn : ∀ gs s', s ≠ .opt gs s') (h : CellOK C S ρ σ hv s v d) : CellOK C S' ρ' σ' hv' s v d :=
  CellOK.monoR' hσ.leR hc hn h

theorem ElemsOK.monoR {cap : Nat → Option CSig} (hσ : Im.leR cap σ σ') {e : Ty} {cells : List Value} {xs : List D} (h : ElemsOK cap σ e cells xs) : ElemsOK cap σ' e cells xs := by
  obtain ⟨vs, h1, h2⟩ := h
  exact ⟨vs, fun i x hx => hσ.rep (h1 i x hx), h2⟩
theorem ElemsOK.mono {cap : Nat → Option CSig} (hσ : σ.le σ') {e : Ty} {cells : List Value} {xs : List D} (h : ElemsOK cap σ e cells xs) : ElemsOK cap σ' e cells xs := h.monoR hσ.leR

/-- An object that a step does not touch. -/
theorem ObjOK.monoR (hσ : Im.leR C.cap σ σ') (hc : Compat S hv S' hv') {w w' : World} {B j : Nat} {ob : Ob} (hj : hv' j = hv j) (hr : ρ'.o j = ρ.o j)
    (hk : ∀ k, own k = some j → own' k = some j ∧ w'.heap[k]? = w.heap[k]?) (h : ObjOK C S ρ σ own hv w B j ob) : ObjOK C S' ρ' σ' own' hv' w' B j ob := by
  cases ob with
  | dead => trivial
  | tr => trivial
  | fz t => exact ⟨h.1, by rw [hj, hr]; exact hσ.rep h.2⟩
  | fbox t =>
    obtain ⟨k, v, h1, h2, h3⟩ := h
    exact ⟨k, v, by rw [hj]; exact h1, by rw [hr]; exact hσ.rep h2, fun i u hu => hσ.c _ _ _ (h3 i u hu)⟩
  | box ag shs =>
    obtain ⟨k, cs, T, ds, h1, h2, h3, h4, h5, h6, h7⟩ := h
    refine ⟨k, cs, T, ds, by rw [hj]; exact h1, (hk k h2).1, by rw [(hk k h2).2]; exact h3, h4, by rw [hr]; exact h5, h6, fun i s hs => ?_⟩
    obtain ⟨g1, g3⟩ := h7 i s hs
    exact ⟨g1, g3.monoR' hσ hc g1⟩
  | row T e =>
    obtain ⟨cells, xs, h1, h2, h3, h4⟩ := h
    refine ⟨cells, xs, by rw [hr]; exact h1, ?_, h3.monoR hσ, fun k hb => (hk k (h4 k (by rw [← hj]; exact hb))).1⟩
    rw [hj]
    refine ⟨h2.1, ?_⟩
    rcases h2.2 with h | ⟨g, cap, cur, e1, e2, e3, e4⟩
    · exact .inl h
    · exact .inr ⟨g, cap, cur, e1, e2, by rw [(hk g (h4 g (by rw [e1]; rfl))).2]; exact e3, e4⟩
  | mp kt et =>
    obtain ⟨k, arr, clock, es, h1, h2, h3, h4, h5, hx, h6⟩ := h
    refine ⟨k, arr, clock, es, by rw [hj]; exact h1, (hk k h2).1, by rw [(hk k h2).2]; exact h3, by rw [hr]; exact h4, h5, hx, fun i e p he hp => ?_⟩
    exact ⟨hσ.rep (h6 i e p he hp).1, hσ.rep (h6 i e p he hp).2⟩
theorem ObjOK.mono (hσ : σ.le σ') (hc : Compat S hv S' hv') {w w' : World} {B j : Nat} {ob : Ob} (hj : hv' j = hv j) (hr : ρ'.o j = ρ.o j)
    (hk : ∀ k, own k = some j → own' k = some j ∧ w'.heap[k]? = w.heap[k]?) (h : ObjOK C S ρ σ own hv w B j ob) : ObjOK C S' ρ' σ' own' hv' w' B j ob := h.monoR hσ.leR hc hj hr hk
end

section
variable {C : Ctx} {S : St} {ρ : Env} {σ : Im} {own : Nat → Option Nat} {hv : Nat → Value} {w0 : World} {σ0 : Base} {A : Nat → Prop} {a : Act} {w : World}

theorem holds_setR {gs : List (Nat × Bool)} {ρ : Env} {t : Nat} {d : D} (h : ∀ g, g ∈ gs → g.1 ≠ t) : holds gs (ρ.setR t d) = holds gs ρ := by
  unfold holds
  induction gs with
  | nil => rfl
  | cons g gs ih =>
    simp only [List.all_cons]
    rw [ih fun x hx => h x (List.mem_cons_of_mem _ hx)]
    simp [Env.setR, upd_ne _ _ (h g (List.mem_cons_self ..))]

theorem tmps_put (a : Act) (t u : Nat) (v : Value) : (a.put (some t) v).tmps.getD u undef = if u = t ∧ t < a.tmps.size then v else a.tmps.getD u undef := by
  simp only [Act.put, Array.getD_eq_getD_getElem?, Array.getElem?_setIfInBounds]
  by_cases h : t = u
  · subst h
    by_cases h2 : t < a.tmps.size
    · simp [h2]
    · simp [h2]
  · have h' : ¬ u = t := fun e => h e.symm
    simp [h, h']

/-- THE GENERAL STEP: registers but one, and the objects of a set. -/
theorem Inv.step (h : Inv C S ρ σ own hv w0 σ0 A a w) {S' : St} {ρ' : Env} {σ' : Im} {own' : Nat → Option Nat} {hv' : Nat → Value} {A' : Nat → Prop} {a' : Act} {w' : World} (W : Nat → Prop)
    (hd : a'.defers = a.defers) (hσ : σ.le σ') (hok : σ'.ok w')
    (hnc : ∀ k o x, σ'.c k o = some x → σ.c k o = some x ∨ (w0.heap.size ≤ k ∧ ((∃ j, own k = some j) ∨ w.heap.size ≤ k))) (hnm : ∀ k es, σ'.m k = some es → σ.m k = some es ∨ (w0.heap.size ≤ k ∧ ((∃ j, own k = some j) ∨ w.heap.size ≤ k)))
    (hb : Below w0.heap.size w w') (hc : Compat S hv S' hv')
    (hW : ∀ j, ¬ W j → S'.o j = S.o j ∧ ρ'.o j = ρ.o j ∧ hv' j = hv j ∧ ∀ k, own k = some j → own' k = some j ∧ w'.heap[k]? = w.heap[k]?)
    (hW' : ∀ j, W j → ObjOK C S' ρ' σ' own' hv' w' w0.heap.size j (S'.o j))
    (hown : ∀ k j, own' k = some j → w0.heap.size ≤ k ∧ k < w'.heap.size ∧ (∀ o, σ'.c k o = none) ∧ σ'.m k = none)
    (hA : ∀ t, A t → A' t)
    (hr : ∀ t, (S'.r t = S.r t ∧ a'.tmps.getD t undef = a.tmps.getD t undef ∧ ρ'.r t = ρ.r t) ∨
      (CellOK C S' ρ' σ' hv' (S'.r t) (a'.tmps.getD t undef) (ρ'.r t) ∧ ∀ gs s, S'.r t = .opt gs s → (∀ g, g ∈ gs → A' g.1) ∧ ∀ gs' s', s ≠ .opt gs' s'))
    (hg : ∀ t, A t → ρ'.r t = ρ.r t) (hun : ∀ k, k < w.heap.size → own k = none → w'.heap[k]? = w.heap[k]?) (hof : ∀ k i, own' k = some i → (∃ j, own k = some j) ∨ w.heap.size ≤ k) (htr : ∀ j, W j → S'.o j ≠ .tr) : Inv C S' ρ' σ' own' hv' w0 σ0 A' a' w' where
  defers := by rw [hd]; exact h.defers.mono hσ
  ok := hok
  le := h.le.trans hσ
  old := h.old
  newc := fun k o x hx => (hnc k o x hx).elim (h.newc k o x) fun e => .inr e.1
  newm := fun k x hx => (hnm k x hx).elim (h.newm k x) fun e => .inr e.1
  below := h.below.trans (hb.mono h.bw)
  bw := h.bw
  owns := hown
  regs := fun t => by
    rcases hr t with ⟨h1, h2, h3⟩ | h4
    · rw [h1, h2, h3]
      refine CellOK.mono hσ hc (fun gs s e => ?_) (fun gs s e => (h.opts t gs s e).2) (h.regs t)
      unfold holds
      have hall : ∀ g, g ∈ gs → ρ'.r g.1 = ρ.r g.1 := fun g hm => hg _ ((h.opts t gs s e).1 g hm)
      clear e
      induction gs with
      | nil => rfl
      | cons g gs ih => simp only [List.all_cons]; rw [ih fun x hx => hall x (List.mem_cons_of_mem _ hx), hall g (List.mem_cons_self ..)]
    · exact h4.1
  objs := fun j => by
    by_cases hj : W j
    · exact hW' j hj
    · obtain ⟨h1, h2, h3, h4⟩ := hW j hj
      rw [h1]
      exact (h.objs j).mono hσ hc h3 h2 h4
  opts := fun t gs s e => by
    rcases hr t with ⟨h1, h2, h3⟩ | h4
    · obtain ⟨g1, g2⟩ := h.opts t gs s (by rw [← h1]; exact e)
      exact ⟨fun g hm => hA _ (g1 g hm), g2⟩
    · exact h4.2 gs s e
  frame := by
    obtain ⟨t, fx, cx, hf, h4⟩ := h.frame
    have hlt := σ0.lt _ _ _ _ hf.F
    have hfree : ∀ k, (∃ j, own k = some j) ∨ w.heap.size ≤ k → ¬ fx k := by
      rintro k (⟨j, hj⟩ | hk) hfx
      · exact hf.own k j hj hfx
      · have := hlt k hfx; omega
    refine ⟨t, fx, cx, ⟨σ0.keep _ _ _ _ _ hf.F (hb.mono (Nat.zero_le _)) (fun k hk => hun k (hlt k hk) ?_), fun k j hj => hfree k (hof k j hj), fun k o x hx => ?_, fun k x hx => ?_, fun k hx hB => ?_⟩, fun j hj => ?_⟩
    · cases e : own k with
      | none => rfl
      | some j => exact absurd hk (hf.own k j e)
    · rcases hnc k o x hx with e | e
      · exact hf.c k o x e
      · exact fun hc => hfree k e.2 (σ0.sub _ _ _ _ hf.F k hc)
    · rcases hnm k x hx with e | e
      · exact hf.m k x e
      · exact fun hc => hfree k e.2 (σ0.sub _ _ _ _ hf.F k hc)
    · rcases hnm k _ hx with e | e
      · exact hf.d k e hB
      · exact hfree k e.2
    · by_cases hw : W j
      · exact absurd hj (htr j hw)
      · obtain ⟨e1, e2, _⟩ := hW j hw
        rw [e2]; exact h4 j (by rw [← e1]; exact hj)

/-- One register is set; memory is as it was. -/
theorem Inv.setReg (h : Inv C S ρ σ own hv w0 σ0 A a w) {t : Nat} (ht : ¬ A t) {s : Sh} {v : Value} {d : D} (hs : CellOK C S (ρ.setR t d) σ hv s v d) (hlt : t < a.tmps.size)
    (hopt : ∀ gs s', s = .opt gs s' → (∀ g, g ∈ gs → A g.1) ∧ ∀ gs' s'', s' ≠ .opt gs' s'') :
    Inv C (S.setR t s) (ρ.setR t d) σ own hv w0 σ0 (fun u => A u ∨ u = t) (a.put (some t) v) w := by
  refine h.step (fun _ => False) rfl (.refl σ) h.ok (fun _ _ _ hx => .inl hx) (fun _ _ hx => .inl hx) (.refl _ _) ⟨fun _ => Nat.le_refl _, fun _ _ => rfl⟩ (fun j _ => ⟨rfl, rfl, rfl, fun k hk => ⟨hk, rfl⟩⟩) (fun j hj => hj.elim) h.owns (fun _ => .inl) (fun u => ?_) (fun u hu => ?_) (fun k _ _ => ?_) (fun k i hk => .inl ⟨i, hk⟩) (fun _ hf => hf.elim)
  · by_cases hu : u = t
    · subst hu
      refine .inr ⟨?_, ?_⟩
      · rw [tmps_put]
        simp only [St.setR, Env.setR, upd_same, hlt, and_self, if_true]
        refine CellOK.mono (S := S) (S' := S.setR u s) (ρ := ρ.setR u d) (ρ' := ρ.setR u d) (hv := hv) (.refl σ) ⟨fun _ => Nat.le_refl _, fun _ _ => rfl⟩ (fun gs s' e => ?_) (fun gs s' e => (hopt gs s' e).2) hs
        rfl
      · intro gs s' e
        simp only [St.setR, upd_same] at e
        exact ⟨fun g hm => .inl ((hopt gs s' e).1 g hm), (hopt gs s' e).2⟩
    · refine .inl ⟨by simp [St.setR, upd_ne _ _ hu], ?_, by simp [Env.setR, upd_ne _ _ hu]⟩
      rw [tmps_put]; simp [hu]
  · exact upd_ne _ _ (fun e => ht (e ▸ hu))
  · rfl
end
end Cx
