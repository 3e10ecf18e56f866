/-
  A region: its operations in some order.
-/
import Derived.Test.YtjkeifcibnadcaaCxU
import Derived.Tactics
set_option linter.unusedSimpArgs false
set_option linter.unusedVariables false
namespace Cx
open Go Go.RowKit

/-- the operations of a region in an order, each one's instructions by itself -/
def compSeq (C : Ctx) (ops : Array Oper) : List Nat → St → Option (St × List PI)
  | [], S => some (S, [])
  | i :: l, S =>
    match ops[i]? with
    | some o => (compOp C S ops o).bind fun r => (compSeq C ops l r.1).map fun q => (q.1, r.2 ++ q.2)
    | none => none

/-- no register is set twice, none lies outside the frame; guards look at operations -/
def regionOK (n : Nat) (ops : Array Oper) : Bool :=
  nodupB (ops.toList.filterMap (·.dst)) && ops.toList.all fun o => match o.dst with | some d => Nat.blt d n | none => true

def St.clear (S : St) : St := { S with r := fun t => match S.r t with | .opt _ _ => .none | s => s }

section
variable {C : Ctx} {S : St} {ρ : Env} {σ : Im} {own : Nat → Option Nat} {hv : Nat → Value} {w0 : World} {σ0 : Im} {A : Nat → Prop} {a : Act} {w : World} {gs : List (Nat × Bool)} {Φ : Funs} {dst : Nat}

theorem Good.clear (h : Good C w0 σ0 S ρ A a w) : Good C w0 σ0 S.clear ρ (fun _ => False) a w := by
  obtain ⟨σ, own, hv, h⟩ := h
  have hc : Compat S hv S.clear hv := ⟨fun _ => Nat.le_refl _, fun _ _ => rfl⟩
  refine ⟨σ, own, hv, h.defers, h.ok, h.le, h.newc, h.newm, h.below, h.owns, fun t => ?_, fun j => ?_, fun t gs s e => ?_⟩
  · have hr := h.regs t
    simp only [St.clear]
    split
    · trivial
    · rename_i hn
      exact CellOK.mono' (.refl σ) hc (fun gs s e => hn gs s e) hr
  · exact (h.objs j).mono (.refl σ) hc rfl rfl (fun k hk => ⟨hk, rfl⟩)
  · simp only [St.clear] at e
    split at e
    · cases e
    · rename_i hn; exact absurd e (hn gs s)

/-- what has been set when some operations are done -/
def setBy (ops : Array Oper) (done : List Nat) : Nat → Prop := fun t => ∃ i o, i ∈ done ∧ ops[i]? = some o ∧ o.dst = some t

theorem compSeq_sound.dst_once {ops : Array Oper} (hnd : (ops.toList.filterMap (·.dst)).Nodup) {i j : Nat} {o o' : Oper} {d : Nat} (hi : ops[i]? = some o) (hj : ops[j]? = some o') (hd : o.dst = some d) (hd' : o'.dst = some d) (hne : i ≠ j) : False := by
  have key : ∀ (l : List Oper), (l.filterMap (·.dst)).Nodup → ∀ (i j : Nat) (o o' : Oper), l[i]? = some o → l[j]? = some o' → o.dst = some d → o'.dst = some d → i = j := by
    intro l
    induction l with
    | nil => intro _ i j o o' hi; simp at hi
    | cons x l ih =>
      intro hnd i j o o' hi hj hd hd'
      have hmem : ∀ (k : Nat) (y : Oper), l[k]? = some y → y.dst = some d → d ∈ l.filterMap (·.dst) := fun k y hk hy => List.mem_filterMap.2 ⟨y, List.mem_of_getElem? hk, hy⟩
      cases hx : x.dst with
      | none =>
        rw [List.filterMap_cons_none hx] at hnd
        cases i with
        | zero => simp at hi; subst hi; rw [hx] at hd; cases hd
        | succ i =>
          cases j with
          | zero => simp at hj; subst hj; rw [hx] at hd'; cases hd'
          | succ j => simp at hi hj; rw [ih hnd i j o o' hi hj hd hd']
      | some y =>
        rw [List.filterMap_cons_some hx, List.nodup_cons] at hnd
        cases i with
        | zero =>
          simp at hi; subst hi
          rw [hx] at hd; cases hd
          cases j with
          | zero => rfl
          | succ j => simp at hj; exact absurd (hmem j o' hj hd') hnd.1
        | succ i =>
          cases j with
          | zero =>
            simp at hj; subst hj
            rw [hx] at hd'; cases hd'
            simp at hi; exact absurd (hmem i o hi hd) hnd.1
          | succ j => simp at hi hj; rw [ih hnd.2 i j o o' hi hj hd hd']
  exact hne (key ops.toList hnd i j o o' (by simpa using hi) (by simpa using hj) hd hd')

/-- The operations of a region, in an order in which each stands once and behind what its guard looks at. -/
theorem compSeq_sound (hC : CtxOK C σ0) (hcl : ClosOK C) (hΦ : FunsOK C Φ) {ops : Array Oper} {n : Nat} (hok : regionOK n ops = true) {Q : Exit → Act → World → Prop} :
    ∀ (l done : List Nat) {S : St} {ρ ρ' : Env} {a : Act} {w : World} {r : St × List PI}, (done ++ l).Nodup → (∀ p i q o j want, l = p ++ i :: q → ops[i]? = some o → o.guard = some (j, want) → j ∈ done ++ p) →
      a.tmps.size = n → Good C w0 σ0 S ρ (setBy ops done) a w → compSeq C ops l S = some r → PI.runs Φ r.2 ρ = some ρ' →
      (∀ a' w', a'.tmps.size = n → Good C w0 σ0 r.1 ρ' (setBy ops (done ++ l)) a' w' → Q .normal a' w') → wpOps C.P ops Q l a w := by
  simp only [regionOK, Bool.and_eq_true] at hok
  have hnd := nodupB_sound hok.1
  intro l
  induction l with
  | nil =>
    intro done S ρ ρ' a w r _ _ hsz h hr hrun hQ
    simp only [compSeq, Option.some.injEq] at hr
    subst hr
    rw [runs0 hrun] at hQ
    simp only [wpOps]
    exact hQ a w hsz (by simpa using h)
  | cons i l ih =>
    intro done S ρ ρ' a w r hdn hgd hsz h hr hrun hQ
    simp only [compSeq] at hr
    split at hr
    case h_2 => cases hr
    rename_i o ho
    simp only [Option.bind_eq_some_iff, Option.map_eq_some_iff] at hr
    obtain ⟨r1, hr1, q, hq, rfl⟩ := hr
    simp only [runs_append, Option.bind_eq_some_iff] at hrun
    obtain ⟨ρ1, hρ1, hρ2⟩ := hrun
    have hdst : ∀ d, o.dst = some d → ¬ setBy ops done d ∧ d < a.tmps.size := by
      intro d hd
      refine ⟨fun ⟨i', o', hi', ho', hd'⟩ => ?_, ?_⟩
      · -- two operations with one register
        have hne : i' ≠ i := by
          intro e; subst e
          rw [List.nodup_append] at hdn
          exact hdn.2.2 i' hi' i' (List.mem_cons_self ..) rfl
        exact compSeq_sound.dst_once hnd ho' ho hd' hd hne
      · have := List.all_eq_true.1 hok.2 o (by
          have := Array.mem_of_getElem? ho
          simpa using this)
        simp only [hd] at this
        rw [hsz]; simpa [Nat.blt_eq] using this
    have hj : ∀ j want t, o.guard = some (j, want) → (ops[j]?).bind (·.dst) = some t → setBy ops done t := by
      intro j want t hg ht
      have := hgd [] i l o j want rfl ho hg
      simp only [List.append_nil] at this
      rw [Option.bind_eq_some_iff] at ht
      obtain ⟨oj, h1, h2⟩ := ht
      exact ⟨j, oj, this, h1, h2⟩
    have main := compOp_sound (K := wpOps C.P ops Q l) (Q := Q) h hC hcl hΦ hdst hj hr1 hρ1 (fun a' w' hg' hsz' => by
      refine ih (done ++ [i]) (by simpa using hdn) (fun p i' q' o' j want e ho' hg'' => ?_) (hsz'.trans hsz) ?_ hq hρ2 (fun a2 w2 s2 g2 => hQ a2 w2 s2 (by simpa using g2))
      · have := hgd (i :: p) i' q' o' j want (by rw [e]; rfl) ho' hg''
        simpa using this
      · have : (fun u => setBy ops done u ∨ o.dst = some u) = setBy ops (done ++ [i]) := by
          funext u
          apply propext
          constructor
          · rintro (⟨i', o', h1, h2, h3⟩ | h1)
            · exact ⟨i', o', by simp [h1], h2, h3⟩
            · exact ⟨i, o, by simp, ho, h1⟩
          · rintro ⟨i', o', h1, h2, h3⟩
            rcases List.mem_append.1 h1 with h4 | h4
            · exact .inl ⟨i', o', h4, h2, h3⟩
            · simp at h4; subst h4
              rw [ho] at h2; cases h2
              exact .inr h3
        rw [← this]; exact hg')
    simp only [wpOps, ho]
    split
    · rename_i hw; rw [if_pos hw] at main; exact .inl main
    · rename_i hw; rw [if_neg hw] at main; exact main
end
end Cx
