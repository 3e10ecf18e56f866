/-
  The quiet operations do what they are said to do.
-/
import Derived.Test.YtaihcmbfhgmjgaaCxD
import Derived.Laws.Cells
import Derived.Laws.Entries
namespace Cx
open Go Go.RowKit

theorem constTy_sound {cap : Nat → Option CSig} {σ : Im} {v : Value} {x : Ty × D} (h : constTy v = some x) : Rep cap σ x.1 v x.2 := by
  unfold constTy at h
  split at h
  · split at h
    · rename_i hh; cases h; exact .int _ _ hh.1 hh.2
    · cases h
  · cases h; exact .bool _
  · split at h
    · rename_i hh; cases h; exact .str _ hh
    · cases h
  · cases h; exact .nils _
  · cases h

mutual
theorem Ty.sub_one : ∀ a b : Ty, Ty.sub a b = true → a.one = b.one ∧ a.size = b.size
  | .nils a, b, h => by
    cases b <;> simp_all [Ty.sub, Ty.beq, Ty.one, Ty.size]
  | .agg a, b, h => by
    cases b with
    | agg b => simp only [Ty.sub] at h; exact ⟨rfl, (Ty.subs_len a b h)⟩
    | _ => simp [Ty.sub, Ty.beq] at h
  | .tup a, b, h => by
    cases b with
    | tup b => exact ⟨rfl, rfl⟩
    | _ => simp [Ty.sub, Ty.beq] at h
  | .int a, b, h => by cases b <;> simp_all [Ty.sub, Ty.beq, Ty.one, Ty.size]
  | .bool, b, h => by cases b <;> simp_all [Ty.sub, Ty.beq, Ty.one, Ty.size]
  | .str, b, h => by cases b <;> simp_all [Ty.sub, Ty.beq, Ty.one, Ty.size]
  | .slice a, b, h => by cases b <;> simp_all [Ty.sub, Ty.beq, Ty.one, Ty.size]
  | .map a c, b, h => by cases b <;> simp_all [Ty.sub, Ty.beq, Ty.one, Ty.size]
  | .ref a, b, h => by cases b <;> simp_all [Ty.sub, Ty.beq, Ty.one, Ty.size]
  | .fn a r, b, h => by cases b <;> simp_all [Ty.sub, Ty.beq, Ty.one, Ty.size]
  | .trm, b, h => by cases b <;> simp_all [Ty.sub, Ty.beq, Ty.one, Ty.size]
theorem Ty.subs_len : ∀ a b : List Ty, Ty.subs a b = true → a.length = b.length
  | [], b, h => by cases b <;> simp_all [Ty.subs]
  | x :: a, b, h => by
    cases b with
    | nil => simp [Ty.subs] at h
    | cons y b => simp only [Ty.subs, Bool.and_eq_true] at h; simp [Ty.subs_len a b h.2]
end

theorem Ty.subs_get : ∀ a b : List Ty, Ty.subs a b = true → ∀ (i : Nat) (t : Ty), b[i]? = some t → ∃ s, a[i]? = some s ∧ Ty.sub s t = true
  | [], b, h, i, t, hi => by cases b <;> simp_all [Ty.subs]
  | x :: a, b, h, i, t, hi => by
    cases b with
    | nil => simp [Ty.subs] at h
    | cons y b =>
      simp only [Ty.subs, Bool.and_eq_true] at h
      cases i with
      | zero => simp only [List.getElem?_cons_zero, Option.some.injEq] at hi ⊢; subst hi; exact ⟨x, rfl, h.1⟩
      | succ i => simp only [List.getElem?_cons_succ] at hi ⊢; exact Ty.subs_get a b h.2 i t hi

theorem Rep.sub {cap : Nat → Option CSig} {σ : Im} {s : Ty} {v : Value} {d : D} (h : Rep cap σ s v d) : ∀ {t : Ty}, Ty.sub s t = true → Rep cap σ t v d := by
  induction h with
  | nils e =>
    intro t ht
    cases t with
    | slice b => exact .nil b
    | nils b => exact .nils b
    | _ => simp [Ty.sub, Ty.beq] at ht
  | agg ts vs ds h1 h2 h ho ih =>
    intro t ht
    cases t with
    | agg us =>
      simp only [Ty.sub] at ht
      have hl := Ty.subs_len ts us ht
      refine .agg us vs ds (by omega) (by omega) (fun i t hi => ?_) (fun i t hi => ?_)
      · obtain ⟨s, hs, hst⟩ := Ty.subs_get ts us ht i t hi
        exact ih i s hs hst
      · obtain ⟨s, hs, hst⟩ := Ty.subs_get ts us ht i t hi
        rw [← (Ty.sub_one s t hst).1]; exact ho i s hs
    | _ => simp [Ty.sub, Ty.beq] at ht
  | tup ts vs ds h1 h2 h ih =>
    intro t ht
    cases t with
    | tup us =>
      simp only [Ty.sub] at ht
      have hl := Ty.subs_len ts us ht
      refine .tup us vs ds (by omega) (by omega) (fun i t hi => ?_)
      obtain ⟨s, hs, hst⟩ := Ty.subs_get ts us ht i t hi
      exact ih i s hs hst
    | _ => simp [Ty.sub, Ty.beq] at ht
  | int k n h1 h2 =>
    intro t ht
    have := Ty.beq_eq (.int k) t (by cases t <;> simp_all [Ty.sub])
    subst this; exact .int k n h1 h2
  | bool b =>
    intro t ht
    have := Ty.beq_eq .bool t (by cases t <;> simp_all [Ty.sub])
    subst this; exact .bool b
  | str s h =>
    intro t ht
    have := Ty.beq_eq .str t (by cases t <;> simp_all [Ty.sub])
    subst this; exact .str s h
  | nil e =>
    intro t ht
    have := Ty.beq_eq (.slice e) t (by cases t <;> simp_all [Ty.sub])
    subst this; exact .nil e
  | emp e a =>
    intro t ht
    have := Ty.beq_eq (.slice e) t (by cases t <;> simp_all [Ty.sub])
    subst this; exact .emp e a
  | slice e k o n c xs vs hn hc hm h hv =>
    intro t ht
    have := Ty.beq_eq (.slice e) t (by cases t <;> simp_all [Ty.sub])
    subst this
    exact .slice e k o n c xs vs hn hc hm h hv
  | mapnil kt et =>
    intro t ht
    have := Ty.beq_eq (.map kt et) t (by cases t <;> simp_all [Ty.sub])
    subst this; exact .mapnil kt et
  | map kt et r ves es hm hl hx hk he =>
    intro t ht
    have := Ty.beq_eq (.map kt et) t (by cases t <;> simp_all [Ty.sub])
    subst this; exact .map kt et r ves es hm hl hx hk he
  | ref s k o v d h hv =>
    intro t ht
    have := Ty.beq_eq (.ref s) t (by cases t <;> simp_all [Ty.sub])
    subst this; exact .ref s k o v d h hv
  | fn f cs vs ds hc h1 h2 h =>
    intro t ht
    have := Ty.beq_eq (.fn cs.args cs.res) t (by cases t <;> simp_all [Ty.sub])
    subst this; exact .fn f cs vs ds hc h1 h2 h
  | fnnil as r =>
    intro t ht
    have := Ty.beq_eq (.fn as r) t (by cases t <;> simp_all [Ty.sub])
    subst this; exact .fnnil as r

structure CtxOK (C : Ctx) (σ0 : Im) : Prop where
  glob : ∀ g x, C.glob g = some x → Rep C.cap σ0 (.ref x.1) (.pointer (some ⟨g, 0, none⟩)) (.ref x.2)

theorem subGs_holds {gs' gs : List (Nat × Bool)} {ρ : Env} (h : subGs gs' gs = true) (hg : holds gs ρ = true) : holds gs' ρ = true := by
  unfold holds subGs at *
  rw [List.all_eq_true] at *
  intro g hm
  obtain ⟨k, hk, hkk⟩ := List.any_eq_true.1 (h g hm)
  simp only [Bool.and_eq_true, beq_iff_eq] at hkk
  have h1 := Nat.eq_of_beq_eq_true hkk.1
  have e : g = k := by cases g; cases k; simp_all
  rw [e]; exact hg k hk

section
variable {C : Ctx} {S : St} {ρ : Env} {σ : Im} {own : Nat → Option Nat} {hv : Nat → Value} {w0 : World} {σ0 : Base} {A : Nat → Prop} {a : Act} {w : World} {gs : List (Nat × Bool)}

theorem shR_sound (h : Inv C S ρ σ own hv w0 σ0 A a w) (hg : holds gs ρ = true) (t : Nat) : CellOK C S ρ σ hv (shR S gs t) (a.tmps.getD t undef) (ρ.r t) ∧ ∀ gs' s', shR S gs t ≠ .opt gs' s' := by
  have hr := h.regs t
  unfold shR
  cases hs : S.r t with
  | opt gs' s =>
    rw [hs] at hr
    have ho := (h.opts t gs' s hs).2
    simp only
    cases hb : subGs gs' gs with
    | true => exact ⟨hr.1 (subGs_holds hb hg), ho⟩
    | false => exact ⟨trivial, fun _ _ e => by cases e⟩
  | _ => rw [hs] at hr; exact ⟨hr, fun _ _ e => by cases e⟩

theorem use_sound (h : Inv C S ρ σ own hv w0 σ0 A a w) (hC : CtxOK C σ0) (hg : holds gs ρ = true) {x : Operand} {r : Ty × PE} (hu : use C S gs x = some r) : Rep C.cap σ r.1 (a.eval x) (r.2.ev ρ) := by
  cases x with
  | const v =>
    simp only [use, Option.map_eq_some_iff] at hu
    obtain ⟨y, hy, rfl⟩ := hu
    exact constTy_sound hy
  | func f =>
    simp only [use] at hu
    split at hu
    · rename_i as r hc
      cases hu
      exact .fn f ⟨[], as, r⟩ [] [] hc rfl rfl (fun i t hi => by simp at hi)
    · cases hu
  | global g =>
    simp only [use, Option.map_eq_some_iff] at hu
    obtain ⟨y, hy, rfl⟩ := hu
    exact (hC.glob g y hy).mono h.le
  | tmp t =>
    obtain ⟨hs, _⟩ := shR_sound h hg t
    simp only [use] at hu
    split at hu
    · rename_i ty e
      rw [e] at hs
      cases hu
      exact hs
    · rename_i j ver e
      rw [e] at hs
      cases hb : Nat.beq ver (S.ver j) <;> simp only [hb, cond_true, cond_false] at hu
      · cases hu
      · have hver := Nat.eq_of_beq_eq_true hb
        have ho := h.objs j
        split at hu
        · rename_i ty eo
          rw [eo] at ho
          cases hu
          show Rep C.cap σ ty (a.tmps.getD t undef) (ρ.o j)
          rw [hs.2 hver]; exact ho.2
        · cases hu
    · rename_i j ver off e
      rw [e] at hs
      cases hb : (Nat.beq ver (S.ver j) && Nat.beq off 0) <;> simp only [hb, cond_true, cond_false] at hu
      · cases hu
      · simp only [Bool.and_eq_true] at hb
        have hver := Nat.eq_of_beq_eq_true hb.1
        have hoff := Nat.eq_of_beq_eq_true hb.2
        have ho := h.objs j
        split at hu
        · rename_i ty eo
          rw [eo] at ho
          cases hu
          obtain ⟨k, v, h1, h2, h3⟩ := ho
          obtain ⟨k', e1, e2⟩ := hs.2 hver
          rw [h1] at e1
          cases e1
          subst hoff
          show Rep C.cap σ (.ref ty) (a.tmps.getD t undef) (.ref (ρ.o j))
          rw [e2]
          exact .ref ty k 0 v _ h2 (by simpa using h3)
        · cases hu
    · cases hu
end
end Cx
