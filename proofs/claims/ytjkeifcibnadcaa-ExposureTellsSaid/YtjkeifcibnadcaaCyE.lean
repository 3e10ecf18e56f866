/-
  Functions and tables of functions.
-/
import Derived.Test.YtjkeifcibnadcaaCyD
set_option linter.unusedSimpArgs false
set_option linter.unusedVariables false
namespace Cx
open Go Go.RowKit

def entrySnap (m : Nat) (s : Sig) : Snap := ⟨s.args.map .dat ++ List.replicate (m - s.args.length) .none, []⟩
def env0 (ds : List D) : Env := ⟨fun t => ds.getD t .none, fun _ => .none⟩

def compF (C : Ctx) (fn : Func) (s : Sig) (ids : List Nat) : Option PC :=
  match fn.body with
  | some c =>
    bif Nat.ble s.args.length fn.ntmps then
      (comp C fn s fn.ntmps ids (regC C fn.ntmps ids) c (entrySnap fn.ntmps s)).bind fun r =>
        match r.out with
        | none => some r.pc
        | some S => (retPE C fn s (S.st ids)).map fun e => .seq r.pc (.ret e)
    else none
  | none => none

theorem lookO_nil : ∀ (ids : List Nat) (j : Nat), lookO ids [] j = .dead
  | [], _ => rfl
  | _ :: _, _ => rfl

theorem entry_good {C : Ctx} {σ : Im} {w : World} {args : Array Value} {ds : List D} {s : Sig} {m : Nat} {ids : List Nat} (hok : σ.ok w) (ha : ArgsOK C σ s.args args.toList ds) :
    Good C w σ ((entrySnap m s).st ids) (env0 ds) (fun _ => False) { tmps := args ++ Array.replicate (m - args.size) undef, defers := [] } w := by
  obtain ⟨h1, h2, h3⟩ := ha
  have hsz : args.size = s.args.length := by simpa using h1
  refine ⟨σ, fun _ => none, fun _ => undef, rfl, hok, .refl σ, fun _ _ _ h => .inl h, fun _ _ h => .inl h, .refl _ _, (fun k j h => by cases h), fun t => ?_, fun j => ?_, fun t gs s' e => absurd e (Snap.noOpt _ _ t gs s')⟩
  · show CellOK C _ _ σ _ (unopt ((s.args.map Sh.dat ++ List.replicate (m - s.args.length) Sh.none).getD t .none)) _ _
    rw [List.getD_eq_getElem?_getD]
    by_cases ht : t < s.args.length
    · rw [List.getElem?_append_left (by simpa using ht), List.getElem?_map, List.getElem?_eq_getElem ht]
      simp only [Option.map_some, Option.getD_some, unopt]
      have := h3 t _ (List.getElem?_eq_getElem ht)
      have e1 : (args ++ Array.replicate (m - args.size) undef).getD t undef = args.toList.getD t undef := by
        simp only [Array.getD_eq_getD_getElem?, List.getD_eq_getElem?_getD]
        rw [Array.getElem?_append_left (by omega)]; simp
      show CellOK C _ _ σ _ (.dat _) ((args ++ Array.replicate (m - args.size) undef).getD t undef) (ds.getD t .none)
      rw [e1]; exact this
    · rw [List.getElem?_append_right (by simpa using ht), List.getElem?_replicate]
      split <;> trivial
  · show ObjOK C _ _ σ _ _ w _ j (lookO ids [] j)
    rw [lookO_nil]; trivial

theorem compF_sound {C : Ctx} {Φ : Funs} (hcl : ClosOK C) (hΦ : FunsOK C Φ) {f : Nat} {fn : Func} {s : Sig} {ids : List Nat} {pc : PC} (hf : C.P.funcs[f]? = some fn) (hc : compF C fn s ids = some pc) {N : Nat} {ds : List D} {d : D}
    (he : pc.ev Φ N (env0 ds) = some (.ret d)) : FnOK C f s ds d := by
  intro σ w args hok hC ha
  unfold compF at hc
  split at hc
  case h_2 => cases hc
  rename_i c hb
  cases hle : Nat.ble s.args.length fn.ntmps <;> simp only [hle, cond_true, cond_false] at hc
  · cases hc
  have hle' := Nat.le_of_ble_eq_true hle
  simp only [Option.bind_eq_some_iff] at hc
  obtain ⟨r, hr, hc⟩ := hc
  have hsz : args.size = s.args.length := by simpa using ha.1
  refine calls_of_wp hf hb ?_
  have hg := entry_good (C := C) (m := fn.ntmps) (ids := ids) hok ha
  have hn : (args ++ Array.replicate (fn.ntmps - args.size) undef).size = fn.ntmps := by simp; omega
  have hsound := comp_sound (fn := fn) (s := s) (n := fn.ntmps) (ids := ids) (w0 := w) hC (regC_sound hcl hΦ) N c hr (env0 ds)
  have post : ∀ a' w', RetOK C w σ fn s d a' w' → ∀ e, (e = .normal ∨ e = .ret) → bodyPost C.P fn (fun e w' => ∃ v σ', e = .returned v ∧ σ.le σ' ∧ σ'.ok w' ∧ Below w.heap.size w w' ∧
      (∀ k o x, σ'.c k o = some x → σ.c k o = some x ∨ w.heap.size ≤ k) ∧ (∀ k x, σ'.m k = some x → σ.m k = some x ∨ w.heap.size ≤ k) ∧ ResOK C s σ' w w' v d) e a' w' := by
    intro a' w' hret e hee
    obtain ⟨h1, v, σ', h2, h3, h4, h5, h6, h7, h8⟩ := hret
    rcases hee with e1 | e1 <;> subst e1 <;> exact ⟨h1, v, h2, v, σ', rfl, h3, h4, h5, h6, h7, h8⟩
  split at hc
  · rename_i hout
    cases hc
    refine wp_mono (hsound (.ret d) _ w hn hg he) fun e a' w' ho => ?_
    cases e with
    | normal => obtain ⟨_, _, h, _⟩ := ho; cases h
    | exit id => obtain ⟨_, _, h, _⟩ := ho; cases h
    | ret => obtain ⟨d', h, h2⟩ := ho; cases h; exact post a' w' h2 _ (.inr rfl)
    | _ => exact ho.elim
  · rename_i S hout
    simp only [Option.map_eq_some_iff] at hc
    obtain ⟨pe, hpe, rfl⟩ := hc
    simp only [PC.ev] at he
    split at he
    · rename_i ρ1 h1
      cases he
      refine wp_mono (hsound (.next ρ1) _ w hn hg h1) fun e a' w' ho => ?_
      cases e with
      | normal =>
        obtain ⟨ρ2, S2, e1, e2, hn2, hg2⟩ := ho
        cases e1
        rw [hout] at e2; cases e2
        obtain ⟨σ2, own, hv, hi⟩ := hg2
        exact post a' w' (retPE_sound hi hC hpe) _ (.inl rfl)
      | exit id => obtain ⟨_, _, h, _⟩ := ho; cases h
      | ret => obtain ⟨d', h, h2⟩ := ho; cases h
      | _ => exact ho.elim
    · rename_i hne
      refine wp_mono (hsound (.ret d) _ w hn hg he) fun e a' w' ho => ?_
      cases e with
      | normal => obtain ⟨_, _, h, _⟩ := ho; cases h
      | exit id => obtain ⟨_, _, h, _⟩ := ho; cases h
      | ret => obtain ⟨d', h, h2⟩ := ho; cases h; exact post a' w' h2 _ (.inr rfl)
      | _ => exact ho.elim

/-- A table of functions: compiled ones, and others whose contracts are proved apart (ext, given the table one step lower). -/
def Tab (tab : Nat → Option PC) (ext : Nat → Option (Funs → List D → Option D)) : Nat → Funs
  | 0 => fun _ _ => none
  | n + 1 => fun f ds =>
    match ext f with
    | some g => g (Tab tab ext n) ds
    | none =>
      match tab f with
      | some pc => (match pc.ev (Tab tab ext n) n (env0 ds) with | some (.ret d) => some d | _ => none)
      | none => none

theorem FnOK.hint {C : Ctx} {fr nh : List Nat} {f : Nat} {s : Sig} {ds : List D} {d : D} (h : FnOK C f s ds d) : FnOK { C with fr := fr, nh := nh } f s ds d :=
  fun σ w args hok hC ha => h σ w args hok ⟨hC.glob⟩ ha
theorem FnOK.unhint {C : Ctx} {fr nh : List Nat} {f : Nat} {s : Sig} {ds : List D} {d : D} (h : FnOK { C with fr := fr, nh := nh } f s ds d) : FnOK C f s ds d :=
  fun σ w args hok hC ha => h σ w args hok ⟨hC.glob⟩ ha
theorem FunsOK.hint {C : Ctx} {fr nh : List Nat} {Φ : Funs} (h : FunsOK C Φ) : FunsOK { C with fr := fr, nh := nh } Φ :=
  fun f ds d e => let ⟨s, h1, h2⟩ := h f ds d e; ⟨s, h1, h2.hint⟩
theorem ClosOK.hint {C : Ctx} {fr nh : List Nat} (h : ClosOK C) : ClosOK { C with fr := fr, nh := nh } := h

structure TabOK (C : Ctx) (tab : Nat → Option PC) (ext : Nat → Option (Funs → List D → Option D)) : Prop where
  clos : ClosOK C
  tab : ∀ f pc, ext f = none → tab f = some pc → ∃ fn s ids fr nh, C.P.funcs[f]? = some fn ∧ C.sig f = some s ∧ compF { C with fr := fr, nh := nh } fn s ids = some pc
  ext : ∀ f g, ext f = some g → ∀ Φ, FunsOK C Φ → ∀ ds d, g Φ ds = some d → ∃ s, C.sig f = some s ∧ FnOK C f s ds d

theorem Tab_ok {C : Ctx} {tab : Nat → Option PC} {ext : Nat → Option (Funs → List D → Option D)} (h : TabOK C tab ext) : ∀ n, FunsOK C (Tab tab ext n)
  | 0 => fun f ds d e => by simp [Tab] at e
  | n + 1 => fun f ds d e => by
    have ih := Tab_ok h n
    simp only [Tab] at e
    split at e
    · rename_i g hg; exact h.ext f g hg _ ih ds d e
    · rename_i hx
      split at e
      · rename_i pc hpc
        split at e
        · rename_i d' he
          cases e
          obtain ⟨fn, s, ids, fr, nh, h1, h2, h3⟩ := h.tab f pc hx hpc
          exact ⟨s, h2, (compF_sound (C := { C with fr := fr, nh := nh }) (ClosOK.hint h.clos) (FunsOK.hint ih) h1 h3 he).unhint⟩
        · cases e
      · cases e
def lookL {α : Type} : List (Nat × α) → Nat → Option α
  | [], _ => none
  | x :: l, f => bif Nat.beq x.1 f then some x.2 else lookL l f
def AllL {α : Type} (R : Nat → α → Prop) : List (Nat × α) → Prop
  | [] => True
  | x :: l => R x.1 x.2 ∧ AllL R l
theorem look_all {α : Type} {R : Nat → α → Prop} : ∀ {l : List (Nat × α)}, AllL R l → ∀ f x, lookL l f = some x → R f x
  | [], _, f, x, h => by cases h
  | y :: l, ⟨h1, h2⟩, f, x, h => by
    simp only [lookL] at h
    cases hb : Nat.beq y.1 f <;> simp only [hb, cond_true, cond_false] at h
    · exact look_all h2 f x h
    · cases h; rw [← nbeq hb]; exact h1
/-- functions that there are -/
def thereB (P : Program) : List (Nat × Sig) → Bool
  | [] => true
  | x :: l => (match P.funcs[x.1]? with | some fn => fn.body.isSome && !(fn.name == "runtime.NumGoroutine") | none => false) && thereB P l
theorem thereB_ok {P : Program} : ∀ {l : List (Nat × Sig)}, thereB P l = true → ∀ f s, lookL l f = some s → ∃ fn, P.funcs[f]? = some fn ∧ fn.body.isSome = true ∧ (fn.name == "runtime.NumGoroutine") = false
  | [], _, f, s, h => by cases h
  | y :: l, hl, f, s, h => by
    simp only [thereB, Bool.and_eq_true] at hl
    simp only [lookL] at h
    cases hb : Nat.beq y.1 f <;> simp only [hb, cond_true, cond_false] at h
    · exact thereB_ok hl.2 f s h
    · rw [← nbeq hb]
      have h1 := hl.1
      split at h1
      · rename_i fn e
        simp only [Bool.and_eq_true, Bool.not_eq_true'] at h1
        exact ⟨fn, e, h1.1, h1.2⟩
      · cases h1
end Cx
