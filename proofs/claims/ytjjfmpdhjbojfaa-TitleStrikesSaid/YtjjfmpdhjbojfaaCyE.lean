/-
  Functions and tables of functions.
-/
import Derived.Test.YtjjfmpdhjbojfaaCyD
set_option linter.unusedSimpArgs false
set_option linter.unusedVariables false
namespace Cx
open Go Go.RowKit

def entrySnap (m : Nat) (s : Sig) : Snap := ⟨s.args.map .dat ++ List.replicate (m - s.args.length) .none, []⟩
def env0 (ds : List D) : Env := ⟨fun t => ds.getD t .none, fun _ => .none⟩

/-- a function's body, and what it gives back at its end -/
def compB (C : Ctx) (fn : Func) (s : Sig) (ids : List Nat) (S0 : Snap) : Option PC :=
  match fn.body with
  | some c =>
    (comp C fn s fn.ntmps ids (regC C fn.ntmps ids) false c S0).bind fun r =>
      match r.out with
      | none => some r.pc
      | some S => (retPE C fn s (S.st ids)).map fun e => .seq r.pc (.ret e)
  | none => none
def compF (C : Ctx) (fn : Func) (s : Sig) (ids : List Nat) : Option PC :=
  match C.yl with
  | none => bif Nat.ble s.args.length fn.ntmps then compB C fn s ids (entrySnap fn.ntmps s) else none
  | some _ => none

theorem lookO_nil : ∀ (ids : List Nat) (j : Nat), lookO ids [] j = .dead
  | [], _ => rfl
  | _ :: _, _ => rfl

theorem compB_sound {C : Ctx} {Φ : Funs} (hcl : ClosOK C) (hΦ : FunsOK C Φ) (hIt : ItsOK C Φ) {fn : Func} {s : Sig} {ids : List Nat} {S0 : Snap} {pc : PC} {c : Code} (hb : fn.body = some c) (hc : compB C fn s ids S0 = some pc) {w0 : World} {σ0 : Base} (hfin : σ0.fin) (hC : CtxOK C σ0) (hY : YieldsOK C Φ w0 σ0)
    {N : Nat} {ρ : Env} {d : D} {a : Act} {w : World} (hn : a.tmps.size = fn.ntmps) (hg : Good C w0 σ0 (S0.st ids) ρ (fun _ => False) a w) (he : pc.ev Φ N ρ = some (.ret d)) :
    c.wpIn (FR none) 0 C.P (fun e a' w' => (e = .normal ∨ e = .ret) ∧ RetD C w0 σ0 fn s d a'.tmps a'.defers w') a w := by
  unfold compB at hc
  rw [hb] at hc
  simp only [Option.bind_eq_some_iff] at hc
  obtain ⟨r, hr, hc⟩ := hc
  have hsound := fun x hx => comp_soundC (fn := fn) (s := s) (N := N) hIt (regC_sound (n := fn.ntmps) (ids := ids) hcl hΦ) c false S0 r hr none w0 σ0 (fun _ => True) ρ x a w (fun _ => ⟨rfl, hfin⟩) hC hY (fun _ _ => trivial) hn hg hx
  split at hc
  · rename_i hout
    cases hc
    refine wpIn_mono (hsound (.ret d) he) fun e a' w' ho => ?_
    cases e with
    | normal => obtain ⟨_, _, h, _⟩ := ho; cases h
    | exit id => obtain ⟨_, _, h, _⟩ := ho; cases h
    | ret => obtain ⟨d', h, h2⟩ := ho; cases h; exact ⟨.inr rfl, h2⟩
    | _ => exact ho.elim
  · rename_i S hout
    simp only [Option.map_eq_some_iff] at hc
    obtain ⟨pe, hpe, rfl⟩ := hc
    simp only [PC.ev] at he
    split at he
    · rename_i ρ1 h1
      cases he
      refine wpIn_mono (hsound (.next ρ1) h1) fun e a' w' ho => ?_
      cases e with
      | normal =>
        obtain ⟨ρ2, S2, e1, e2, hn2, hg2⟩ := ho
        cases e1
        rw [hout] at e2; cases e2
        obtain ⟨σ2, own, hv, hi⟩ := hg2
        exact ⟨.inl rfl, Inv.retD hC hfin hpe _ hi rfl⟩
      | exit id => obtain ⟨_, _, h, _⟩ := ho; cases h
      | ret => obtain ⟨d', h, h2⟩ := ho; cases h
      | _ => exact ho.elim
    · rename_i hne
      refine wpIn_mono (hsound (.ret d) he) fun e a' w' ho => ?_
      cases e with
      | normal => obtain ⟨_, _, h, _⟩ := ho; cases h
      | exit id => obtain ⟨_, _, h, _⟩ := ho; cases h
      | ret => obtain ⟨d', h, h2⟩ := ho; cases h; exact ⟨.inr rfl, h2⟩
      | _ => exact ho.elim

/-- the way out -/
theorem RetD.leaves {C : Ctx} {w0 : World} {σ0 : Base} {fn : Func} {s : Sig} {d : D} {tmps : Array Value} {R : Ending → World → Prop} (hR : ∀ w', RetOK C w0 σ0 fn s d { tmps := tmps, defers := [] } w' → ∃ v, (results fn tmps).run C.P w' = .ok v w' ∧ R (.returned v) w') :
    ∀ (ds : List Deferred) (w : World), RetD C w0 σ0 fn s d tmps ds w → LeavesInM (FR none) 0 C.P fn tmps R ds .returning w
  | [], w, h => hR w h
  | x :: ds, w, ⟨D, h1, h2, h3⟩ => ⟨by simp, .inl ⟨D, _, h1, run_takeDeferred h2, RetD.leaves hR ds _ h3⟩⟩

theorem entry_good {C : Ctx} {σ : Im} {w : World} {args : Array Value} {ds : List D} {s : Sig} {m : Nat} {ids : List Nat} (hok : σ.ok w) (ha : ArgsOK C σ s.args args.toList ds) :
    Good C w (Base.mk0 σ w.heap.size) ((entrySnap m s).st ids) (env0 ds) (fun _ => False) { tmps := args ++ Array.replicate (m - args.size) undef, defers := [] } w := by
  obtain ⟨h1, h2, h3⟩ := ha
  have hsz : args.size = s.args.length := by simpa using h1
  refine ⟨σ, fun _ => none, fun _ => undef, trivial, hok, .refl σ, fun _ k es e => (hok.m k es e).lt, fun _ _ _ h => .inl h, fun _ _ h => .inl h, .refl _ _, Nat.le_refl _, (fun k j h => by cases h), fun t => ?_, fun j => ?_, fun t gs s' e => absurd e (Snap.noOpt _ _ t gs s'),
    .none, fun _ => False, fun _ => False, ⟨⟨fun _ => id, fun _ => id⟩, (fun k j h => by cases h), fun _ _ _ _ => id, fun _ _ _ => id, fun _ _ _ => id⟩, fun j hj => ?_⟩
  · show CellOK C _ _ σ _ (unopt ((s.args.map Sh.dat ++ List.replicate (m - s.args.length) Sh.none).getD t .none)) _ _
    rw [List.getD_eq_getElem?_getD]
    by_cases ht : t < s.args.length
    · rw [List.getElem?_append_left (by simpa using ht), List.getElem?_map, List.getElem?_eq_getElem ht]
      simp only [Option.map_some, Option.getD_some, unopt]
      have := h3 t _ (List.getElem?_eq_getElem ht)
      have e1 : (args ++ Array.replicate (m - args.size) undef).getD t undef = args.toList.getD t undef := by
        simp only [Array.getD_eq_getD_getElem?, List.getD_eq_getElem?_getD]
        rw [Array.getElem?_append_left (by omega)]; simp
      show CellOK C _ _ σ _ (.dat _) ((args ++ Array.replicate (m - args.size) undef).getD t undef) (ds.getD t .none)
      rw [e1]; exact this
    · rw [List.getElem?_append_right (by simpa using ht), List.getElem?_replicate]
      split <;> trivial
  · show ObjOK C _ _ σ _ _ w _ j (lookO ids [] j)
    rw [lookO_nil]; trivial
  · change lookO ids [] j = .tr at hj
    rw [lookO_nil] at hj; cases hj

theorem compF_sound {C : Ctx} {Φ : Funs} (hcl : ClosOK C) (hΦ : FunsOK C Φ) (hIt : ItsOK C Φ) {f : Nat} {fn : Func} {s : Sig} {ids : List Nat} {pc : PC} (hf : C.P.funcs[f]? = some fn) (hc : compF C fn s ids = some pc) {N : Nat} {ds : List D} {d : D}
    (he : pc.ev Φ N (env0 ds) = some (.ret d)) : FnOK C f s ds d := by
  intro σ w args hok hC ha
  unfold compF at hc
  split at hc
  case h_2 => cases hc
  rename_i hyl
  cases hle : Nat.ble s.args.length fn.ntmps <;> simp only [hle, cond_true, cond_false] at hc
  · cases hc
  have hle' := Nat.le_of_ble_eq_true hle
  have hsz : args.size = s.args.length := by simpa using ha.1
  cases hb : fn.body with
  | none => unfold compB at hc; rw [hb] at hc; cases hc
  | some c =>
  refine (callsIn_wide (n := 0)).1 (callsIn_of_wp_marks (F := FR none) hf hb trivial ?_)
  have hg := entry_good (C := C) (m := fn.ntmps) (ids := ids) hok ha
  have hn : (args ++ Array.replicate (fn.ntmps - args.size) undef).size = fn.ntmps := by simp; omega
  refine wpIn_mono (compB_sound hcl hΦ hIt hb hc (σ0 := Base.mk0 σ w.heap.size) trivial hC (fun J ys e => by rw [hyl] at e; cases e) hn hg he) fun e a' w' ho => ?_
  have main := RetD.leaves (R := fun e w' => ∃ v σ', e = .returned v ∧ σ.le σ' ∧ σ'.ok w' ∧ Below w.heap.size w w' ∧
      (∀ k o x, σ'.c k o = some x → σ.c k o = some x ∨ w.heap.size ≤ k) ∧ (∀ k x, σ'.m k = some x → σ.m k = some x ∨ w.heap.size ≤ k) ∧ ResOK C s σ' w w' v d) (fun w2 hret => by
    obtain ⟨v, σ', _, h2, h3, h4, h5, h6, h7, h8⟩ := hret
    exact ⟨v, h2, v, σ', rfl, h3, h4, h5, h6, h7, h8⟩) _ _ ho.2
  rcases ho.1 with rfl | rfl <;> exact main

/-! iterators -/
def entryI (m : Nat) (cts : List Ty) (J : Nat) (ids : List Nat) : Snap := ⟨.yv :: (cts.map .dat ++ List.replicate (m - (cts.length + 1)) .none), ids.map fun j => bif Nat.beq j J then .tr else .dead⟩
def envI (J : Nat) (ds : List D) : Env := ⟨fun t => (D.none :: ds).getD t .none, fun j => bif Nat.beq j J then .list [] else .none⟩
/-- a closure that yields: cts: what it has captured -/
def compI (C : Ctx) (fn : Func) (cts ys : List Ty) (J : Nat) (ids : List Nat) : Option PC :=
  match C.yl, C.sig yldF, C.cap yldF with
  | none, none, none => bif Nat.ble (cts.length + 1) fn.ntmps then compB { C with yl := some (J, ys) } fn ⟨[], .tup [], .it J⟩ ids (entryI fn.ntmps cts J ids) else none
  | _, _, _ => none

open Classical in
/-- the answers: go on up to the element m, then stop -/
noncomputable def yldΦ (Φ : Funs) (xs : List D) (m : Nat) : Funs := fun f ds =>
  if f = yldF then (match ds with | [.list l] => if 0 < l.length ∧ l.length ≤ m + 1 ∧ l = xs.take l.length then some (.v (.bool (decide (l.length ≤ m)))) else none | _ => none)
  else Φ f ds

theorem yldΦ_at {Φ : Funs} {xs l ds : List D} {d : D} {m : Nat} (h : yldΦ Φ xs m yldF [.list (l ++ [.tup ds])] = some d) : l.length ≤ m ∧ l = xs.take l.length ∧ xs[l.length]? = some (.tup ds) ∧ l ++ [.tup ds] = xs.take (l.length + 1) ∧ d = .v (.bool (decide (l.length < m))) := by
  simp only [yldΦ, if_true] at h
  split at h
  · rename_i hc
    obtain ⟨h1, h2, h3⟩ := hc
    simp only [List.length_append, List.length_cons, List.length_nil, Nat.zero_add] at h2 h3 h
    have hx : xs[l.length]? = some (.tup ds) := by
      have : (xs.take (l.length + 1))[l.length]? = some (.tup ds) := by rw [← h3]; simp
      rw [List.getElem?_take] at this
      simpa using this
    have hl : l = xs.take l.length := by
      have := congrArg (List.take l.length) h3
      simpa [List.take_take] using this
    refine ⟨by omega, hl, hx, h3, ?_⟩
    cases h
    congr 2
  · cases h

theorem FunsOK.yl {C : Ctx} {Φ : Funs} (h : FunsOK C Φ) {y : Option (Nat × List Ty)} {v : Value} {xs : List D} {m : Nat} (hs : C.sig yldF = none) : FunsOK { C with yl := y, yv := v } (yldΦ Φ xs m) := by
  intro f ds d e s hs'
  have hne : f ≠ yldF := fun e' => by subst e'; change C.sig yldF = some s at hs'; rw [hs] at hs'; cases hs'
  simp only [yldΦ, if_neg hne] at e
  exact fun σ w args hok hC ha => h f ds d e s hs' σ w args hok ⟨hC.glob⟩ ha
theorem ItOK.yl {C : Ctx} {y : Option (Nat × List Ty)} {v : Value} {f : Nat} {cts ys : List Ty} {ds xs : List D} (h : ItOK C f cts ys ds xs) : ItOK { C with yl := y, yv := v } f cts ys ds xs :=
  fun σ w yv vs F fx cx m hok hC => h σ w yv vs F fx cx m hok ⟨hC.glob⟩
theorem ItsOK.yl {C : Ctx} {Φ : Funs} (h : ItsOK C Φ) {y : Option (Nat × List Ty)} {v : Value} {xs : List D} {m : Nat} (hs : C.cap yldF = none) : ItsOK { C with yl := y, yv := v } (yldΦ Φ xs m) := by
  intro f cs ys hc hi
  have hne : f ≠ yldF := fun e' => by subst e'; change C.cap yldF = some cs at hc; rw [hs] at hc; cases hc
  obtain ⟨h1, h2⟩ := h f cs ys hc hi
  refine ⟨h1, fun ds d e => ?_⟩
  simp only [yldΦ, if_neg hne] at e
  obtain ⟨xs, e1, e2, e3⟩ := h2 ds d e
  exact ⟨xs, e1, e2, e3.yl⟩

/-- what the compile of an iterator must be shown to compute -/
def ItRuns (Φ : Funs) (pc : PC) (J : Nat) (ds xs : List D) : Prop := ∀ m, m ≤ xs.length → ∃ N, pc.ev (yldΦ Φ xs m) N (envI J ds) = some (.ret (.list (xs.take (m + 1))))

theorem entryI_good {C : Ctx} {σ : Im} {σ0 : Base} {w : World} {yv : Value} {vs : List Value} {ds : List D} {cts ys : List Ty} {J m : Nat} {ids : List Nat} (hok : σ.ok w) (ha : ArgsOK C σ cts vs ds) (hm : cts.length + 1 ≤ m) (hyl : C.yl = some (J, ys)) (hyv : C.yv = yv)
    (h0 : σ0.toIm = σ) (hB : σ0.B = 0) {fx cx : Nat → Prop} (hF : σ0.F (.list []) fx cx w) (hcc : ∀ k o x, σ.c k o = some x → ¬ cx k) (hcm : ∀ k x, σ.m k = some x → ¬ cx k) :
    Good C w σ0 ((entryI m cts J ids).st ids) (envI J ds) (fun _ => False) { tmps := #[yv] ++ vs.toArray ++ Array.replicate (m - (vs.length + 1)) undef, defers := [] } w := by
  obtain ⟨h1, h2, h3⟩ := ha
  refine ⟨σ, fun _ => none, fun _ => undef, trivial, hok, by rw [h0]; exact .refl σ, fun _ k es e => by rw [h0] at e; exact (hok.m k es e).lt, fun _ _ _ h => by rw [h0]; exact .inl h, fun _ _ h => by rw [h0]; exact .inl h, .refl _ _, by omega, (fun k j h => by cases h), fun t => ?_, fun j => ?_, fun t gs s' e => absurd e (Snap.noOpt _ _ t gs s'),
    .list [], fx, cx, ⟨hF, (fun k j h => by cases h), hcc, hcm, fun k e hk => by have := (hok.m k _ e).lt; omega⟩, fun j hj => ?_⟩
  · show CellOK C _ _ σ _ (unopt ((Sh.yv :: (cts.map Sh.dat ++ List.replicate (m - (cts.length + 1)) Sh.none)).getD t .none)) ((#[yv] ++ vs.toArray ++ Array.replicate (m - (vs.length + 1)) undef).getD t undef) ((D.none :: ds).getD t .none)
    have ea : ((#[yv] ++ vs.toArray ++ Array.replicate (m - (vs.length + 1)) undef).getD t undef) = (yv :: (vs ++ List.replicate (m - (vs.length + 1)) undef)).getD t undef := by
      rw [Array.getD_eq_getD_getElem?, ← Array.getElem?_toList, List.getD_eq_getElem?_getD]
      simp
    rw [ea]
    cases t with
    | zero => simp only [List.getD_cons_zero, unopt]; exact hyv.symm
    | succ t =>
      simp only [List.getD_cons_succ]
      rw [List.getD_eq_getElem?_getD]
      by_cases ht : t < cts.length
      · rw [List.getElem?_append_left (by simpa using ht), List.getElem?_map, List.getElem?_eq_getElem ht]
        simp only [Option.map_some, Option.getD_some, unopt]
        have := h3 t _ (List.getElem?_eq_getElem ht)
        have e1 : (vs ++ List.replicate (m - (vs.length + 1)) undef).getD t undef = vs.getD t undef := by
          simp only [List.getD_eq_getElem?_getD]; rw [List.getElem?_append_left (by omega)]
        show CellOK C _ _ σ _ (.dat _) _ (ds.getD t .none)
        rw [e1]; exact this
      · rw [List.getElem?_append_right (by simpa using ht), List.getElem?_replicate]
        split <;> trivial
  · show ObjOK C _ _ σ _ _ w _ j (lookO ids (ids.map fun j => bif Nat.beq j J then .tr else .dead) j)
    refine lookO_map _ (fun ob => ObjOK C _ _ σ _ _ w _ j ob) trivial j ?_ ids
    cases Nat.beq j J <;> trivial
  · change lookO ids (ids.map fun j => bif Nat.beq j J then .tr else .dead) j = .tr at hj
    have hb := lookO_map (fun j => bif Nat.beq j J then Ob.tr else .dead) (fun ob => ob = .tr → Nat.beq j J = true) (fun e => by cases e) j (fun e => by
      cases hb : Nat.beq j J
      · rw [hb] at e; cases e
      · rfl) ids hj
    have := Nat.eq_of_beq_eq_true hb
    subst this
    refine ⟨⟨ys, hyl⟩, ?_⟩
    show (bif Nat.beq j j then D.list [] else .none) = _
    rw [Nat.beq_refl]; rfl

theorem compI_sound {C : Ctx} {Φ : Funs} (hcl : ClosOK C) (hΦ : FunsOK C Φ) (hIt : ItsOK C Φ) {f : Nat} {fn : Func} {cts ys : List Ty} {J : Nat} {ids : List Nat} {pc : PC} (hf : C.P.funcs[f]? = some fn) (hc : ∀ yv, compI { C with yv := yv } fn cts ys J ids = some pc) {ds xs : List D}
    (hr : ItRuns Φ pc J ds xs) : ItOK C f cts ys ds xs := by
  intro σ w yv vs F fx cx m hok hC ha hm hlt hsub hkeep hF hcc hcm hyld
  have hc := hc yv
  unfold compI at hc
  split at hc
  case h_2 => cases hc
  rename_i hyl hsy hcy
  cases hle : Nat.ble (cts.length + 1) fn.ntmps <;> simp only [hle, cond_true, cond_false] at hc
  · cases hc
  have hle' := Nat.le_of_ble_eq_true hle
  obtain ⟨N, he⟩ := hr m hm
  cases hb : fn.body with
  | none => unfold compB at hc; rw [hb] at hc; cases hc
  | some c =>
  refine (callsIn_wide (n := 0)).1 (callsIn_of_wp_marks (F := FR none) hf hb trivial ?_)
  obtain ⟨σ0, hσ0⟩ : ∃ σ0 : Base, σ0 = { σ with B := 0, fin := True, F := fun t fx cx w => (∃ l, t = .list l) ∧ F t fx cx w, lt := fun t fx cx w h => hlt t fx cx w h.2, sub := fun t fx cx w h => hsub t fx cx w h.2, keep := fun t fx cx w w' h hb hs => ⟨h.1, hkeep t fx cx w w' h.2 hb hs⟩ } := ⟨_, rfl⟩
  have e1 : σ0.toIm = σ := by rw [hσ0]
  have e2 : σ0.B = 0 := by rw [hσ0]
  have e3 : σ0.fin := by rw [hσ0]; trivial
  have e4 : ∀ t fx cx w, σ0.F t fx cx w ↔ (∃ l, t = .list l) ∧ F t fx cx w := fun t fx cx w => by rw [hσ0]
  have hg := entryI_good (C := { C with yl := some (J, ys), yv := yv }) (σ0 := σ0) (w := w) (yv := yv) (vs := vs) (ds := ds) (cts := cts) (ys := ys) (J := J) (m := fn.ntmps) (ids := ids) hok ha hle' rfl rfl e1 e2 ((e4 _ _ _ _).2 ⟨⟨_, rfl⟩, hF⟩) hcc hcm
  have hsz : (#[yv] ++ vs.toArray).size = vs.length + 1 := by simp <;> omega
  have hsz2 : vs.length = cts.length := ha.1
  have hY : YieldsOK { C with yl := some (J, ys), yv := yv } (yldΦ Φ xs m) w σ0 := by
    intro J' ys' e
    cases e
    refine ⟨e2, fun t fx cx w h => ((e4 _ _ _ _).1 h).1, fun xs' ds' d hd fx cx w1 σ1 args hF1 hok1 ha1 hc1 hm1 hnc hnm => ?_⟩
    obtain ⟨g1, g2, g3, g4, rfl⟩ := yldΦ_at hd
    rw [e1] at hnc hnm
    have := hyld xs'.length fx cx w1 σ1 args ds' g1 g3 (by rw [← g2]; exact ((e4 _ _ _ _).1 hF1).2) hok1 ha1 hc1 hm1 hnc hnm
    intro rd o a x as ts K Q hop hv has hK
    refine this rd o a x as ts K Q hop hv has fun u w2 hu => hK u w2 ?_
    obtain ⟨u1, u2, u3, fx', cx', u4, u5, u6⟩ := hu
    refine ⟨_, rfl, u1, u2, u3, fx', cx', (e4 _ _ _ _).2 ⟨⟨_, rfl⟩, ?_⟩, u5, u6⟩
    rw [g4]; exact u4
  have hn : (#[yv] ++ vs.toArray ++ Array.replicate (fn.ntmps - (vs.length + 1)) undef).size = fn.ntmps := by simp; omega
  rw [hsz]
  refine wpIn_mono (compB_sound (C := { C with yl := some (J, ys), yv := yv }) hcl (hΦ.yl hsy) (hIt.yl hcy) hb hc (σ0 := σ0) e3 (by rw [e1]; exact ⟨hC.glob⟩) hY hn hg he) fun e a' w' ho => ?_
  have main := RetD.leaves (R := fun e w' => (∃ v, e = .returned v) ∧ ∃ fx cx, F (.list (xs.take (m + 1))) fx cx w') (fun w2 hret => by
    obtain ⟨v, σ', ⟨own, t, fx, cx, h1, ht⟩, h2, _⟩ := hret
    refine ⟨v, h2, ⟨v, rfl⟩, fx, cx, ?_⟩
    rw [ht J rfl]
    exact ((e4 _ _ _ _).1 h1.F).2) _ _ ho.2
  rcases ho.1 with rfl | rfl <;> exact main

/-- A table of functions: compiled ones, and others whose contracts are proved apart (ext, given the table one step lower). -/
def Tab (tab : Nat → Option PC) (ext : Nat → Option (Funs → List D → Option D)) : Nat → Funs
  | 0 => fun _ _ => none
  | n + 1 => fun f ds =>
    match ext f with
    | some g => g (Tab tab ext n) ds
    | none =>
      match tab f with
      | some pc => (match pc.ev (Tab tab ext n) n (env0 ds) with | some (.ret d) => some d | _ => none)
      | none => none

theorem FnOK.hint {C : Ctx} {fr nh : List Nat} {f : Nat} {s : Sig} {ds : List D} {d : D} (h : FnOK C f s ds d) : FnOK { C with fr := fr, nh := nh } f s ds d :=
  fun σ w args hok hC ha => h σ w args hok ⟨hC.glob⟩ ha
theorem FnOK.unhint {C : Ctx} {fr nh : List Nat} {f : Nat} {s : Sig} {ds : List D} {d : D} (h : FnOK { C with fr := fr, nh := nh } f s ds d) : FnOK C f s ds d :=
  fun σ w args hok hC ha => h σ w args hok ⟨hC.glob⟩ ha
theorem ItOK.hint {C : Ctx} {fr nh : List Nat} {f : Nat} {cts ys : List Ty} {ds xs : List D} (h : ItOK C f cts ys ds xs) : ItOK { C with fr := fr, nh := nh } f cts ys ds xs :=
  fun σ w yv vs F fx cx m hok hC => h σ w yv vs F fx cx m hok ⟨hC.glob⟩
theorem ItOK.unhint {C : Ctx} {fr nh : List Nat} {f : Nat} {cts ys : List Ty} {ds xs : List D} (h : ItOK { C with fr := fr, nh := nh } f cts ys ds xs) : ItOK C f cts ys ds xs :=
  fun σ w yv vs F fx cx m hok hC => h σ w yv vs F fx cx m hok ⟨hC.glob⟩
theorem FunsOK.hint {C : Ctx} {fr nh : List Nat} {Φ : Funs} (h : FunsOK C Φ) : FunsOK { C with fr := fr, nh := nh } Φ :=
  fun f ds d e s hs => (h f ds d e s hs).hint
theorem ItsOK.hint {C : Ctx} {fr nh : List Nat} {Φ : Funs} (h : ItsOK C Φ) : ItsOK { C with fr := fr, nh := nh } Φ :=
  fun f cs ys hc hi => let ⟨h1, h2⟩ := h f cs ys hc hi; ⟨h1, fun ds d e => let ⟨xs, e1, e2, e3⟩ := h2 ds d e; ⟨xs, e1, e2, e3.hint⟩⟩
theorem ClosOK.hint {C : Ctx} {fr nh : List Nat} (h : ClosOK C) : ClosOK { C with fr := fr, nh := nh } := h

structure TabOK (C : Ctx) (tab : Nat → Option PC) (ext : Nat → Option (Funs → List D → Option D)) : Prop where
  clos : ClosOK C
  its : ∀ f cs ys, C.cap f = some cs → itOf cs.args cs.res = some ys → tab f = none ∧ ∃ fn, C.P.funcs[f]? = some fn ∧ fn.body.isSome = true ∧ (fn.name == "runtime.NumGoroutine") = false
  tab : ∀ f pc, ext f = none → tab f = some pc → ∃ fn s ids fr nh, C.P.funcs[f]? = some fn ∧ C.sig f = some s ∧ compF { C with fr := fr, nh := nh } fn s ids = some pc
  ext : ∀ f g, ext f = some g → ∀ Φ, FunsOK C Φ → ItsOK C Φ → ∀ ds d, g Φ ds = some d → (∀ s, C.sig f = some s → FnOK C f s ds d) ∧
    ∀ cs ys, C.cap f = some cs → itOf cs.args cs.res = some ys → ∃ xs, d = .list xs ∧ (∀ x, x ∈ xs → ∃ ds', x = .tup ds' ∧ ds'.length = ys.length) ∧ ItOK C f cs.caps ys ds xs

theorem Tab_ok {C : Ctx} {tab : Nat → Option PC} {ext : Nat → Option (Funs → List D → Option D)} (h : TabOK C tab ext) : ∀ n, FunsOK C (Tab tab ext n) ∧ ItsOK C (Tab tab ext n)
  | 0 => ⟨fun f ds d e => by simp [Tab] at e, fun f cs ys hc hi => ⟨(h.its f cs ys hc hi).2, fun ds d e => by simp [Tab] at e⟩⟩
  | n + 1 => by
    obtain ⟨ih, ih2⟩ := Tab_ok h n
    refine ⟨fun f ds d e => ?_, fun f cs ys hc hi => ⟨(h.its f cs ys hc hi).2, fun ds d e => ?_⟩⟩
    · simp only [Tab] at e
      split at e
      · rename_i g hg; exact (h.ext f g hg _ ih ih2 ds d e).1
      · rename_i hx
        split at e
        · rename_i pc hpc
          split at e
          · rename_i d' he
            cases e
            obtain ⟨fn, s, ids, fr, nh, h1, h2, h3⟩ := h.tab f pc hx hpc
            intro s' hs'
            rw [h2] at hs'; cases hs'
            exact (compF_sound (C := { C with fr := fr, nh := nh }) (ClosOK.hint h.clos) (FunsOK.hint ih) (ItsOK.hint ih2) h1 h3 he).unhint
          · cases e
        · cases e
    · simp only [Tab] at e
      split at e
      · rename_i g hg; exact (h.ext f g hg _ ih ih2 ds d e).2 cs ys hc hi
      · rw [(h.its f cs ys hc hi).1] at e; cases e

/-- an iterator in a table: spec: what it yields -/
def ItSpec (Φ : Funs) (pc : PC) (J k : Nat) (ds xs : List D) : Prop := ItRuns Φ pc J ds xs ∧ ∀ x, x ∈ xs → ∃ ds', x = .tup ds' ∧ ds'.length = k
open Classical in
noncomputable def itG (pc : PC) (J k : Nat) (spec : List D → List D) : Funs → List D → Option D := fun Φ ds => if ItSpec Φ pc J k ds (spec ds) then some (.list (spec ds)) else none
theorem itG_ok {C : Ctx} {Φ : Funs} (hcl : ClosOK C) (hΦ : FunsOK C Φ) (hIt : ItsOK C Φ) {f : Nat} {fn : Func} {cts ys : List Ty} {J k : Nat} {ids fr nh : List Nat} {pc : PC} (hf : C.P.funcs[f]? = some fn) (hc : ∀ yv, compI { C with fr := fr, nh := nh, yv := yv } fn cts ys J ids = some pc) {spec : List D → List D}
    {ds : List D} {d : D} (h : itG pc J k spec Φ ds = some d) (hk : k = ys.length) : ∃ xs, d = .list xs ∧ (∀ x, x ∈ xs → ∃ ds', x = .tup ds' ∧ ds'.length = ys.length) ∧ ItOK C f cts ys ds xs := by
  unfold itG at h
  split at h
  · rename_i hs
    cases h
    subst hk
    exact ⟨_, rfl, hs.2, (compI_sound (C := { C with fr := fr, nh := nh }) (ClosOK.hint hcl) (FunsOK.hint hΦ) (ItsOK.hint hIt) hf hc hs.1).unhint⟩
  · cases h
def lookL {α : Type} : List (Nat × α) → Nat → Option α
  | [], _ => none
  | x :: l, f => bif Nat.beq x.1 f then some x.2 else lookL l f
def AllL {α : Type} (R : Nat → α → Prop) : List (Nat × α) → Prop
  | [] => True
  | x :: l => R x.1 x.2 ∧ AllL R l
theorem look_all {α : Type} {R : Nat → α → Prop} : ∀ {l : List (Nat × α)}, AllL R l → ∀ f x, lookL l f = some x → R f x
  | [], _, f, x, h => by cases h
  | y :: l, ⟨h1, h2⟩, f, x, h => by
    simp only [lookL] at h
    cases hb : Nat.beq y.1 f <;> simp only [hb, cond_true, cond_false] at h
    · exact look_all h2 f x h
    · cases h; rw [← nbeq hb]; exact h1
/-- functions that there are -/
def thereB (P : Program) : List (Nat × Sig) → Bool
  | [] => true
  | x :: l => (match P.funcs[x.1]? with | some fn => fn.body.isSome && !(fn.name == "runtime.NumGoroutine") | none => false) && thereB P l
theorem thereB_ok {P : Program} : ∀ {l : List (Nat × Sig)}, thereB P l = true → ∀ f s, lookL l f = some s → ∃ fn, P.funcs[f]? = some fn ∧ fn.body.isSome = true ∧ (fn.name == "runtime.NumGoroutine") = false
  | [], _, f, s, h => by cases h
  | y :: l, hl, f, s, h => by
    simp only [thereB, Bool.and_eq_true] at hl
    simp only [lookL] at h
    cases hb : Nat.beq y.1 f <;> simp only [hb, cond_true, cond_false] at h
    · exact thereB_ok hl.2 f s h
    · rw [← nbeq hb]
      have h1 := hl.1
      split at h1
      · rename_i fn e
        simp only [Bool.and_eq_true, Bool.not_eq_true'] at h1
        exact ⟨fn, e, h1.1, h1.2⟩
      · cases h1
def sigBeq (a b : Sig) : Bool := Ty.beqs a.args b.args && Ty.beq a.res b.res && (match a.mode, b.mode with | .dat, .dat => true | _, _ => false)
theorem sigBeq_eq {a b : Sig} (h : sigBeq a b = true) : a = b := by
  obtain ⟨a1, a2, a3⟩ := a
  obtain ⟨b1, b2, b3⟩ := b
  simp only [sigBeq, Bool.and_eq_true] at h
  rw [Ty.beqs_eq _ _ h.1.1, Ty.beq_eq _ _ h.1.2]
  cases a3 <;> cases b3 <;> first | rfl | (have := h.2; cases this)
def thereF (P : Program) (f : Nat) : Bool := match P.funcs[f]? with | some fn => fn.body.isSome && !(fn.name == "runtime.NumGoroutine") | none => false
theorem thereF_ok {P : Program} {f : Nat} (h : thereF P f = true) : ∃ fn, P.funcs[f]? = some fn ∧ fn.body.isSome = true ∧ (fn.name == "runtime.NumGoroutine") = false := by
  unfold thereF at h
  split at h
  · rename_i fn e
    simp only [Bool.and_eq_true, Bool.not_eq_true'] at h
    exact ⟨fn, e, h.1, h.2⟩
  · cases h
/-- closures and iterators are as the tables say -/
def capsB (P : Program) (sig : List (Nat × Sig)) (pcs : List Nat) : List (Nat × CSig) → Bool
  | [] => true
  | x :: l => (match itOf x.2.args x.2.res with
      | none => (match lookL sig x.1 with | some s => sigBeq s ⟨x.2.args ++ x.2.caps, x.2.res, .dat⟩ | none => false)
      | some _ => !memB pcs x.1 && thereF P x.1) && capsB P sig pcs l
theorem capsB_ok {P : Program} {sig : List (Nat × Sig)} {pcs : List Nat} : ∀ {l : List (Nat × CSig)}, capsB P sig pcs l = true → ∀ f cs, lookL l f = some cs →
    (itOf cs.args cs.res = none → lookL sig f = some ⟨cs.args ++ cs.caps, cs.res, .dat⟩) ∧ ∀ ys, itOf cs.args cs.res = some ys → memB pcs f = false ∧ thereF P f = true
  | [], _, f, cs, h => by cases h
  | x :: l, hl, f, cs, h => by
    simp only [capsB, Bool.and_eq_true] at hl
    simp only [lookL] at h
    cases hb : Nat.beq x.1 f <;> simp only [hb, cond_true, cond_false] at h
    · exact capsB_ok hl.2 f cs h
    · cases h
      rw [← nbeq hb]
      have h1 := hl.1
      refine ⟨fun e => ?_, fun ys e => ?_⟩
      · rw [e] at h1
        simp only at h1
        split at h1
        · rename_i s hs; rw [hs, sigBeq_eq h1]
        · cases h1
      · rw [e] at h1
        simpa using h1
theorem lookL_none {α : Type} : ∀ {l : List (Nat × α)} {f : Nat}, memB (l.map (·.1)) f = false → lookL l f = none
  | [], f, _ => rfl
  | x :: l, f, h => by
    simp only [List.map_cons, memB, List.any_cons, Bool.or_eq_false_iff] at h
    simp only [lookL]
    have hb : Nat.beq x.1 f = false := by
      cases e : Nat.beq x.1 f
      · rfl
      · rw [Nat.eq_of_beq_eq_true e, Nat.beq_refl] at h; cases h.1
    rw [hb]
    exact lookL_none (l := l) h.2
end Cx
