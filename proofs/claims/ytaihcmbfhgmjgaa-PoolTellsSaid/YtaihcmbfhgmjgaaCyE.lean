/-
  Functions and tables of functions.
-/
import Derived.Test.YtaihcmbfhgmjgaaCyD
set_option linter.unusedSimpArgs false
set_option linter.unusedVariables false
namespace Cx
open Go Go.RowKit

def entrySnap (m : Nat) (s : Sig) : Snap := ⟨s.args.map .dat ++ List.replicate (m - s.args.length) .none, []⟩
def env0 (ds : List D) : Env := ⟨fun t => ds.getD t .none, fun _ => .none⟩

/-- a function's body, and what it gives back at its end -/
def compB (C : Ctx) (fn : Func) (s : Sig) (ids : List Nat) (S0 : Snap) : Option PC :=
  match fn.body with
  | some c =>
    (comp C fn s fn.ntmps ids (regC C fn.ntmps ids) false c S0).bind fun r =>
      match r.out with
      | none => some r.pc
      | some S => (retPE C fn s (S.st ids)).map fun e => .seq r.pc (.ret e)
  | none => none
/-- the entry of a function that is handed objects -/
def entryO (m : Nat) (shs : List Sh) (obs : List (Nat × Ob)) (ids : List Nat) : Snap := ⟨shs ++ List.replicate (m - shs.length) .none, ids.map (lookOb obs)⟩
def envO (shs : List Sh) (obs : List (Nat × Ob)) (ds : List D) : Env := obEnv obs ds (ds.drop shs.length)
/-- parameters that are no data are not assigned to -/
def keepsP (l : List Nat) : Nat → List Sh → Bool
  | _, [] => true
  | t, s :: ss => (isDatSh s || !memB l t) && keepsP l (t + 1) ss
/-- the objects' data, out of registers -/
def setIn : List (Nat × Ob) → Nat → List PI
  | [], _ => []
  | x :: l, k => setIn l (k + 1) ++ [.setO x.1 (.r k)]
theorem setIn_run {Φ : Funs} : ∀ (l : List (Nat × Ob)) (k : Nat) (ρ : Env) (ds : List D), (∀ i, ρ.r (k + i) = ds.getD i .none) → (∀ j, ρ.o j = .none) → PI.runs Φ (setIn l k) ρ = some ⟨ρ.r, fun j => lookDb l ds j⟩
  | [], k, ρ, ds, h, ho => by
    simp only [setIn, PI.runs]
    congr 1
    cases ρ with | mk r o => congr 1; funext j; exact ho j
  | x :: l, k, ρ, ds, h, ho => by
    simp only [setIn, runs_append]
    rw [setIn_run l (k + 1) ρ ds.tail (fun i => by
      have := h (i + 1)
      rw [Nat.add_assoc, Nat.add_comm 1 i, this]
      cases ds <;> simp) ho]
    simp only [Option.bind_some, PI.runs, PI.run, PE.ev, Env.setO]
    congr 1
    congr 1
    funext j
    rw [upd_apply]
    have h0 := h 0
    simp only [Nat.add_zero] at h0
    cases ds with
    | nil =>
      have e : ∀ m j, lookDb m [] j = D.none := fun m j => by cases m <;> rfl
      rw [h0]
      split <;> simp [e]
    | cons d ds =>
      simp only [lookDb, List.tail_cons]
      by_cases hj : j = x.1
      · subst hj; rw [if_pos rfl, Nat.beq_refl, h0]; rfl
      · rw [if_neg hj, beq_ne (fun e => hj e.symm)]; rfl
theorem setIn_env {Φ : Funs} (shs : List Sh) (obs : List (Nat × Ob)) (ds : List D) : PI.runs Φ (setIn obs shs.length) (env0 ds) = some (envO shs obs ds) := by
  rw [setIn_run obs shs.length (env0 ds) (ds.drop shs.length) (fun i => by simp [env0, List.getD_eq_getElem?_getD]) (fun j => rfl)]
  rfl
def bodyD (fn : Func) : List Nat := match fn.body with | some c => dsts c | none => []
/-- none of them is the place of what is yielded -/
def noTr : List (Nat × Ob) → Bool
  | [] => true
  | x :: l => (match x.2 with | .tr => false | _ => true) && noTr l
def compF (C : Ctx) (fn : Func) (s : Sig) (ids : List Nat) : Option PC :=
  match C.yl with
  | none =>
    match s.mode with
    | .ob shs obs => bif Nat.ble shs.length fn.ntmps && keepsP (bodyD fn) 0 shs && shs.all plainSh && noTr obs then (compB C fn s ids (entryO fn.ntmps shs obs ids)).map fun pc => .seq (.is (setIn obs shs.length)) pc else none
    | _ => bif Nat.ble s.args.length fn.ntmps then compB C fn s ids (entrySnap fn.ntmps s) else none
  | some _ => none

theorem lookO_nil : ∀ (ids : List Nat) (j : Nat), lookO ids [] j = .dead
  | [], _ => rfl
  | _ :: _, _ => rfl

theorem compB_sound {C : Ctx} {Φ : Funs} (hcl : ClosOK C) (hΦ : FunsOK C Φ) (hIt : ItsOK C Φ) {fn : Func} {s : Sig} {ids : List Nat} {S0 : Snap} {pc : PC} {c : Code} (hb : fn.body = some c) (hc : compB C fn s ids S0 = some pc) {w0 : World} {σ0 : Base} (hfin : σ0.fin) (hC : CtxOK C σ0) (hY : YieldsOK C Φ w0 σ0)
    {N : Nat} {ρ : Env} {d : D} {a : Act} {w : World} (hn : a.tmps.size = fn.ntmps) (hg : Good C w0 σ0 (S0.st ids) ρ (fun _ => False) a w) (he : pc.ev Φ N ρ = some (.ret d)) :
    c.wpIn (FR none) 0 C.P (fun e a' w' => (e = .normal ∨ e = .ret) ∧ RetD C w0 σ0 fn s d a'.tmps a'.defers w' ∧ SameBut (fun t => t ∈ dsts c) a a') a w := by
  unfold compB at hc
  rw [hb] at hc
  simp only [Option.bind_eq_some_iff] at hc
  obtain ⟨r, hr, hc⟩ := hc
  have hsound := fun x hx => comp_soundC (fn := fn) (s := s) (N := N) hIt (regC_sound (n := fn.ntmps) (ids := ids) hcl hΦ) c false S0 r hr none w0 σ0 (fun t => t ∈ dsts c) ρ x a w (fun _ => ⟨rfl, hfin⟩) hC hY (fun _ h => h) hn hg hx
  split at hc
  · rename_i hout
    cases hc
    refine wpIn_mono (hsound (.ret d) he) fun e a' w' ho => ?_
    cases e with
    | normal => obtain ⟨_, _, h, _⟩ := ho; cases h
    | exit id => obtain ⟨_, _, h, _⟩ := ho; cases h
    | ret => obtain ⟨d', h, h2⟩ := ho; cases h; exact ⟨.inr rfl, h2⟩
    | _ => exact ho.elim
  · rename_i S hout
    simp only [Option.map_eq_some_iff] at hc
    obtain ⟨pe, hpe, rfl⟩ := hc
    simp only [PC.ev] at he
    split at he
    · rename_i ρ1 h1
      cases he
      refine wpIn_mono (hsound (.next ρ1) h1) fun e a' w' ho => ?_
      cases e with
      | normal =>
        obtain ⟨ρ2, S2, e1, e2, hn2, hg2⟩ := ho
        cases e1
        rw [hout] at e2; cases e2
        obtain ⟨σ2, own, hv, hi⟩ := hg2
        exact ⟨.inl rfl, Inv.retD hC (fun _ => rfl) hfin hpe _ hi rfl, hn2⟩
      | exit id => obtain ⟨_, _, h, _⟩ := ho; cases h
      | ret => obtain ⟨d', h, h2⟩ := ho; cases h
      | _ => exact ho.elim
    · rename_i hne
      refine wpIn_mono (hsound (.ret d) he) fun e a' w' ho => ?_
      cases e with
      | normal => obtain ⟨_, _, h, _⟩ := ho; cases h
      | exit id => obtain ⟨_, _, h, _⟩ := ho; cases h
      | ret => obtain ⟨d', h, h2⟩ := ho; cases h; exact ⟨.inr rfl, h2⟩
      | _ => exact ho.elim

/-- the way out -/
theorem RetD.leaves {C : Ctx} {w0 : World} {σ0 : Base} {fn : Func} {s : Sig} {d : D} {tmps : Array Value} {R : Ending → World → Prop} (hR : ∀ w', RetOK C w0 σ0 fn s d { tmps := tmps, defers := [] } w' → ∃ v, (results fn tmps).run C.P w' = .ok v w' ∧ R (.returned v) w') :
    ∀ (ds : List Deferred) (w : World), RetD C w0 σ0 fn s d tmps ds w → LeavesInM (FR none) 0 C.P fn tmps R ds .returning w
  | [], w, h => hR w h
  | x :: ds, w, ⟨D, h1, h2, h3⟩ => ⟨by simp, .inl ⟨D, _, h1, run_takeDeferred h2, RetD.leaves hR ds _ h3⟩⟩

theorem entry_good {C : Ctx} {σ : Im} {w : World} {args : Array Value} {ds : List D} {s : Sig} {m : Nat} {ids : List Nat} (hok : σ.ok w) (ha : ArgsOK C σ s.args args.toList ds) :
    Good C w (Base.mk0 σ w.heap.size) ((entrySnap m s).st ids) (env0 ds) (fun _ => False) { tmps := args ++ Array.replicate (m - args.size) undef, defers := [] } w := by
  obtain ⟨h1, h2, h3⟩ := ha
  have hsz : args.size = s.args.length := by simpa using h1
  refine ⟨σ, fun _ => none, fun _ => undef, trivial, hok, .refl σ, fun _ k e => (hok.m k _ e).lt, fun _ _ _ h => .inl h, fun _ _ h => .inl h, .refl _ _, Nat.le_refl _, (fun k j h => by cases h), fun t => ?_, fun j => ?_, fun t gs s' e => absurd e (Snap.noOpt _ _ t gs s'),
    .none, fun _ => False, fun _ => False, ⟨⟨fun _ => id, fun _ => id⟩, (fun k j h => by cases h), fun _ _ _ _ => id, fun _ _ _ => id, fun _ _ _ => id⟩, fun j hj => ?_⟩
  · show CellOK C _ _ σ _ (unopt ((s.args.map Sh.dat ++ List.replicate (m - s.args.length) Sh.none).getD t .none)) _ _
    rw [List.getD_eq_getElem?_getD]
    by_cases ht : t < s.args.length
    · rw [List.getElem?_append_left (by simpa using ht), List.getElem?_map, List.getElem?_eq_getElem ht]
      simp only [Option.map_some, Option.getD_some, unopt]
      have := h3 t _ (List.getElem?_eq_getElem ht)
      have e1 : (args ++ Array.replicate (m - args.size) undef).getD t undef = args.toList.getD t undef := by
        simp only [Array.getD_eq_getD_getElem?, List.getD_eq_getElem?_getD]
        rw [Array.getElem?_append_left (by omega)]; simp
      show CellOK C _ _ σ _ (.dat _) ((args ++ Array.replicate (m - args.size) undef).getD t undef) (ds.getD t .none)
      rw [e1]; exact this
    · rw [List.getElem?_append_right (by simpa using ht), List.getElem?_replicate]
      split <;> trivial
  · show ObjOK C _ _ σ _ _ w _ j (lookO ids [] j)
    rw [lookO_nil]; trivial
  · change lookO ids [] j = .tr at hj
    rw [lookO_nil] at hj; cases hj

theorem compF_sound {C : Ctx} {Φ : Funs} (hcl : ClosOK C) (hΦ : FunsOK C Φ) (hIt : ItsOK C Φ) {f : Nat} {fn : Func} {s : Sig} {ids : List Nat} {pc : PC} (hf : C.P.funcs[f]? = some fn) (hc : compF C fn s ids = some pc) {N : Nat} {ds : List D} {d : D} (hob : isOb s.mode = false)
    (he : pc.ev Φ N (env0 ds) = some (.ret d)) : FnOK C f s ds d := by
  intro σ w args hok hC ha
  unfold compF at hc
  split at hc
  case h_2 => cases hc
  rename_i hyl
  split at hc
  case h_1 => rename_i e; rw [e] at hob; cases hob
  cases hle : Nat.ble s.args.length fn.ntmps <;> simp only [hle, cond_true, cond_false] at hc
  · cases hc
  have hle' := Nat.le_of_ble_eq_true hle
  have hsz : args.size = s.args.length := by simpa using ha.1
  cases hb : fn.body with
  | none => unfold compB at hc; rw [hb] at hc; cases hc
  | some c =>
  refine (callsIn_wide (n := 0)).1 (callsIn_of_wp_marks (F := FR none) hf hb trivial ?_)
  have hg := entry_good (C := C) (m := fn.ntmps) (ids := ids) hok ha
  have hn : (args ++ Array.replicate (fn.ntmps - args.size) undef).size = fn.ntmps := by simp; omega
  refine wpIn_mono (compB_sound hcl hΦ hIt hb hc (σ0 := Base.mk0 σ w.heap.size) trivial hC (fun J ys e => by rw [hyl] at e; cases e) hn hg he) fun e a' w' ho => ?_
  have main := RetD.leaves (R := fun e w' => ∃ v σ', e = .returned v ∧ σ.le σ' ∧ σ'.ok w' ∧ Below w.heap.size w w' ∧
      (∀ k o x, σ'.c k o = some x → σ.c k o = some x ∨ w.heap.size ≤ k) ∧ (∀ k x, σ'.m k = some x → σ.m k = some x ∨ w.heap.size ≤ k) ∧ ResOK C s σ' w w' v d) (fun w2 hret => by
    obtain ⟨v, σ', _, h2, h3, h4, h5, h6, h7, h8⟩ := hret
    exact ⟨v, h2, v, σ', rfl, h3, h4, h5, h6, h7, h8⟩) _ _ ho.2.1
  rcases ho.1 with rfl | rfl <;> exact main

/-- what may be owned at the entry, and what must not become immutable -/
def Base.mkO (σ : Im) (own : Nat → Option Nat) (w : World) (cx : Nat → Prop) : Base :=
  { σ with
    B := 0
    fin := True
    F := fun _ fx cx' w' => (∀ k, fx k ↔ (k < w.heap.size ∧ own k = none)) ∧ (∀ k, cx' k ↔ (fx k ∧ cx k)) ∧ w.heap.size ≤ w'.heap.size ∧ ∀ k, fx k → w'.heap[k]? = w.heap[k]?
    lt := fun t' fx cx w' h k hk => Nat.lt_of_lt_of_le ((h.1 k).1 hk).1 h.2.2.1
    sub := fun t' fx cx w' h k hk => ((h.2.1 k).1 hk).1
    keep := fun t' fx cx w' w'' h hb hs => ⟨h.1, h.2.1, Nat.le_trans h.2.2.1 hb.size, fun k hk => (hs k hk).trans (h.2.2.2 k hk)⟩ }

theorem keepsP_get {l : List Nat} : ∀ {shs : List Sh} {k : Nat}, keepsP l k shs = true → ∀ (t : Nat) (s : Sh), shs[t]? = some s → isDatSh s = false → (k + t) ∉ l
  | [], k, _, t, s, h, _ => by simp at h
  | x :: shs, k, hk, t, s, h, hd => by
    simp only [keepsP, Bool.and_eq_true, Bool.or_eq_true, Bool.not_eq_true'] at hk
    cases t with
    | zero =>
      simp at h; subst h
      rcases hk.1 with h1 | h1
      · rw [hd] at h1; cases h1
      · intro hm; rw [Nat.add_zero] at hm; rw [(memB_eq _ _).2 hm] at h1; cases h1
    | succ t =>
      simp at h
      have := keepsP_get hk.2 t s h hd
      rwa [Nat.add_assoc, Nat.add_comm 1 t] at this

theorem lookO_ob (obs : List (Nat × Ob)) (j : Nat) : ∀ ids : List Nat, lookO ids (ids.map (lookOb obs)) j = .dead ∨ lookO ids (ids.map (lookOb obs)) j = lookOb obs j
  | [] => .inl rfl
  | i :: is => by
    simp only [List.map_cons, lookO]
    cases hb : Nat.beq i j
    · exact lookO_ob obs j is
    · right; rw [Nat.eq_of_beq_eq_true hb]; rfl

theorem noTr_ok : ∀ {l : List (Nat × Ob)}, noTr l = true → ∀ j, lookOb l j ≠ .tr
  | [], _, j, e => by cases e
  | x :: l, h, j, e => by
    simp only [noTr, Bool.and_eq_true] at h
    simp only [lookOb] at e
    cases hb : Nat.beq x.1 j <;> simp only [hb, cond_true, cond_false] at e
    · exact noTr_ok h.2 j e
    · have h1 := h.1
      rw [e] at h1; cases h1

theorem entryO_good {C : Ctx} {σ : Im} {own : Nat → Option Nat} {hv : Nat → Value} {w w0 : World} {args : Array Value} {cx : Nat → Prop} {shs : List Sh} {obs : List (Nat × Ob)} {ds : List D} {m : Nat} {ids : List Nat} (hN : w0.heap.size ≤ w.heap.size) (hbw : Below 0 w0 w) (hok : σ.ok w) (hnd : ∀ k, σ.m k ≠ some dfrM) (hsz : args.size = shs.length)
    (hown : ∀ k j, own k = some j → w0.heap.size ≤ k ∧ k < w.heap.size ∧ (∀ o, σ.c k o = none) ∧ σ.m k = none) (hcx : ∀ k, cx k → k < w.heap.size ∧ own k = none ∧ (∀ o, σ.c k o = none) ∧ σ.m k = none) (htr : noTr obs = true) (hpl : shs.all plainSh = true)
    (h1 : ∀ t, CellOK C (obSt shs obs) (envO shs obs ds) σ hv (shs.getD t .none) (args.getD t undef) (ds.getD t .none)) (h2 : ∀ j, ObjOK C (obSt shs obs) (envO shs obs ds) σ own hv w w0.heap.size j (lookOb obs j)) :
    Good C w0 (Base.mkO σ own w cx) ((entryO m shs obs ids).st ids) (envO shs obs ds) (fun _ => False) { tmps := args ++ Array.replicate (m - args.size) undef, defers := [] } w := by
  have hcompat : Compat (obSt shs obs) hv ((entryO m shs obs ids).st ids) hv := ⟨fun _ => Nat.le_refl _, fun _ _ => rfl⟩
  refine ⟨σ, own, hv, trivial, hok, .refl σ, fun _ k e => absurd e (hnd k), fun _ _ _ h => .inl h, fun _ _ h => .inl h, hbw, Nat.zero_le _, hown, fun t => ?_, fun j => ?_, fun t gs s' e => absurd e (Snap.noOpt _ _ t gs s'),
    .none, (fun k => k < w.heap.size ∧ own k = none), cx, ⟨⟨fun _ => Iff.rfl, fun k => ⟨fun h => ⟨⟨(hcx k h).1, (hcx k h).2.1⟩, h⟩, fun h => h.2⟩, Nat.le_refl _, fun _ _ => rfl⟩, (fun k j h hf => by rw [hf.2] at h; cases h), (fun k o x e hc => by rw [(hcx k hc).2.2.1 o] at e; cases e), (fun k x e hc => by rw [(hcx k hc).2.2.2] at e; cases e), fun k e => absurd e (hnd k)⟩, fun j hj => ?_⟩
  · show CellOK C _ _ σ _ (unopt ((shs ++ List.replicate (m - shs.length) Sh.none).getD t .none)) _ _
    refine unopt_ok ?_
    rw [List.getD_eq_getElem?_getD]
    by_cases ht : t < shs.length
    · rw [List.getElem?_append_left ht]
      have := h1 t
      rw [List.getD_eq_getElem?_getD (l := shs)] at this
      have e1 : (args ++ Array.replicate (m - args.size) undef).getD t undef = args.getD t undef := by
        simp only [Array.getD_eq_getD_getElem?]
        rw [Array.getElem?_append_left (by omega)]
      show CellOK C _ _ σ _ _ ((args ++ Array.replicate (m - args.size) undef).getD t undef) (ds.getD t .none)
      rw [e1]
      refine CellOK.mono' (.refl σ) hcompat (fun gs s' e => ?_) this
      have hp := List.all_eq_true.1 hpl _ (List.getElem_mem ht)
      rw [List.getElem?_eq_getElem ht] at e
      simp only [Option.getD_some] at e
      rw [e] at hp; cases hp
    · rw [List.getElem?_append_right (by omega), List.getElem?_replicate]
      split <;> trivial
  · show ObjOK C _ _ σ _ _ w _ j (lookO ids (ids.map (lookOb obs)) j)
    rcases lookO_ob obs j ids with e | e
    · rw [e]; trivial
    · rw [e]; exact (h2 j).mono (.refl σ) hcompat rfl rfl (fun k hk => ⟨hk, rfl⟩)
  · change lookO ids (ids.map (lookOb obs)) j = .tr at hj
    rcases lookO_ob obs j ids with e | e
    · rw [e] at hj; cases hj
    · rw [e] at hj; exact absurd hj (noTr_ok htr j)

/-- the beginning of a world -/
def cutW (w : World) (N : Nat) : World := { w with heap := w.heap.extract 0 N }

theorem compFO_sound {C : Ctx} {Φ : Funs} (hcl : ClosOK C) (hΦ : FunsOK C Φ) (hIt : ItsOK C Φ) {f : Nat} {fn : Func} {s : Sig} {ids : List Nat} {pc : PC} (hf : C.P.funcs[f]? = some fn) (hc : compF C fn s ids = some pc) {N : Nat} {ds : List D} {d : D} {shs : List Sh} {obs : List (Nat × Ob)} (hob : s.mode = .ob shs obs)
    (he : pc.ev Φ N (env0 ds) = some (.ret d)) : FnObOK C f shs obs s.res ds d := by
  intro B σ own hv w args cx _ hok hC hnd hB hsz hown hcx h1 h2
  unfold compF at hc
  split at hc
  case h_2 => cases hc
  rename_i hyl
  rw [hob] at hc
  simp only at hc
  cases hle : (Nat.ble shs.length fn.ntmps && keepsP (bodyD fn) 0 shs && shs.all plainSh && noTr obs) <;> simp only [hle, cond_true, cond_false] at hc
  · cases hc
  simp only [Bool.and_eq_true] at hle
  obtain ⟨⟨⟨l1, l2⟩, l3⟩, l4⟩ := hle
  simp only [Option.map_eq_some_iff] at hc
  obtain ⟨pc, hc, rfl⟩ := hc
  simp only [PC.ev, setIn_env, Option.map_some] at he
  have hle' := Nat.le_of_ble_eq_true l1
  cases hb : fn.body with
  | none => unfold compB at hc; rw [hb] at hc; cases hc
  | some c =>
  have hbd : bodyD fn = dsts c := by unfold bodyD; rw [hb]
  rw [hbd] at l2
  refine (callsIn_wide (n := 0)).1 (callsIn_of_wp_marks (F := FR none) hf hb trivial ?_)
  have hw0 : (cutW w B).heap.size = B := by simp [cutW]; omega
  have hbw : Below 0 (cutW w B) w := ⟨rfl, rfl, rfl, by rw [hw0]; exact hB, fun k hk => by omega⟩
  have hg := entryO_good (C := C) (m := fn.ntmps) (ids := ids) (w0 := cutW w B) (cx := cx) (by rw [hw0]; exact hB) hbw hok hnd hsz (by rw [hw0]; exact hown) hcx l4 l3 h1 (by rw [hw0]; exact h2)
  have hn : (args ++ Array.replicate (fn.ntmps - args.size) undef).size = fn.ntmps := by simp; omega
  refine wpIn_mono (compB_sound hcl hΦ hIt hb hc (σ0 := Base.mkO σ own w cx) trivial hC (fun J ys e => by rw [hyl] at e; cases e) hn hg he) fun e a' w' ho => ?_
  obtain ⟨he1, hret, hsame⟩ := ho
  have main := RetD.leaves (R := fun e w' => ∃ v σ' own' hv' dr os, e = .returned v ∧ d = .tup (dr :: os) ∧ os.length = obs.length ∧ σ.le σ' ∧ σ'.ok w' ∧ Below 0 w w' ∧
      (∀ k, k < w.heap.size → own k = none → w'.heap[k]? = w.heap[k]?) ∧
      (∀ k o x, σ'.c k o = some x → (σ.c k o = some x ∨ B ≤ k) ∧ ¬ cx k) ∧ (∀ k x, σ'.m k = some x → (σ.m k = some x ∨ B ≤ k) ∧ ¬ cx k) ∧ (∀ k, σ'.m k = some dfrM → B ≤ k → k < w.heap.size → own k ≠ none) ∧
      (∀ k j, own' k = some j → B ≤ k ∧ k < w'.heap.size ∧ (∀ o, σ'.c k o = none) ∧ σ'.m k = none ∧ (k < w.heap.size → own k ≠ none)) ∧
      (∀ (t : Nat) (sh : Sh), shs[t]? = some sh → isDatSh sh = false → CellOK C (obSt shs obs) (obEnv obs ds os) σ' hv' sh (args.getD t undef) (ds.getD t .none)) ∧
      (∀ j, ObjOK C (obSt shs obs) (obEnv obs ds os) σ' own' hv' w' B j (lookOb obs j)) ∧ Rep C.cap σ' s.res v dr) (fun w2 hr => by
    obtain ⟨v, σ', ⟨own', t, fx, cx', hfr, _, hor⟩, hrun, hle2, hok2, hbel, hnc, hnm, _⟩ := hr
    obtain ⟨hv', dr, os, e1, e2, e3, e4, e5, e6⟩ := hor shs obs hob
    obtain ⟨f1, f2, f3, f4⟩ := hfr.F
    have hcx' : ∀ k, cx k → cx' k := fun k hk => (f2 k).2 ⟨(f1 k).2 ⟨(hcx k hk).1, (hcx k hk).2.1⟩, hk⟩
    rw [hw0] at hnc hnm e3 e5
    refine ⟨v, hrun, v, σ', own', hv', dr, os, rfl, e1, e2, hle2, hok2, ⟨hbel.os, hbel.tape, hbel.output, f3, fun k hk => by omega⟩, fun k hk hn => f4 k ((f1 k).2 ⟨hk, hn⟩), fun k o x e => ⟨hnc k o x e, fun hk => hfr.c k o x e (hcx' k hk)⟩, fun k x e => ⟨hnm k x e, fun hk => hfr.m k x e (hcx' k hk)⟩,
      fun k e hB2 hk hn => hfr.d k e (by rw [hw0]; exact hB2) ((f1 k).2 ⟨hk, hn⟩), fun k j hk => ?_, fun t sh hs hd => ?_, fun j => ?_, e6⟩
    · obtain ⟨g1, g2, g3, g4⟩ := e3 k j hk
      exact ⟨g1, g2, g3, g4, fun hlt hn => hfr.own k j hk ((f1 k).2 ⟨hlt, hn⟩)⟩
    · have := e4 t sh hs hd (ds.getD t .none)
      have hlt : t < shs.length := (List.getElem?_eq_some_iff.1 hs).1
      have hnt : t ∉ dsts c := by have := keepsP_get l2 t sh hs hd; simpa using this
      have hval : a'.tmps.getD t undef = args.getD t undef := by
        rw [hsame.get t hnt]
        simp only [Array.getD_eq_getD_getElem?]
        rw [Array.getElem?_append_left (by omega)]
      simp only at this
      rw [hval] at this
      have hp := List.all_eq_true.1 l3 _ (List.mem_of_getElem? hs)
      exact CellOK.mono' (.refl σ') ⟨fun _ => Nat.le_refl _, fun _ _ => rfl⟩ (fun gs s' e => by rw [e] at hp; cases hp) this
    · exact ObjOK.mono (S := obSt shs obs) (S' := obSt shs obs) (ρ := obEnv obs [] os) (ρ' := obEnv obs ds os) (hv := hv') (hv' := hv') (own := own') (own' := own') (w := w2) (w' := w2) (.refl σ') ⟨fun _ => Nat.le_refl _, fun _ _ => rfl⟩ rfl rfl (fun k hk => ⟨hk, rfl⟩) (e5 j)) _ _ hret
  rcases he1 with rfl | rfl <;> exact main

/-! iterators -/
def entryI (m : Nat) (cts : List Ty) (J : Nat) (ids : List Nat) : Snap := ⟨.yv :: (cts.map .dat ++ List.replicate (m - (cts.length + 1)) .none), ids.map fun j => bif Nat.beq j J then .tr else .dead⟩
def envI (J : Nat) (ds : List D) : Env := ⟨fun t => (D.none :: ds).getD t .none, fun j => bif Nat.beq j J then .list [] else .none⟩
/-- a closure that yields: cts: what it has captured -/
def compI (C : Ctx) (fn : Func) (cts ys : List Ty) (J : Nat) (ids : List Nat) : Option PC :=
  match C.yl, C.sig yldF, C.cap yldF with
  | none, none, none => bif Nat.ble (cts.length + 1) fn.ntmps then compB { C with yl := some (J, ys) } fn ⟨[], .tup [], .it J⟩ ids (entryI fn.ntmps cts J ids) else none
  | _, _, _ => none

open Classical in
/-- the answers: go on up to the element m, then stop -/
noncomputable def yldΦ (Φ : Funs) (xs : List D) (m : Nat) : Funs := fun f ds =>
  if f = yldF then (match ds with | [.list l] => if 0 < l.length ∧ l.length ≤ m + 1 ∧ l = xs.take l.length then some (.v (.bool (decide (l.length ≤ m)))) else none | _ => none)
  else Φ f ds

theorem yldΦ_at {Φ : Funs} {xs l ds : List D} {d : D} {m : Nat} (h : yldΦ Φ xs m yldF [.list (l ++ [.tup ds])] = some d) : l.length ≤ m ∧ l = xs.take l.length ∧ xs[l.length]? = some (.tup ds) ∧ l ++ [.tup ds] = xs.take (l.length + 1) ∧ d = .v (.bool (decide (l.length < m))) := by
  simp only [yldΦ, if_true] at h
  split at h
  · rename_i hc
    obtain ⟨h1, h2, h3⟩ := hc
    simp only [List.length_append, List.length_cons, List.length_nil, Nat.zero_add] at h2 h3 h
    have hx : xs[l.length]? = some (.tup ds) := by
      have : (xs.take (l.length + 1))[l.length]? = some (.tup ds) := by rw [← h3]; simp
      rw [List.getElem?_take] at this
      simpa using this
    have hl : l = xs.take l.length := by
      have := congrArg (List.take l.length) h3
      simpa [List.take_take] using this
    refine ⟨by omega, hl, hx, h3, ?_⟩
    cases h
    congr 2
  · cases h

theorem FunsOK.yl {C : Ctx} {Φ : Funs} (h : FunsOK C Φ) {y : Option (Nat × List Ty)} {v : Value} {xs : List D} {m : Nat} (hs : C.sig yldF = none) : FunsOK { C with yl := y, yv := v } (yldΦ Φ xs m) := by
  intro f ds d e s hs'
  have hne : f ≠ yldF := fun e' => by subst e'; change C.sig yldF = some s at hs'; rw [hs] at hs'; cases hs'
  simp only [yldΦ, if_neg hne] at e
  obtain ⟨h1, h2⟩ := h f ds d e s hs'
  exact ⟨fun hm σ w args hok hC ha => h1 hm σ w args hok ⟨hC.glob⟩ ha, fun shs obs hm => (h2 shs obs hm).ctx rfl rfl rfl⟩
theorem ItOK.yl {C : Ctx} {y : Option (Nat × List Ty)} {v : Value} {f : Nat} {cts ys : List Ty} {ds xs : List D} (h : ItOK C f cts ys ds xs) : ItOK { C with yl := y, yv := v } f cts ys ds xs :=
  fun σ w yv vs F fx cx m hok hC => h σ w yv vs F fx cx m hok ⟨hC.glob⟩
theorem ItsOK.yl {C : Ctx} {Φ : Funs} (h : ItsOK C Φ) {y : Option (Nat × List Ty)} {v : Value} {xs : List D} {m : Nat} (hs : C.cap yldF = none) : ItsOK { C with yl := y, yv := v } (yldΦ Φ xs m) := by
  intro f cs ys hc hi
  have hne : f ≠ yldF := fun e' => by subst e'; change C.cap yldF = some cs at hc; rw [hs] at hc; cases hc
  obtain ⟨h1, h2⟩ := h f cs ys hc hi
  refine ⟨h1, fun ds d e => ?_⟩
  simp only [yldΦ, if_neg hne] at e
  obtain ⟨xs, e1, e2, e3⟩ := h2 ds d e
  exact ⟨xs, e1, e2, e3.yl⟩

/-- what the compile of an iterator must be shown to compute -/
def ItRuns (Φ : Funs) (pc : PC) (J : Nat) (ds xs : List D) : Prop := ∀ m, m ≤ xs.length → ∃ N, pc.ev (yldΦ Φ xs m) N (envI J ds) = some (.ret (.list (xs.take (m + 1))))

theorem entryI_good {C : Ctx} {σ : Im} {σ0 : Base} {w : World} {yv : Value} {vs : List Value} {ds : List D} {cts ys : List Ty} {J m : Nat} {ids : List Nat} (hok : σ.ok w) (ha : ArgsOK C σ cts vs ds) (hm : cts.length + 1 ≤ m) (hyl : C.yl = some (J, ys)) (hyv : C.yv = yv)
    (h0 : σ0.toIm = σ) (hB : σ0.B = 0) {fx cx : Nat → Prop} (hF : σ0.F (.list []) fx cx w) (hcc : ∀ k o x, σ.c k o = some x → ¬ cx k) (hcm : ∀ k x, σ.m k = some x → ¬ cx k) :
    Good C w σ0 ((entryI m cts J ids).st ids) (envI J ds) (fun _ => False) { tmps := #[yv] ++ vs.toArray ++ Array.replicate (m - (vs.length + 1)) undef, defers := [] } w := by
  obtain ⟨h1, h2, h3⟩ := ha
  refine ⟨σ, fun _ => none, fun _ => undef, trivial, hok, by rw [h0]; exact .refl σ, fun _ k e => by rw [h0] at e; exact (hok.m k _ e).lt, fun _ _ _ h => by rw [h0]; exact .inl h, fun _ _ h => by rw [h0]; exact .inl h, .refl _ _, by omega, (fun k j h => by cases h), fun t => ?_, fun j => ?_, fun t gs s' e => absurd e (Snap.noOpt _ _ t gs s'),
    .list [], fx, cx, ⟨hF, (fun k j h => by cases h), hcc, hcm, fun k e hk => by have := (hok.m k _ e).lt; omega⟩, fun j hj => ?_⟩
  · show CellOK C _ _ σ _ (unopt ((Sh.yv :: (cts.map Sh.dat ++ List.replicate (m - (cts.length + 1)) Sh.none)).getD t .none)) ((#[yv] ++ vs.toArray ++ Array.replicate (m - (vs.length + 1)) undef).getD t undef) ((D.none :: ds).getD t .none)
    have ea : ((#[yv] ++ vs.toArray ++ Array.replicate (m - (vs.length + 1)) undef).getD t undef) = (yv :: (vs ++ List.replicate (m - (vs.length + 1)) undef)).getD t undef := by
      rw [Array.getD_eq_getD_getElem?, ← Array.getElem?_toList, List.getD_eq_getElem?_getD]
      simp
    rw [ea]
    cases t with
    | zero => simp only [List.getD_cons_zero, unopt]; exact hyv.symm
    | succ t =>
      simp only [List.getD_cons_succ]
      rw [List.getD_eq_getElem?_getD]
      by_cases ht : t < cts.length
      · rw [List.getElem?_append_left (by simpa using ht), List.getElem?_map, List.getElem?_eq_getElem ht]
        simp only [Option.map_some, Option.getD_some, unopt]
        have := h3 t _ (List.getElem?_eq_getElem ht)
        have e1 : (vs ++ List.replicate (m - (vs.length + 1)) undef).getD t undef = vs.getD t undef := by
          simp only [List.getD_eq_getElem?_getD]; rw [List.getElem?_append_left (by omega)]
        show CellOK C _ _ σ _ (.dat _) _ (ds.getD t .none)
        rw [e1]; exact this
      · rw [List.getElem?_append_right (by simpa using ht), List.getElem?_replicate]
        split <;> trivial
  · show ObjOK C _ _ σ _ _ w _ j (lookO ids (ids.map fun j => bif Nat.beq j J then .tr else .dead) j)
    refine lookO_map _ (fun ob => ObjOK C _ _ σ _ _ w _ j ob) trivial j ?_ ids
    cases Nat.beq j J <;> trivial
  · change lookO ids (ids.map fun j => bif Nat.beq j J then .tr else .dead) j = .tr at hj
    have hb := lookO_map (fun j => bif Nat.beq j J then Ob.tr else .dead) (fun ob => ob = .tr → Nat.beq j J = true) (fun e => by cases e) j (fun e => by
      cases hb : Nat.beq j J
      · rw [hb] at e; cases e
      · rfl) ids hj
    have := Nat.eq_of_beq_eq_true hb
    subst this
    refine ⟨⟨ys, hyl⟩, ?_⟩
    show (bif Nat.beq j j then D.list [] else .none) = _
    rw [Nat.beq_refl]; rfl

theorem compI_sound {C : Ctx} {Φ : Funs} (hcl : ClosOK C) (hΦ : FunsOK C Φ) (hIt : ItsOK C Φ) {f : Nat} {fn : Func} {cts ys : List Ty} {J : Nat} {ids : List Nat} {pc : PC} (hf : C.P.funcs[f]? = some fn) (hc : ∀ yv, compI { C with yv := yv } fn cts ys J ids = some pc) {ds xs : List D}
    (hr : ItRuns Φ pc J ds xs) : ItOK C f cts ys ds xs := by
  intro σ w yv vs F fx cx m hok hC ha hm hlt hsub hkeep hF hcc hcm hyld
  have hc := hc yv
  unfold compI at hc
  split at hc
  case h_2 => cases hc
  rename_i hyl hsy hcy
  cases hle : Nat.ble (cts.length + 1) fn.ntmps <;> simp only [hle, cond_true, cond_false] at hc
  · cases hc
  have hle' := Nat.le_of_ble_eq_true hle
  obtain ⟨N, he⟩ := hr m hm
  cases hb : fn.body with
  | none => unfold compB at hc; rw [hb] at hc; cases hc
  | some c =>
  refine (callsIn_wide (n := 0)).1 (callsIn_of_wp_marks (F := FR none) hf hb trivial ?_)
  obtain ⟨σ0, hσ0⟩ : ∃ σ0 : Base, σ0 = { σ with B := 0, fin := True, F := fun t fx cx w => (∃ l, t = .list l) ∧ F t fx cx w, lt := fun t fx cx w h => hlt t fx cx w h.2, sub := fun t fx cx w h => hsub t fx cx w h.2, keep := fun t fx cx w w' h hb hs => ⟨h.1, hkeep t fx cx w w' h.2 hb hs⟩ } := ⟨_, rfl⟩
  have e1 : σ0.toIm = σ := by rw [hσ0]
  have e2 : σ0.B = 0 := by rw [hσ0]
  have e3 : σ0.fin := by rw [hσ0]; trivial
  have e4 : ∀ t fx cx w, σ0.F t fx cx w ↔ (∃ l, t = .list l) ∧ F t fx cx w := fun t fx cx w => by rw [hσ0]
  have hg := entryI_good (C := { C with yl := some (J, ys), yv := yv }) (σ0 := σ0) (w := w) (yv := yv) (vs := vs) (ds := ds) (cts := cts) (ys := ys) (J := J) (m := fn.ntmps) (ids := ids) hok ha hle' rfl rfl e1 e2 ((e4 _ _ _ _).2 ⟨⟨_, rfl⟩, hF⟩) hcc hcm
  have hsz : (#[yv] ++ vs.toArray).size = vs.length + 1 := by simp <;> omega
  have hsz2 : vs.length = cts.length := ha.1
  have hY : YieldsOK { C with yl := some (J, ys), yv := yv } (yldΦ Φ xs m) w σ0 := by
    intro J' ys' e
    cases e
    refine ⟨e2, fun t fx cx w h => ((e4 _ _ _ _).1 h).1, fun xs' ds' d hd fx cx w1 σ1 args hF1 hok1 ha1 hc1 hm1 hnc hnm => ?_⟩
    obtain ⟨g1, g2, g3, g4, rfl⟩ := yldΦ_at hd
    rw [e1] at hnc hnm
    have := hyld xs'.length fx cx w1 σ1 args ds' g1 g3 (by rw [← g2]; exact ((e4 _ _ _ _).1 hF1).2) hok1 ha1 hc1 hm1 hnc hnm
    intro rd o a x as ts K Q hop hv has hK
    refine this rd o a x as ts K Q hop hv has fun u w2 hu => hK u w2 ?_
    obtain ⟨u1, u2, u3, fx', cx', u4, u5, u6⟩ := hu
    refine ⟨_, rfl, u1, u2, u3, fx', cx', (e4 _ _ _ _).2 ⟨⟨_, rfl⟩, ?_⟩, u5, u6⟩
    rw [g4]; exact u4
  have hn : (#[yv] ++ vs.toArray ++ Array.replicate (fn.ntmps - (vs.length + 1)) undef).size = fn.ntmps := by simp; omega
  rw [hsz]
  refine wpIn_mono (compB_sound (C := { C with yl := some (J, ys), yv := yv }) hcl (hΦ.yl hsy) (hIt.yl hcy) hb hc (σ0 := σ0) e3 (by rw [e1]; exact ⟨hC.glob⟩) hY hn hg he) fun e a' w' ho => ?_
  have main := RetD.leaves (R := fun e w' => (∃ v, e = .returned v) ∧ ∃ fx cx, F (.list (xs.take (m + 1))) fx cx w') (fun w2 hret => by
    obtain ⟨v, σ', ⟨own, t, fx, cx, h1, ht, _⟩, h2, _⟩ := hret
    refine ⟨v, h2, ⟨v, rfl⟩, fx, cx, ?_⟩
    rw [ht J rfl]
    exact ((e4 _ _ _ _).1 h1.F).2) _ _ ho.2.1
  rcases ho.1 with rfl | rfl <;> exact main

/-- A table of functions: compiled ones, and others whose contracts are proved apart (ext, given the table one step lower). -/
def Tab (tab : Nat → Option PC) (ext : Nat → Option (Funs → List D → Option D)) : Nat → Funs
  | 0 => fun _ _ => none
  | n + 1 => fun f ds =>
    match ext f with
    | some g => g (Tab tab ext n) ds
    | none =>
      match tab f with
      | some pc => (match pc.ev (Tab tab ext n) n (env0 ds) with | some (.ret d) => some d | _ => none)
      | none => none

theorem FnOK.hint {C : Ctx} {fr nh : List Nat} {f : Nat} {s : Sig} {ds : List D} {d : D} (h : FnOK C f s ds d) : FnOK { C with fr := fr, nh := nh } f s ds d :=
  fun σ w args hok hC ha => h σ w args hok ⟨hC.glob⟩ ha
theorem FnOK.unhint {C : Ctx} {fr nh : List Nat} {f : Nat} {s : Sig} {ds : List D} {d : D} (h : FnOK { C with fr := fr, nh := nh } f s ds d) : FnOK C f s ds d :=
  fun σ w args hok hC ha => h σ w args hok ⟨hC.glob⟩ ha
theorem ItOK.hint {C : Ctx} {fr nh : List Nat} {f : Nat} {cts ys : List Ty} {ds xs : List D} (h : ItOK C f cts ys ds xs) : ItOK { C with fr := fr, nh := nh } f cts ys ds xs :=
  fun σ w yv vs F fx cx m hok hC => h σ w yv vs F fx cx m hok ⟨hC.glob⟩
theorem ItOK.unhint {C : Ctx} {fr nh : List Nat} {f : Nat} {cts ys : List Ty} {ds xs : List D} (h : ItOK { C with fr := fr, nh := nh } f cts ys ds xs) : ItOK C f cts ys ds xs :=
  fun σ w yv vs F fx cx m hok hC => h σ w yv vs F fx cx m hok ⟨hC.glob⟩
theorem FnObOK.hint {C : Ctx} {fr nh : List Nat} {f : Nat} {shs : List Sh} {obs : List (Nat × Ob)} {res : Ty} {ds : List D} {d : D} (h : FnObOK C f shs obs res ds d) : FnObOK { C with fr := fr, nh := nh } f shs obs res ds d := h.ctx rfl rfl rfl
theorem FnObOK.unhint {C : Ctx} {fr nh : List Nat} {f : Nat} {shs : List Sh} {obs : List (Nat × Ob)} {res : Ty} {ds : List D} {d : D} (h : FnObOK { C with fr := fr, nh := nh } f shs obs res ds d) : FnObOK C f shs obs res ds d := FnObOK.ctx (C' := C) h rfl rfl rfl
theorem FunsOK.hint {C : Ctx} {fr nh : List Nat} {Φ : Funs} (h : FunsOK C Φ) : FunsOK { C with fr := fr, nh := nh } Φ :=
  fun f ds d e s hs => ⟨fun hm => ((h f ds d e s hs).1 hm).hint, fun shs obs hm => ((h f ds d e s hs).2 shs obs hm).hint⟩
theorem ItsOK.hint {C : Ctx} {fr nh : List Nat} {Φ : Funs} (h : ItsOK C Φ) : ItsOK { C with fr := fr, nh := nh } Φ :=
  fun f cs ys hc hi => let ⟨h1, h2⟩ := h f cs ys hc hi; ⟨h1, fun ds d e => let ⟨xs, e1, e2, e3⟩ := h2 ds d e; ⟨xs, e1, e2, e3.hint⟩⟩
theorem ClosOK.hint {C : Ctx} {fr nh : List Nat} (h : ClosOK C) : ClosOK { C with fr := fr, nh := nh } := h

/-- what the contract of a function of the table is -/
def FnAny (C : Ctx) (f : Nat) (s : Sig) (ds : List D) (d : D) : Prop := (isOb s.mode = false → FnOK C f s ds d) ∧ ∀ shs obs, s.mode = .ob shs obs → FnObOK C f shs obs s.res ds d
structure TabOK (C : Ctx) (tab : Nat → Option PC) (ext : Nat → Option (Funs → List D → Option D)) : Prop where
  clos : ClosOK C
  its : ∀ f cs ys, C.cap f = some cs → itOf cs.args cs.res = some ys → tab f = none ∧ ∃ fn, C.P.funcs[f]? = some fn ∧ fn.body.isSome = true ∧ (fn.name == "runtime.NumGoroutine") = false
  tab : ∀ f pc, ext f = none → tab f = some pc → ∃ fn s ids fr nh, C.P.funcs[f]? = some fn ∧ C.sig f = some s ∧ compF { C with fr := fr, nh := nh } fn s ids = some pc
  ext : ∀ f g, ext f = some g → ∀ Φ, FunsOK C Φ → ItsOK C Φ → ∀ ds d, g Φ ds = some d → (∀ s, C.sig f = some s → FnAny C f s ds d) ∧
    ∀ cs ys, C.cap f = some cs → itOf cs.args cs.res = some ys → ∃ xs, d = .list xs ∧ (∀ x, x ∈ xs → ∃ ds', x = .tup ds' ∧ ds'.length = ys.length) ∧ ItOK C f cs.caps ys ds xs

theorem Tab_ok {C : Ctx} {tab : Nat → Option PC} {ext : Nat → Option (Funs → List D → Option D)} (h : TabOK C tab ext) : ∀ n, FunsOK C (Tab tab ext n) ∧ ItsOK C (Tab tab ext n)
  | 0 => ⟨fun f ds d e => by simp [Tab] at e, fun f cs ys hc hi => ⟨(h.its f cs ys hc hi).2, fun ds d e => by simp [Tab] at e⟩⟩
  | n + 1 => by
    obtain ⟨ih, ih2⟩ := Tab_ok h n
    refine ⟨fun f ds d e => ?_, fun f cs ys hc hi => ⟨(h.its f cs ys hc hi).2, fun ds d e => ?_⟩⟩
    · simp only [Tab] at e
      split at e
      · rename_i g hg; exact (h.ext f g hg _ ih ih2 ds d e).1
      · rename_i hx
        split at e
        · rename_i pc hpc
          split at e
          · rename_i d' he
            cases e
            obtain ⟨fn, s, ids, fr, nh, h1, h2, h3⟩ := h.tab f pc hx hpc
            intro s' hs'
            rw [h2] at hs'; cases hs'
            exact ⟨fun hm => (compF_sound (C := { C with fr := fr, nh := nh }) (ClosOK.hint h.clos) (FunsOK.hint ih) (ItsOK.hint ih2) h1 h3 hm he).unhint,
              fun shs obs hm => (compFO_sound (C := { C with fr := fr, nh := nh }) (ClosOK.hint h.clos) (FunsOK.hint ih) (ItsOK.hint ih2) h1 h3 hm he).unhint⟩
          · cases e
        · cases e
    · simp only [Tab] at e
      split at e
      · rename_i g hg; exact (h.ext f g hg _ ih ih2 ds d e).2 cs ys hc hi
      · rw [(h.its f cs ys hc hi).1] at e; cases e

/-- an iterator in a table: spec: what it yields -/
def ItSpec (Φ : Funs) (pc : PC) (J k : Nat) (ds xs : List D) : Prop := ItRuns Φ pc J ds xs ∧ ∀ x, x ∈ xs → ∃ ds', x = .tup ds' ∧ ds'.length = k
open Classical in
noncomputable def itG (pc : PC) (J k : Nat) (spec : List D → List D) : Funs → List D → Option D := fun Φ ds => if ItSpec Φ pc J k ds (spec ds) then some (.list (spec ds)) else none
theorem itG_ok {C : Ctx} {Φ : Funs} (hcl : ClosOK C) (hΦ : FunsOK C Φ) (hIt : ItsOK C Φ) {f : Nat} {fn : Func} {cts ys : List Ty} {J k : Nat} {ids fr nh : List Nat} {pc : PC} (hf : C.P.funcs[f]? = some fn) (hc : ∀ yv, compI { C with fr := fr, nh := nh, yv := yv } fn cts ys J ids = some pc) {spec : List D → List D}
    {ds : List D} {d : D} (h : itG pc J k spec Φ ds = some d) (hk : k = ys.length) : ∃ xs, d = .list xs ∧ (∀ x, x ∈ xs → ∃ ds', x = .tup ds' ∧ ds'.length = ys.length) ∧ ItOK C f cts ys ds xs := by
  unfold itG at h
  split at h
  · rename_i hs
    cases h
    subst hk
    exact ⟨_, rfl, hs.2, (compI_sound (C := { C with fr := fr, nh := nh }) (ClosOK.hint hcl) (FunsOK.hint hΦ) (ItsOK.hint hIt) hf hc hs.1).unhint⟩
  · cases h
def lookL {α : Type} : List (Nat × α) → Nat → Option α
  | [], _ => none
  | x :: l, f => bif Nat.beq x.1 f then some x.2 else lookL l f
def AllL {α : Type} (R : Nat → α → Prop) : List (Nat × α) → Prop
  | [] => True
  | x :: l => R x.1 x.2 ∧ AllL R l
theorem look_all {α : Type} {R : Nat → α → Prop} : ∀ {l : List (Nat × α)}, AllL R l → ∀ f x, lookL l f = some x → R f x
  | [], _, f, x, h => by cases h
  | y :: l, ⟨h1, h2⟩, f, x, h => by
    simp only [lookL] at h
    cases hb : Nat.beq y.1 f <;> simp only [hb, cond_true, cond_false] at h
    · exact look_all h2 f x h
    · cases h; rw [← nbeq hb]; exact h1
/-- functions that there are -/
def thereB (P : Program) : List (Nat × Sig) → Bool
  | [] => true
  | x :: l => (match P.funcs[x.1]? with | some fn => fn.body.isSome && !(fn.name == "runtime.NumGoroutine") | none => false) && thereB P l
theorem thereB_ok {P : Program} : ∀ {l : List (Nat × Sig)}, thereB P l = true → ∀ f s, lookL l f = some s → ∃ fn, P.funcs[f]? = some fn ∧ fn.body.isSome = true ∧ (fn.name == "runtime.NumGoroutine") = false
  | [], _, f, s, h => by cases h
  | y :: l, hl, f, s, h => by
    simp only [thereB, Bool.and_eq_true] at hl
    simp only [lookL] at h
    cases hb : Nat.beq y.1 f <;> simp only [hb, cond_true, cond_false] at h
    · exact thereB_ok hl.2 f s h
    · rw [← nbeq hb]
      have h1 := hl.1
      split at h1
      · rename_i fn e
        simp only [Bool.and_eq_true, Bool.not_eq_true'] at h1
        exact ⟨fn, e, h1.1, h1.2⟩
      · cases h1
def sigBeq (a b : Sig) : Bool := Ty.beqs a.args b.args && Ty.beq a.res b.res && (match a.mode, b.mode with | .dat, .dat => true | _, _ => false)
theorem sigBeq_eq {a b : Sig} (h : sigBeq a b = true) : a = b := by
  obtain ⟨a1, a2, a3⟩ := a
  obtain ⟨b1, b2, b3⟩ := b
  simp only [sigBeq, Bool.and_eq_true] at h
  rw [Ty.beqs_eq _ _ h.1.1, Ty.beq_eq _ _ h.1.2]
  cases a3 <;> cases b3 <;> first | rfl | (have := h.2; cases this)
def thereF (P : Program) (f : Nat) : Bool := match P.funcs[f]? with | some fn => fn.body.isSome && !(fn.name == "runtime.NumGoroutine") | none => false
theorem thereF_ok {P : Program} {f : Nat} (h : thereF P f = true) : ∃ fn, P.funcs[f]? = some fn ∧ fn.body.isSome = true ∧ (fn.name == "runtime.NumGoroutine") = false := by
  unfold thereF at h
  split at h
  · rename_i fn e
    simp only [Bool.and_eq_true, Bool.not_eq_true'] at h
    exact ⟨fn, e, h.1, h.2⟩
  · cases h
/-- closures and iterators are as the tables say -/
def capsB (P : Program) (sig : List (Nat × Sig)) (pcs : List Nat) : List (Nat × CSig) → Bool
  | [] => true
  | x :: l => (match itOf x.2.args x.2.res with
      | none => (match lookL sig x.1 with | some s => sigBeq s ⟨x.2.args ++ x.2.caps, x.2.res, .dat⟩ | none => false)
      | some _ => !memB pcs x.1 && thereF P x.1) && capsB P sig pcs l
theorem capsB_ok {P : Program} {sig : List (Nat × Sig)} {pcs : List Nat} : ∀ {l : List (Nat × CSig)}, capsB P sig pcs l = true → ∀ f cs, lookL l f = some cs →
    (itOf cs.args cs.res = none → lookL sig f = some ⟨cs.args ++ cs.caps, cs.res, .dat⟩) ∧ ∀ ys, itOf cs.args cs.res = some ys → memB pcs f = false ∧ thereF P f = true
  | [], _, f, cs, h => by cases h
  | x :: l, hl, f, cs, h => by
    simp only [capsB, Bool.and_eq_true] at hl
    simp only [lookL] at h
    cases hb : Nat.beq x.1 f <;> simp only [hb, cond_true, cond_false] at h
    · exact capsB_ok hl.2 f cs h
    · cases h
      rw [← nbeq hb]
      have h1 := hl.1
      refine ⟨fun e => ?_, fun ys e => ?_⟩
      · rw [e] at h1
        simp only at h1
        split at h1
        · rename_i s hs; rw [hs, sigBeq_eq h1]
        · cases h1
      · rw [e] at h1
        simpa using h1
theorem lookL_none {α : Type} : ∀ {l : List (Nat × α)} {f : Nat}, memB (l.map (·.1)) f = false → lookL l f = none
  | [], f, _ => rfl
  | x :: l, f, h => by
    simp only [List.map_cons, memB, List.any_cons, Bool.or_eq_false_iff] at h
    simp only [lookL]
    have hb : Nat.beq x.1 f = false := by
      cases e : Nat.beq x.1 f
      · rfl
      · rw [Nat.eq_of_beq_eq_true e, Nat.beq_refl] at h; cases h.1
    rw [hb]
    exact lookL_none (l := l) h.2
end Cx
