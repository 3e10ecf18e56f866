/-
  A region: its operations in some order.
-/
import Derived.Test.YtaihcmbfhgmjgaaCxU
import Derived.Tactics
import Derived.RangeFuncIn
import Derived.OrdersIn
set_option linter.unusedSimpArgs false
set_option linter.unusedVariables false
namespace Cx
open Go Go.RowKit

def notDefer : Op → Bool
  | .defer _ => false
  | _ => true
/-- no fence; but the frame may be that of a round of a range over a function -/
def FR (rd : Option Nat) : Fence := { Fence.wide with round := rd }
theorem FR_none : FR none = Fence.wide := rfl
theorem callsIn_FR {rd : Option Nat} {n : Nat} {P : Program} {f : FuncId} {args : Array Value} {w : World} {R : Ending → World → Prop} (h : Calls P f args w R) : CallsIn (FR rd) n P f args w R :=
  (callsIn_wide (n := n)).2 h
theorem oper_in {rd : Option Nat} {n : Nat} {P : Program} {o : Oper} {a : Act} {w : World} {K : Act → World → Prop} {Q : Exit → Act → World → Prop} (hnd : notDefer o.op = true) (h : o.wp P a w K Q) : o.wpIn (FR rd) n P a w K Q := by
  refine ⟨fun _ _ => trivial, ?_⟩
  rw [Oper.semAt_eq _ _ _ (fun c e => by rw [e] at hnd; cases hnd)]
  unfold Oper.wp at h
  generalize (execOp a.eval o).run P w = x at h
  have hno : ∀ {p : Prop}, ((FR rd).depth.isSome = true → p) := fun e => by cases e
  cases x with
  | ok v w' =>
    cases v with
    | value v => exact h
    | skip => exact h
    | defer d => exact h
    | enter f args =>
      refine ⟨hno, (callsIn_FR h).mono fun e w'' hh => ?_⟩
      cases e <;> exact hh
    | row row args =>
      refine ⟨hno, fun c cs _ => ?_⟩
      obtain ⟨v, w2, h1, h2⟩ := h c cs
      exact ⟨v, w2, h1, stepsIn_wide.2 h2⟩
    | _ => exact h.elim
  | halt v w' =>
    cases v with
    | panic v => exact h
    | _ => exact h.elim

/-- what the activation is behind an operation -/
structure SameBut (D : Nat → Prop) (a a' : Act) : Prop where
  size : a'.tmps.size = a.tmps.size
  get : ∀ t, ¬ D t → a'.tmps.getD t undef = a.tmps.getD t undef
theorem SameBut.refl (D : Nat → Prop) (a : Act) : SameBut D a a := ⟨rfl, fun _ _ => rfl⟩
theorem SameBut.trans {D : Nat → Prop} {a b c : Act} (h : SameBut D a b) (k : SameBut D b c) : SameBut D a c := ⟨k.size.trans h.size, fun t ht => (k.get t ht).trans (h.get t ht)⟩
theorem SameBut.mono {D D' : Nat → Prop} {a b : Act} (h : SameBut D a b) (hd : ∀ t, D t → D' t) : SameBut D' a b := ⟨h.size, fun t ht => h.get t fun e => ht (hd t e)⟩
theorem SameBut.put (a : Act) (d : Option Tmp) (v : Value) (ds : List Deferred) : SameBut (fun t => d = some t) a ({ a with defers := ds }.put d v) := by
  refine ⟨size_put _ _ _, fun t ht => ?_⟩
  cases d with
  | none => rfl
  | some u =>
    have : t ≠ u := fun e => ht (by rw [e])
    rw [tmps_put]; simp [this]
theorem Oper.wp_same {P : Program} {o : Oper} {a : Act} {w : World} {K : Act → World → Prop} {Q : Exit → Act → World → Prop} (h : o.wp P a w (fun a' w' => SameBut (fun t => o.dst = some t) a a' → K a' w') Q) : o.wp P a w K Q := by
  unfold Oper.wp at h ⊢
  generalize (execOp a.eval o).run P w = x at h ⊢
  cases x with
  | ok v w' =>
    cases v with
    | value v => exact h (SameBut.put a _ _ a.defers)
    | skip => exact h (SameBut.put a _ _ a.defers)
    | defer d => exact h (SameBut.put a _ _ _)
    | enter f args =>
      refine Calls.mono h fun e w'' hh => ?_
      cases e with
      | returned v => exact hh (SameBut.put a _ _ a.defers)
      | panicked c => exact hh
      | outgrown => exact hh
    | row row args => exact Rows.mono h fun v w'' hh => hh (SameBut.put a _ _ a.defers)
    | _ => exact h
  | halt v w' =>
    cases v with
    | panic v => exact h
    | _ => exact h

/-- A call of the value v: for whatever operation makes it. -/
def YOK (P : Program) (v : Value) (args : List Value) (w : World) (R : Value → World → Prop) : Prop :=
  ∀ (rd : Option Nat) (o : Oper) (a : Act) (x : Operand) (as : Array Operand) (ts : Array TypeId) (K : Act → World → Prop) (Q : Exit → Act → World → Prop),
    o.op = .call { callee := .value x, args := as, argTypes := ts } → a.eval x = v → as.toList.map a.eval = args → (∀ u w', R u w' → K (a.put o.dst u) w') → o.wpIn (FR rd) 0 P a w K Q

/-- the answer to what is yielded -/
def yldF : Nat := 1000000009
/-- What an iterator may count on when it yields. -/
def YieldsOK (C : Ctx) (Φ : Funs) (w0 : World) (σ0 : Base) : Prop := ∀ J ys, C.yl = some (J, ys) → σ0.B = 0 ∧ (∀ t fx cx w, σ0.F t fx cx w → ∃ xs, t = .list xs) ∧
  ∀ (xs ds' : List D) (d : D), Φ yldF [.list (xs ++ [.tup ds'])] = some d → ∀ (fx cx : Nat → Prop) (w1 : World) (σ1 : Im) (args : List Value), σ0.F (.list xs) fx cx w1 → σ1.ok w1 → ArgsOK C σ1 ys args ds' →
    (∀ k o x, σ1.c k o = some x → ¬ cx k) → (∀ k x, σ1.m k = some x → ¬ cx k) →
    (∀ k o x, σ1.c k o = some x → σ0.c k o = some x ∨ w0.heap.size ≤ k) → (∀ k x, σ1.m k = some x → σ0.m k = some x ∨ w0.heap.size ≤ k) →
    YOK C.P C.yv args w1 fun u w2 => ∃ b, d = .v (.bool b) ∧ u = .bool b ∧ Below 0 w1 w2 ∧ (∀ k, k < w1.heap.size → ¬ cx k → w2.heap[k]? = w1.heap[k]?) ∧
      ∃ fx' cx', σ0.F (.list (xs ++ [.tup ds'])) fx' cx' w2 ∧ (∀ k, fx' k → k < w1.heap.size → fx k ∨ (∃ o x, σ1.c k o = some x) ∨ (∃ x, σ1.m k = some x ∧ x ≠ dfrM)) ∧ (∀ k, cx' k → k < w1.heap.size → cx k)

def trE (gs : List (Nat × Bool)) (J : Nat) (x : PE) : PE :=
  match gs with
  | [] => .app (.o J) (.lst [x])
  | _ => .pick (.nt (.imp gs (.con (.v (.bool false))))) (.app (.o J) (.lst [x])) (.o J)
/-- something is yielded -/
def compY (C : Ctx) (S : St) (ops : Array Oper) (o : Oper) : Option (St × List PI) :=
  match o.dst, o.op, C.yl with
  | some dst, .call { callee := .value (.tmp t), args := args, .. }, some (J, ys) =>
    (gsOf S ops o).bind fun gs =>
      match shR S gs t with
      | .yv =>
        match (S.fzs (objsOf S gs args.toList)).o J with
        | .tr =>
          (uses C (S.fzs (objsOf S gs args.toList)) gs args.toList).bind fun u =>
            bif Ty.subs u.1 ys then some ((S.fzs (objsOf S gs args.toList)).setR dst (gsh gs (.dat .bool)), [.setO J (trE gs J (.tup u.2)), .call gs dst yldF [.o J]]) else none
        | _ => none
      | _ => none
  | _, _, _ => none
def compOp (C : Ctx) (S : St) (ops : Array Oper) (o : Oper) : Option (St × List PI) :=
  match compY C S ops o with
  | some r => some r
  | none => compOpB C S ops o

section
variable {C : Ctx} {S : St} {ρ : Env} {σ : Im} {own : Nat → Option Nat} {hv : Nat → Value} {w0 : World} {σ0 : Base} {A : Nat → Prop} {a : Act} {w : World} {gs : List (Nat × Bool)} {Φ : Funs} {dst : Nat}

theorem trE_ev (gs : List (Nat × Bool)) (J : Nat) (x : PE) (ρ : Env) : (trE gs J x).ev ρ = if holds gs ρ = true then .list ((ρ.o J).l ++ [x.ev ρ]) else ρ.o J := by
  cases gs with
  | nil => simp [trE, PE.ev, PE.evs, holds, D.l_list]
  | cons g gs =>
    simp only [trE, PE.ev, PE.evs, D.b_bool, D.l_list, Bool.or_false, Bool.not_not]
    cases holds (g :: gs) ρ <;> rfl

theorem Inv.yielded (h : Inv C S ρ σ own hv w0 σ0 A a w) (hB : σ0.B = 0) {J : Nat} {ys : List Ty} (hJ : C.yl = some (J, ys)) (hSJ : S.o J = .tr) {w2 : World} (hb : Below 0 w w2) {t : D} {fx cx : Nat → Prop} (hf : FrOK σ own w0.heap.size σ0 w t fx cx)
    (hs : ∀ k, k < w.heap.size → ¬ cx k → w2.heap[k]? = w.heap[k]?) {t' : D} {fx' cx' : Nat → Prop} (hF : σ0.F t' fx' cx' w2)
    (h1 : ∀ k, fx' k → k < w.heap.size → fx k ∨ (∃ o x, σ.c k o = some x) ∨ (∃ x, σ.m k = some x ∧ x ≠ dfrM)) (h2 : ∀ k, cx' k → k < w.heap.size → cx k) : Inv C S (ρ.setO J t') σ own hv w0 σ0 A a w2 := by
  have hsub := σ0.sub _ _ _ _ hf.F
  have hcs : ∀ k o x, σ.c k o = some x → w2.heap[k]? = w.heap[k]? := fun k o x e => hs k (h.lt e) (hf.c k o x e)
  have hms : ∀ k x, σ.m k = some x → w2.heap[k]? = w.heap[k]? := fun k x e => hs k (h.ltm e) (hf.m k x e)
  have hos : ∀ k j, own k = some j → w2.heap[k]? = w.heap[k]? := fun k j e => hs k (h.owns k j e).2.1 fun hc => hf.own k j e (hsub k hc)
  refine ⟨h.defers, ⟨fun k o v e => by rw [World.cell?_of_block (hcs k o v e)]; exact h.ok.c k o v e, fun k x e => (h.ok.m k x e).keep (hms k x e)⟩, h.le, h.old, h.newc, h.newm, h.below.trans (hb.mono (by omega)), h.bw,
    fun k j e => let ⟨g1, g2, g3⟩ := h.owns k j e; ⟨g1, Nat.lt_of_lt_of_le g2 hb.size, g3⟩, fun u => CellOK.mono (S := S) (ρ := ρ) (ρ' := ρ.setO J t') (.refl σ) (.refl S hv) (d := ρ.r u) (fun _ _ _ => rfl) (fun gs s e => (h.opts u gs s e).2) (h.regs u), fun j => ?_, h.opts,
    t', fx', cx', ⟨hF, fun k j e hk => ?_, fun k o x e hc => hf.c k o x e (h2 k hc (h.lt e)), fun k x e hc => hf.m k x e (h2 k hc (h.ltm e)), fun k e hB2 hk => ?_⟩, fun j hj => ?_⟩
  · by_cases hjJ : j = J
    · subst hjJ; rw [hSJ]; trivial
    · exact (h.objs j).mono (.refl σ) (.refl S hv) rfl (by simp [Env.setO, upd_ne _ _ hjJ]) (fun k e => ⟨e, hos k j e⟩)
  · obtain ⟨_, g2, g3, g4⟩ := h.owns k j e
    rcases h1 k hk g2 with e1 | ⟨o, x, e1⟩ | ⟨x, e1, _⟩
    · exact hf.own k j e e1
    · rw [g3 o] at e1; cases e1
    · rw [g4] at e1; cases e1
  · rcases h1 k hk (h.ltm e) with e1 | ⟨o, x, e1⟩ | ⟨x, e1, e2⟩
    · exact hf.d k e hB2 e1
    · have c1 := h.ok.c k o x e1
      rcases h.ok.m k _ e with ⟨m1, _⟩ | ⟨_, m2⟩
      · exact m1 rfl
      · simp [World.cell?, m2] at c1
    · rw [e] at e1; cases e1; exact e2 rfl
  · obtain ⟨_, _, _, _, ht⟩ := h.frame
    obtain ⟨⟨ys', e1⟩, _⟩ := ht j hj
    rw [hJ] at e1; cases e1
    exact ⟨⟨_, hJ⟩, upd_same _ _ _⟩

theorem compY_sound {rd : Option Nat} (h : Good C w0 σ0 S ρ A a w) (hC : CtxOK C σ0) (hY : YieldsOK C Φ w0 σ0) {ops : Array Oper} {o : Oper} (ht : ∀ d, o.dst = some d → ¬ A d ∧ d < a.tmps.size)
    (hj : ∀ j want t, o.guard = some (j, want) → (ops[j]?).bind (·.dst) = some t → A t) {r : St × List PI} (hr : compY C S ops o = some r) {ρ' : Env} (hrun : PI.runs Φ r.2 ρ = some ρ')
    {K : Act → World → Prop} {Q : Exit → Act → World → Prop} (hK : ∀ a' w', Good C w0 σ0 r.1 ρ' (fun u => A u ∨ o.dst = some u) a' w' → SameBut (fun t => o.dst = some t) a a' → K a' w') :
    if Region.wanted o (yielded ops a.tmps) then o.wpIn (FR rd) 0 C.P a w K Q else K (a.put o.dst undef) w := by
  unfold compY at hr
  split at hr
  case h_2 => cases hr
  rename_i _ _ dst t args ts J ys hd hop hyl
  simp only [Option.bind_eq_some_iff] at hr
  obtain ⟨gs, hgs, hr⟩ := hr
  split at hr
  case h_2 => cases hr
  rename_i hyv
  split at hr
  case h_2 => cases hr
  rename_i hSJ
  simp only [Option.bind_eq_some_iff] at hr
  obtain ⟨u, hu, hr⟩ := hr
  cases hsub : Ty.subs u.1 ys <;> simp only [hsub, cond_true, cond_false] at hr
  · cases hr
  cases hr
  have hgA := gsOf_A h hgs hj
  rw [gsOf_sound h hgs]
  obtain ⟨σ, own, hv, i⟩ := h
  obtain ⟨σ1, own1, hle, i1⟩ := Inv.fzs (objsOf S gs args.toList) i
  obtain ⟨t1, t2⟩ := ht dst hd
  have hee : (fun u => A u ∨ o.dst = some u) = (fun u => A u ∨ u = dst) := by funext u; rw [hd]; simp [eq_comm]
  rw [hee] at hK
  simp only [PI.runs, PI.run, Option.bind_some, trE_ev, Option.bind_eq_some_iff] at hrun
  cases hh : holds gs ρ with
  | false =>
    simp only [hh, Bool.false_eq_true, if_false] at hrun ⊢
    have e1 : ρ.setO J (ρ.o J) = ρ := by
      cases ρ with | mk r o => simp only [Env.setO]; congr 1; funext x; rw [upd_apply]; split <;> simp_all
    rw [e1, hh] at hrun
    obtain ⟨ρ1, e2, e3⟩ := hrun
    cases e2; cases e3
    cases gs with
    | nil => simp [holds] at hh
    | cons g gs' =>
      have hpass := i1.passed t1 t2 hgA hh (s := .dat .bool) (fun _ _ e => by cases e) (ρ.r dst)
      have e4 : ρ.setR dst (ρ.r dst) = ρ := by
        cases ρ with | mk r o => simp only [Env.setR]; congr 1; funext x; rw [upd_apply]; split <;> simp_all
      rw [e4] at hpass
      rw [hd]
      exact hK _ _ ⟨_, _, _, hpass⟩ (by rw [hd]; exact SameBut.put a (some dst) undef a.defers)
  | true =>
    simp only [hh, if_true] at hrun ⊢
    have hargs := uses_args i1 hC hh hu hsub
    obtain ⟨tr, fx, cx, hf, htr⟩ := i1.frame
    obtain ⟨_, hρJ⟩ := htr J hSJ
    obtain ⟨hB, hlist, hyld⟩ := hY J ys hyl
    obtain ⟨xs, rfl⟩ := hlist _ _ _ _ hf.F
    rw [hρJ] at hrun
    simp only [D.l_list, PE.ev] at hrun
    obtain ⟨ρ1, e2, e3⟩ := hrun
    cases e3
    have hh2 : holds gs (ρ.setO J (.list (xs ++ [.tup (PE.evs ρ u.2)]))) = true := hh
    rw [hh2] at e2
    simp only [cond_true, PE.evs, PE.ev, Env.setO, upd_same, Option.map_eq_some_iff] at e2
    obtain ⟨d, e4, e5⟩ := e2
    have hy := hyld xs (PE.evs ρ u.2) d e4 fx cx w σ1 (args.toList.map a.eval) hf.F i1.ok hargs hf.c hf.m i1.newc i1.newm
    have hval : a.eval (.tmp t) = C.yv := by
      have := (shR_sound i hh t).1
      rw [hyv] at this
      have h9 : a.tmps.getD t undef = C.yv := this
      simpa [Act.eval] using h9
    refine hy rd o a (.tmp t) args ts K Q hop hval rfl fun v w2 hpost => ?_
    obtain ⟨b, rfl, rfl, hb, hs, fx', cx', hF, h1, h2⟩ := hpost
    have i2 := i1.yielded hB hyl hSJ hb hf hs hF h1 h2
    refine hK _ _ ?_ (SameBut.put a _ _ a.defers)
    rw [hd, ← e5]
    change Good C w0 σ0 _ ((ρ.setO J (.list (xs ++ [.tup (PE.evs ρ u.2)]))).setR dst (.v (.bool b))) _ _ _
    have hh3 : holds gs ((ρ.setO J (.list (xs ++ [.tup (PE.evs ρ u.2)]))).setR dst (.v (.bool b))) = true := by
      rw [holds_setR (t := dst) fun g hm e => t1 (by rw [← e]; exact hgA g hm)]; exact hh2
    cases gs with
    | nil => exact ⟨_, _, _, i2.setReg t1 (s := .dat .bool) (.bool b) t2 (fun _ _ e => by cases e)⟩
    | cons g gs' =>
      refine ⟨_, _, _, i2.setReg t1 (s := .opt (g :: gs') (.dat .bool)) ⟨fun _ => .bool b, fun e => absurd (hh3.symm.trans e) (by decide)⟩ t2 (fun gs s e => ?_)⟩
      cases e
      exact ⟨hgA, fun _ _ e => by cases e⟩

theorem compOp_sound {rd : Option Nat} (h : Good C w0 σ0 S ρ A a w) (hC : CtxOK C σ0) (hcl : ClosOK C) (hΦ : FunsOK C Φ) (hY : YieldsOK C Φ w0 σ0) {ops : Array Oper} {o : Oper} (hnd : notDefer o.op = true) (ht : ∀ d, o.dst = some d → ¬ A d ∧ d < a.tmps.size)
    (hj : ∀ j want t, o.guard = some (j, want) → (ops[j]?).bind (·.dst) = some t → A t) {r : St × List PI} (hr : compOp C S ops o = some r) {ρ' : Env} (hrun : PI.runs Φ r.2 ρ = some ρ')
    {K : Act → World → Prop} {Q : Exit → Act → World → Prop} (hK : ∀ a' w', Good C w0 σ0 r.1 ρ' (fun u => A u ∨ o.dst = some u) a' w' → SameBut (fun t => o.dst = some t) a a' → K a' w') :
    if Region.wanted o (yielded ops a.tmps) then o.wpIn (FR rd) 0 C.P a w K Q else K (a.put o.dst undef) w := by
  unfold compOp at hr
  split at hr
  · rename_i q hq; cases hr; exact compY_sound h hC hY ht hj hq hrun hK
  · have := compOpB_sound (K := fun a' w' => SameBut (fun t => o.dst = some t) a a' → K a' w') (Q := Q) h hC hcl hΦ ht hj hr hrun (fun a' w' g _ hs => hK a' w' g hs)
    split
    · rename_i hw; rw [if_pos hw] at this; exact oper_in hnd (Oper.wp_same this)
    · rename_i hw; rw [if_neg hw] at this; exact this (SameBut.put a _ _ a.defers)
end

/-- the operations of a region in an order, each one's instructions by itself -/
def compSeq (C : Ctx) (ops : Array Oper) : List Nat → St → Option (St × List PI)
  | [], S => some (S, [])
  | i :: l, S =>
    match ops[i]? with
    | some o => (compOp C S ops o).bind fun r => (compSeq C ops l r.1).map fun q => (q.1, r.2 ++ q.2)
    | none => none

/-- no register is set twice, none lies outside the frame; guards look at operations -/
def regionOK (n : Nat) (ops : Array Oper) : Bool :=
  nodupB (ops.toList.filterMap (·.dst)) && ops.toList.all fun o => notDefer o.op && match o.dst with | some d => Nat.blt d n | none => true

def St.clear (S : St) : St := { S with r := fun t => match S.r t with | .opt _ _ => .none | s => s }

section
variable {C : Ctx} {S : St} {ρ : Env} {σ : Im} {own : Nat → Option Nat} {hv : Nat → Value} {w0 : World} {σ0 : Base} {A : Nat → Prop} {a : Act} {w : World} {gs : List (Nat × Bool)} {Φ : Funs} {dst : Nat}

theorem Good.clear (h : Good C w0 σ0 S ρ A a w) : Good C w0 σ0 S.clear ρ (fun _ => False) a w := by
  obtain ⟨σ, own, hv, h⟩ := h
  have hc : Compat S hv S.clear hv := ⟨fun _ => Nat.le_refl _, fun _ _ => rfl⟩
  refine ⟨σ, own, hv, h.defers, h.ok, h.le, h.old, h.newc, h.newm, h.below, h.bw, h.owns, fun t => ?_, fun j => ?_, fun t gs s e => ?_, h.frame⟩
  · have hr := h.regs t
    simp only [St.clear]
    split
    · trivial
    · rename_i hn
      exact CellOK.mono' (.refl σ) hc (fun gs s e => hn gs s e) hr
  · exact (h.objs j).mono (.refl σ) hc rfl rfl (fun k hk => ⟨hk, rfl⟩)
  · simp only [St.clear] at e
    split at e
    · cases e
    · rename_i hn; exact absurd e (hn gs s)

/-- what has been set when some operations are done -/
def setBy (ops : Array Oper) (done : List Nat) : Nat → Prop := fun t => ∃ i o, i ∈ done ∧ ops[i]? = some o ∧ o.dst = some t

theorem compSeq_sound.dst_once {ops : Array Oper} (hnd : (ops.toList.filterMap (·.dst)).Nodup) {i j : Nat} {o o' : Oper} {d : Nat} (hi : ops[i]? = some o) (hj : ops[j]? = some o') (hd : o.dst = some d) (hd' : o'.dst = some d) (hne : i ≠ j) : False := by
  have key : ∀ (l : List Oper), (l.filterMap (·.dst)).Nodup → ∀ (i j : Nat) (o o' : Oper), l[i]? = some o → l[j]? = some o' → o.dst = some d → o'.dst = some d → i = j := by
    intro l
    induction l with
    | nil => intro _ i j o o' hi; simp at hi
    | cons x l ih =>
      intro hnd i j o o' hi hj hd hd'
      have hmem : ∀ (k : Nat) (y : Oper), l[k]? = some y → y.dst = some d → d ∈ l.filterMap (·.dst) := fun k y hk hy => List.mem_filterMap.2 ⟨y, List.mem_of_getElem? hk, hy⟩
      cases hx : x.dst with
      | none =>
        rw [List.filterMap_cons_none hx] at hnd
        cases i with
        | zero => simp at hi; subst hi; rw [hx] at hd; cases hd
        | succ i =>
          cases j with
          | zero => simp at hj; subst hj; rw [hx] at hd'; cases hd'
          | succ j => simp at hi hj; rw [ih hnd i j o o' hi hj hd hd']
      | some y =>
        rw [List.filterMap_cons_some hx, List.nodup_cons] at hnd
        cases i with
        | zero =>
          simp at hi; subst hi
          rw [hx] at hd; cases hd
          cases j with
          | zero => rfl
          | succ j => simp at hj; exact absurd (hmem j o' hj hd') hnd.1
        | succ i =>
          cases j with
          | zero =>
            simp at hj; subst hj
            rw [hx] at hd'; cases hd'
            simp at hi; exact absurd (hmem i o hi hd) hnd.1
          | succ j => simp at hi hj; rw [ih hnd.2 i j o o' hi hj hd hd']
  exact hne (key ops.toList hnd i j o o' (by simpa using hi) (by simpa using hj) hd hd')

/-- what the operations of a region set -/
def dstIn (ops : Array Oper) : Nat → Prop := fun t => ∃ o, o ∈ ops.toList ∧ o.dst = some t

/-- The operations of a region, in an order in which each stands once and behind what its guard looks at. -/
theorem compSeq_sound (hC : CtxOK C σ0) (hcl : ClosOK C) (hΦ : FunsOK C Φ) (hY : YieldsOK C Φ w0 σ0) {ops : Array Oper} {n : Nat} (hok : regionOK n ops = true) {rd : Option Nat} {Q : Exit → Act → World → Prop} :
    ∀ (l done : List Nat) {S : St} {ρ ρ' : Env} {a : Act} {w : World} {r : St × List PI}, (done ++ l).Nodup → (∀ p i q o j want, l = p ++ i :: q → ops[i]? = some o → o.guard = some (j, want) → j ∈ done ++ p) →
      a.tmps.size = n → Good C w0 σ0 S ρ (setBy ops done) a w → compSeq C ops l S = some r → PI.runs Φ r.2 ρ = some ρ' →
      (∀ a' w', SameBut (dstIn ops) a a' → Good C w0 σ0 r.1 ρ' (setBy ops (done ++ l)) a' w' → Q .normal a' w') → wpOpsIn (FR rd) 0 C.P ops Q l a w := by
  simp only [regionOK, Bool.and_eq_true] at hok
  have hnd := nodupB_sound hok.1
  intro l
  induction l with
  | nil =>
    intro done S ρ ρ' a w r _ _ hsz h hr hrun hQ
    simp only [compSeq, Option.some.injEq] at hr
    subst hr
    rw [runs0 hrun] at hQ
    simp only [wpOpsIn]
    exact hQ a w (.refl _ _) (by simpa using h)
  | cons i l ih =>
    intro done S ρ ρ' a w r hdn hgd hsz h hr hrun hQ
    simp only [compSeq] at hr
    split at hr
    case h_2 => cases hr
    rename_i o ho
    simp only [Option.bind_eq_some_iff, Option.map_eq_some_iff] at hr
    obtain ⟨r1, hr1, q, hq, rfl⟩ := hr
    simp only [runs_append, Option.bind_eq_some_iff] at hrun
    obtain ⟨ρ1, hρ1, hρ2⟩ := hrun
    have hdst : ∀ d, o.dst = some d → ¬ setBy ops done d ∧ d < a.tmps.size := by
      intro d hd
      refine ⟨fun ⟨i', o', hi', ho', hd'⟩ => ?_, ?_⟩
      · -- two operations with one register
        have hne : i' ≠ i := by
          intro e; subst e
          rw [List.nodup_append] at hdn
          exact hdn.2.2 i' hi' i' (List.mem_cons_self ..) rfl
        exact compSeq_sound.dst_once hnd ho' ho hd' hd hne
      · have := List.all_eq_true.1 hok.2 o (by
          have := Array.mem_of_getElem? ho
          simpa using this)
        simp only [hd, Bool.and_eq_true] at this
        rw [hsz]; simpa [Nat.blt_eq] using this.2
    have hj : ∀ j want t, o.guard = some (j, want) → (ops[j]?).bind (·.dst) = some t → setBy ops done t := by
      intro j want t hg ht
      have := hgd [] i l o j want rfl ho hg
      simp only [List.append_nil] at this
      rw [Option.bind_eq_some_iff] at ht
      obtain ⟨oj, h1, h2⟩ := ht
      exact ⟨j, oj, this, h1, h2⟩
    have hnd' : notDefer o.op = true := by
      have := List.all_eq_true.1 hok.2 o (by simpa using Array.mem_of_getElem? ho)
      simp only [Bool.and_eq_true] at this
      exact this.1
    have main := compOp_sound (rd := rd) (K := wpOpsIn (FR rd) 0 C.P ops Q l) (Q := Q) h hC hcl hΦ hY hnd' hdst hj hr1 hρ1 (fun a' w' hg' hsame => by
      have hsz' := hsame.size
      refine ih (done ++ [i]) (by simpa using hdn) (fun p i' q' o' j want e ho' hg'' => ?_) (hsz'.trans hsz) ?_ hq hρ2 (fun a2 w2 s2 g2 => hQ a2 w2 ((hsame.mono fun t e => ⟨o, by simpa using Array.mem_of_getElem? ho, e⟩).trans s2) (by simpa using g2))
      · have := hgd (i :: p) i' q' o' j want (by rw [e]; rfl) ho' hg''
        simpa using this
      · have : (fun u => setBy ops done u ∨ o.dst = some u) = setBy ops (done ++ [i]) := by
          funext u
          apply propext
          constructor
          · rintro (⟨i', o', h1, h2, h3⟩ | h1)
            · exact ⟨i', o', by simp [h1], h2, h3⟩
            · exact ⟨i, o, by simp, ho, h1⟩
          · rintro ⟨i', o', h1, h2, h3⟩
            rcases List.mem_append.1 h1 with h4 | h4
            · exact .inl ⟨i', o', h4, h2, h3⟩
            · simp at h4; subst h4
              rw [ho] at h2; cases h2
              exact .inr h3
        rw [← this]; exact hg')
    simp only [wpOpsIn, ho]
    split
    · rename_i hw; rw [if_pos hw] at main; exact main
    · rename_i hw; rw [if_neg hw] at main; exact ⟨fun _ _ => trivial, main⟩
end
end Cx
