/-
  Calls.
-/
import Derived.Test.YtjjfmpdhjbojfaaCxS
set_option linter.unusedSimpArgs false
set_option linter.unusedVariables false
namespace Cx
open Go Go.RowKit

/-- types whose data lie in no memory -/
def Ty.pureT : Ty → Bool
  | .int _ | .bool | .str | .nils _ => true
  | _ => false
def Ty.pure : Ty → Bool
  | .tup ts => ts.all Ty.pureT
  | .agg ts => ts.all Ty.pureT
  | t => Ty.pureT t

theorem Rep.pureT {cap : Nat → Option CSig} {σ τ : Im} {t : Ty} {v : Value} {d : D} (h : Rep cap σ t v d) (hp : t.pureT = true) : Rep cap τ t v d := by
  cases h <;> simp [Ty.pureT] at hp <;> constructor <;> assumption
theorem Rep.pure {cap : Nat → Option CSig} {σ τ : Im} {t : Ty} {v : Value} {d : D} (h : Rep cap σ t v d) (hp : t.pure = true) : Rep cap τ t v d := by
  cases h with
  | agg ts vs ds h1 h2 h ho => exact .agg ts vs ds h1 h2 (fun i t hi => (h i t hi).pureT (List.all_eq_true.1 hp t (List.mem_of_getElem? hi))) ho
  | tup ts vs ds h1 h2 h => exact .tup ts vs ds h1 h2 (fun i t hi => (h i t hi).pureT (List.all_eq_true.1 hp t (List.mem_of_getElem? hi)))
  | int k n h1 h2 => exact .int k n h1 h2
  | bool b => exact .bool b
  | str s h => exact .str s h
  | nils e => exact .nils e
  | _ => simp [Ty.pure, Ty.pureT] at hp

/-- What a function's result is. -/
def ResOK (C : Ctx) (s : Sig) (σ' : Im) (w w' : World) (v : Value) (d : D) : Prop :=
  match s.mode with
  | .dat => Rep C.cap σ' s.res v d
  | .it _ => True
  | .row T e => ∃ cells xs, d = .list xs ∧ w'.ownsRow w.heap.size T e.size v xs.length cells ∧ ElemsOK C.cap σ' e cells xs ∧ ∀ k, v.ownBlock = some k → (∀ o, σ'.c k o = none) ∧ σ'.m k = none

def ArgsOK (C : Ctx) (σ : Im) (ts : List Ty) (args : List Value) (ds : List D) : Prop :=
  args.length = ts.length ∧ ds.length = ts.length ∧ ∀ (i : Nat) (t : Ty), ts[i]? = some t → Rep C.cap σ t (args.getD i undef) (ds.getD i .none)

/-- The contract of a function: what it computes from data, in whatever memory; nothing that was there has turned. -/
def FnOK (C : Ctx) (f : Nat) (s : Sig) (ds : List D) (d : D) : Prop :=
  ∀ (σ : Im) (w : World) (args : Array Value), σ.ok w → CtxOK C σ → ArgsOK C σ s.args args.toList ds →
    Calls C.P f args w fun e w' => ∃ v σ', e = .returned v ∧ σ.le σ' ∧ σ'.ok w' ∧ Below w.heap.size w w' ∧
      (∀ k o x, σ'.c k o = some x → σ.c k o = some x ∨ w.heap.size ≤ k) ∧ (∀ k x, σ'.m k = some x → σ.m k = some x ∨ w.heap.size ≤ k) ∧ ResOK C s σ' w w' v d

/-- All that a table of functions says is so. -/
def FunsOK (C : Ctx) (Φ : Funs) : Prop := ∀ f ds d, Φ f ds = some d → ∀ s, C.sig f = some s → FnOK C f s ds d

/-- The type of an iterator: what it yields. -/
def itOf : List Ty → Ty → Option (List Ty)
  | [.fn ys .bool], .tup [] => some ys
  | _, _ => none

/-- closures are called as their functions' signatures say -/
def ClosOK (C : Ctx) : Prop := (∀ f cs, C.cap f = some cs → itOf cs.args cs.res = none → C.sig f = some ⟨cs.args ++ cs.caps, cs.res, .dat⟩) ∧ ∀ f s, C.sig f = some s → ∃ fn, C.P.funcs[f]? = some fn ∧ fn.body.isSome = true ∧ (fn.name == "runtime.NumGoroutine") = false

/-- the objects among operands -/
def objsOf (S : St) (gs : List (Nat × Bool)) : List Operand → List Nat
  | [] => []
  | x :: xs =>
    match shX S gs x with
    | .obj j ver => bif Nat.beq ver (S.ver j) && isRowOrMp (S.o j) then j :: objsOf S gs xs else objsOf S gs xs
    | _ => objsOf S gs xs

/-- a shape under a guard -/
def gsh (gs : List (Nat × Bool)) (s : Sh) : Sh :=
  match gs with
  | [] => s
  | _ => .opt gs s

def St.fzs (S : St) (js : List Nat) : St := js.foldl St.fz S

/-- a call: the state before the result is put, the result's shape, the instructions -/
def eCall (C : Ctx) (S : St) (gs : List (Nat × Bool)) (dst : Nat) (f : Nat) (args : List Operand) : Option (St × Sh × List PI) :=
  (C.sig f).bind fun s =>
    match s.mode with
    | .dat =>
      (uses C (S.fzs (objsOf S gs args)) gs args).bind fun u =>
        bif Ty.subs u.1 s.args then some (bif s.res.pure then S else S.fzs (objsOf S gs args), .dat s.res, [.call gs dst f u.2]) else Option.none
    | _ => Option.none

def eCallRow (C : Ctx) (S : St) (dst : Nat) (f : Nat) (args : List Operand) : EffR :=
  (C.sig f).bind fun s =>
    match s.mode with
    | .row T e =>
      (uses C (S.fzs (objsOf S [] args)) [] args).bind fun u =>
        bif Ty.subs u.1 s.args then some (mkObj (bif e.pure then S else S.fzs (objsOf S [] args)) dst (.row T e), [.call [] dst f u.2, .setO dst (.r dst), .setR dst (.con .none)]) else Option.none
    | _ => Option.none

def eCallC (C : Ctx) (S : St) (gs : List (Nat × Bool)) (dst : Nat) (x : Operand) (args : List Operand) : Option (St × Sh × List PI) :=
  match use C S gs x with
  | some (.fn as r, e) =>
    match itOf as r with
    | some _ => Option.none
    | Option.none =>
    (uses C (S.fzs (objsOf S gs args)) gs args).bind fun u =>
      bif Ty.subs u.1 as then some (bif r.pure then S else S.fzs (objsOf S gs args), .dat r, [.callc gs dst e u.2]) else Option.none
  | _ => Option.none

theorem fzs_ver : ∀ (js : List Nat) (S : St), (S.fzs js).ver = S.ver ∧ (S.fzs js).r = S.r
  | [], S => ⟨rfl, rfl⟩
  | j :: js, S => by
    obtain ⟨h1, h2⟩ := fzs_ver js (S.fz j)
    obtain ⟨k1, k2⟩ := fz_ver S j
    exact ⟨h1.trans k1, h2.trans k2⟩

section
variable {C : Ctx} {S : St} {ρ : Env} {σ : Im} {own : Nat → Option Nat} {hv : Nat → Value} {w0 : World} {σ0 : Base} {A : Nat → Prop} {a : Act} {w : World} {gs : List (Nat × Bool)} {Φ : Funs} {dst : Nat}

theorem Inv.fzs : ∀ (js : List Nat) {S : St} {σ : Im} {own : Nat → Option Nat}, Inv C S ρ σ own hv w0 σ0 A a w → ∃ σ' own', σ.le σ' ∧ Inv C (S.fzs js) ρ σ' own' hv w0 σ0 A a w
  | [], S, σ, own, h => ⟨σ, own, .refl σ, h⟩
  | j :: js, S, σ, own, h => by
    obtain ⟨σ1, own1, hle, h1⟩ := h.fz j
    obtain ⟨σ2, own2, hle2, h2⟩ := Inv.fzs js h1
    exact ⟨σ2, own2, hle.trans hle2, h2⟩

/-- The world goes on: new blocks alone, and what is immutable grows. -/
theorem Inv.world (h : Inv C S ρ σ own hv w0 σ0 A a w) {σ' : Im} {w' : World} (hle : σ.le σ') (hok : σ'.ok w') (hb : Below w.heap.size w w') (hnc : ∀ k o x, σ'.c k o = some x → σ.c k o = some x ∨ w.heap.size ≤ k)
    (hnm : ∀ k x, σ'.m k = some x → σ.m k = some x ∨ w.heap.size ≤ k) : Inv C S ρ σ' own hv w0 σ0 A a w' := by
  have hsz := h.below.size
  refine h.step (fun _ => False) rfl hle hok (fun k o x hx => (hnc k o x hx).imp id (fun e => ⟨by omega, .inr e⟩)) (fun k x hx => (hnm k x hx).imp id (fun e => ⟨by omega, .inr e⟩)) (hb.mono hsz) (.refl S hv) (fun j _ => ⟨rfl, rfl, rfl, fun k hk => ⟨hk, hb.block k (h.owns k j hk).2.1⟩⟩) (fun _ hf => hf.elim) (fun k j hk => ?_) (fun _ => id) (fun t => .inl ⟨rfl, rfl, rfl⟩) (fun _ _ => rfl) (fun k hk _ => hb.block k hk) (fun k i hk => .inl ⟨i, hk⟩) (fun _ hf => hf.elim)
  obtain ⟨g1, g2, g3, g4⟩ := h.owns k j hk
  refine ⟨g1, by have := hb.size; omega, fun o => ?_, ?_⟩
  · cases hc : σ'.c k o with
    | none => rfl
    | some x => rcases hnc k o x hc with e | e
                · rw [g3 o] at e; cases e
                · omega
  · cases hc : σ'.m k with
    | none => rfl
    | some x => rcases hnm k x hc with e | e
                · rw [g4] at e; cases e
                · omega

theorem CtxOK.mono {C : Ctx} {σ σ' : Im} (h : CtxOK C σ) (hle : σ.le σ') : CtxOK C σ' := ⟨fun g x hx => (h.glob g x hx).mono hle⟩

theorem uses_args (h : Inv C S ρ σ own hv w0 σ0 A a w) (hC : CtxOK C σ0) (hg : holds gs ρ = true) {xs : List Operand} {u : List Ty × List PE} {ts : List Ty} (hu : uses C S gs xs = some u) (hs : Ty.subs u.1 ts = true) : ArgsOK C σ ts (xs.map a.eval) (PE.evs ρ u.2) := by
  obtain ⟨l1, l2, hall⟩ := uses_sound h hC hg _ _ hu
  have hl := Ty.subs_len _ _ hs
  refine ⟨by rw [List.length_map]; omega, by rw [PE.evs_eq, List.length_map]; omega, fun i t hi => ?_⟩
  obtain ⟨s, hs', hst⟩ := Ty.subs_get _ _ hs i t hi
  exact (hall i s hs').sub hst

theorem run_callF {o : Oper} {f : Nat} {args : Array Operand} {ts : Array TypeId} (hcl : ClosOK C) {s : Sig} (hs : C.sig f = some s) (ho : o.op = .call { callee := .value (.func f), args := args, argTypes := ts }) :
    (execOp a.eval o).run C.P w = .ok (.enter f (args.map a.eval)) w := by
  obtain ⟨fn, h1, h2, h3⟩ := hcl.2 f s hs
  obtain ⟨bd, h2'⟩ := Option.isSome_iff_exists.1 h2
  have h4 : ¬ fn.name = "runtime.NumGoroutine" := by simpa using h3
  simp [execOp, ho, resolve, Act.eval, Deferred.ofValue, invoke, callFunc, h1, h2', h4]

theorem run_callT {o : Oper} {x : Operand} {f : Nat} {vs : List Value} {args : Array Operand} {ts : Array TypeId} (hcl : ClosOK C) {s : Sig} (hs : C.sig f = some s) (hx : a.eval x = .func (.func f) #[] vs.toArray) (ho : o.op = .call { callee := .value x, args := args, argTypes := ts }) :
    (execOp a.eval o).run C.P w = .ok (.enter f (args.map a.eval ++ vs.toArray)) w := by
  obtain ⟨fn, h1, h2, h3⟩ := hcl.2 f s hs
  obtain ⟨bd, h2'⟩ := Option.isSome_iff_exists.1 h2
  have h4 : ¬ fn.name = "runtime.NumGoroutine" := by simpa using h3
  simp [execOp, ho, resolve, hx, Deferred.ofValue, invoke, callFunc, h1, h2', h4]

/-- the result of a call is put: data -/
theorem call_core (h : Inv C S ρ σ own hv w0 σ0 A a w) (hC : CtxOK C σ0) (ht : ¬ A dst) (hlt : dst < a.tmps.size) (hgs : ∀ g, g ∈ gs → A g.1) (hg : holds gs ρ = true) {f : Nat} {s : Sig} {js : List Nat} {vals : List Value} {ds : List D} {d : D} (hmode : s.mode = .dat) (hfn : FnOK C f s ds d)
    (hargs : ∀ σ1 own1, σ.le σ1 → Inv C (S.fzs js) ρ σ1 own1 hv w0 σ0 A a w → ArgsOK C σ1 s.args vals ds) {K : Act → World → Prop} {Q : Exit → Act → World → Prop}
    (hK : ∀ a' w', Good C w0 σ0 ((bif s.res.pure then S else S.fzs js).setR dst (gsh gs (.dat s.res))) (ρ.setR dst d) (fun u => A u ∨ u = dst) a' w' → a'.tmps.size = a.tmps.size → K a' w') :
    Calls C.P f vals.toArray w (fun e w'' => match e with | .returned v => K (a.put (some dst) v) w'' | .panicked chain => Q (.panic chain) a w'' | .outgrown => LetsOut Q) := by
  obtain ⟨σ1, own1, hle1, h1⟩ := Inv.fzs js h
  have hcall := hfn σ1 w vals.toArray h1.ok (hC.mono h1.le) (by simpa using hargs σ1 own1 hle1 h1)
  refine hcall.mono fun e w' hh => ?_
  obtain ⟨v, σ', rfl, hle, hok, hb, hnc, hnm, hres⟩ := hh
  simp only [ResOK, hmode] at hres
  refine hK _ _ ?_ (size_put _ _ _)
  have hh : holds gs (ρ.setR dst d) = true := by rw [holds_setR (t := dst) (d := d) fun g hm e => ht (by rw [← e]; exact hgs g hm)]; exact hg
  have put : ∀ {S2 : St} {σ2 : Im} {own2 : Nat → Option Nat}, Inv C S2 ρ σ2 own2 hv w0 σ0 A a w' → Rep C.cap σ2 s.res v d → Good C w0 σ0 (S2.setR dst (gsh gs (.dat s.res))) (ρ.setR dst d) (fun u => A u ∨ u = dst) (a.put (some dst) v) w' := by
    intro S2 σ2 own2 h2 hr
    cases gs with
    | nil => exact ⟨_, _, _, h2.setReg ht (s := .dat s.res) hr hlt (fun _ _ e => by cases e)⟩
    | cons g gs' =>
      refine ⟨_, _, _, h2.setReg ht (s := .opt (g :: gs') (.dat s.res)) ⟨fun _ => hr, fun e => absurd (hh.symm.trans e) (by decide)⟩ hlt (fun gs s e => ?_)⟩
      cases e
      exact ⟨hgs, fun _ _ e => by cases e⟩
  cases hp : s.res.pure with
  | true =>
    simp only [cond_true]
    exact put (h.world (.refl σ) (h.ok.below hb) hb (fun _ _ _ hx => .inl hx) (fun _ _ hx => .inl hx)) (hres.pure hp)
  | false =>
    simp only [cond_false]
    exact put (h1.world hle hok hb hnc hnm) hres

theorem callF_upon {o : Oper} {f : Nat} {args : Array Value} {K : Act → World → Prop} {Q : Exit → Act → World → Prop} (hd : o.dst = some dst) (hx : (execOp a.eval o).run C.P w = .ok (.enter f args) w)
    (h : Calls C.P f args w (fun e w'' => match e with | .returned v => K (a.put (some dst) v) w'' | .panicked chain => Q (.panic chain) a w'' | .outgrown => LetsOut Q)) : o.wp C.P a w K Q := by
  simp only [Oper.wp, hx, Oper.upon, hd]
  refine h.mono fun e w'' hh => ?_
  cases e <;> exact hh

/-- A call of a function by its name: its guard holds. -/
theorem eCall_sound (h : Inv C S ρ σ own hv w0 σ0 A a w) (hC : CtxOK C σ0) (hcl : ClosOK C) (hΦ : FunsOK C Φ) (ht : ¬ A dst) (hlt : dst < a.tmps.size) (hgs : ∀ g, g ∈ gs → A g.1) (hg : holds gs ρ = true) {f : Nat} {args : Array Operand} {ts : Array TypeId} {r : St × Sh × List PI}
    (hr : eCall C S gs dst f args.toList = some r) {o : Oper} (hd : o.dst = some dst) (ho : o.op = .call { callee := .value (.func f), args := args, argTypes := ts }) : EOK C w0 σ0 Φ S ρ A a w o (r.1.setR dst (gsh gs r.2.1), r.2.2) := by
  simp only [eCall, Option.bind_eq_some_iff] at hr
  obtain ⟨s, hs, hr⟩ := hr
  split at hr
  case h_2 => cases hr
  rename_i hmode
  simp only [Option.bind_eq_some_iff] at hr
  obtain ⟨u, hu, hr⟩ := hr
  cases hsub : Ty.subs u.1 s.args <;> simp only [hsub, cond_true, cond_false] at hr
  · cases hr
  cases hr
  intro ρ' hrun K Q hK
  simp only [PI.runs, PI.run, hg, cond_true, Option.bind_eq_some_iff, Option.map_eq_some_iff] at hrun
  obtain ⟨ρ1, ⟨d, hd1, rfl⟩, hrun⟩ := hrun
  cases hrun
  have hfn := hΦ f _ d hd1 s hs
  refine callF_upon hd (run_callF hcl hs ho) ?_
  have hvals : args.map a.eval = (args.toList.map a.eval).toArray := by apply Array.ext'; rw [Array.toList_map]
  rw [hvals]
  have hee : (fun u => A u ∨ o.dst = some u) = (fun u => A u ∨ u = dst) := by funext u; rw [hd]; simp [eq_comm]
  rw [hee] at hK
  exact call_core h hC ht hlt hgs hg (js := objsOf S gs args.toList) hmode hfn (fun σ1 own1 _ h1 => uses_args h1 hC hg hu hsub) hK

theorem eCallC_sound (h : Inv C S ρ σ own hv w0 σ0 A a w) (hC : CtxOK C σ0) (hcl : ClosOK C) (hΦ : FunsOK C Φ) (ht : ¬ A dst) (hlt : dst < a.tmps.size) (hgs : ∀ g, g ∈ gs → A g.1) (hg : holds gs ρ = true) {x : Operand} {args : Array Operand} {ts : Array TypeId} {r : St × Sh × List PI}
    (hr : eCallC C S gs dst x args.toList = some r) {o : Oper} (hd : o.dst = some dst) (ho : o.op = .call { callee := .value x, args := args, argTypes := ts }) : EOK C w0 σ0 Φ S ρ A a w o (r.1.setR dst (gsh gs r.2.1), r.2.2) := by
  unfold eCallC at hr
  split at hr
  case h_2 => cases hr
  rename_i as r0 e hu0
  split at hr
  case h_1 => cases hr
  rename_i hit
  simp only [Option.bind_eq_some_iff] at hr
  obtain ⟨u, hu, hr⟩ := hr
  cases hsub : Ty.subs u.1 as <;> simp only [hsub, cond_true, cond_false] at hr
  · cases hr
  cases hr
  have hx := use_sound h hC hg hu0
  intro ρ' hrun K Q hK
  simp only [PI.runs, PI.run, hg, cond_true, Option.bind_eq_some_iff] at hrun
  obtain ⟨ρ1, hrun1, hrun⟩ := hrun
  cases hrun
  split at hrun1
  case h_2 => cases hrun1
  rename_i f caps hev
  simp only [Option.map_eq_some_iff] at hrun1
  obtain ⟨d, hd1, rfl⟩ := hrun1
  rw [hev] at hx
  generalize hav : a.eval x = xv at hx
  generalize hty : Ty.fn as r0 = ty at hx
  cases hx with
  | fn f cs vs ds hc h1 h2 hall =>
    cases hty
    have hs := hcl.1 f cs hc hit
    have hfn := hΦ f _ d hd1 _ hs
    refine callF_upon hd (run_callT hcl hs hav ho) ?_
    have hvals : args.map a.eval ++ vs.toArray = (args.toList.map a.eval ++ vs).toArray := by apply Array.ext'; simp
    rw [hvals]
    have hee : (fun u => A u ∨ o.dst = some u) = (fun u => A u ∨ u = dst) := by funext u; rw [hd]; simp [eq_comm]
    rw [hee] at hK
    refine call_core h hC ht hlt hgs hg (js := objsOf S gs args.toList) (s := ⟨cs.args ++ cs.caps, cs.res, .dat⟩) rfl hfn (fun σ1 own1 hle1 i1 => ?_) hK
    obtain ⟨g1, g2, g3⟩ := uses_args i1 hC hg hu hsub
    refine ⟨by simp only [List.length_append, g1, h1], by simp only [List.length_append, g2, h2], fun i t hi => ?_⟩
    rw [List.getElem?_append] at hi
    split at hi
    · rename_i hlt
      have := g3 i t hi
      rw [List.getD_eq_getElem?_getD, List.getD_eq_getElem?_getD, List.getElem?_append_left (by omega), List.getElem?_append_left (by omega)]
      simpa [List.getD_eq_getElem?_getD] using this
    · rename_i hge
      have := (hall _ t hi).mono hle1
      rw [List.getD_eq_getElem?_getD, List.getD_eq_getElem?_getD, List.getElem?_append_right (by omega), List.getElem?_append_right (by omega), g1, g2]
      simpa [List.getD_eq_getElem?_getD] using this

theorem eCallRow_sound (h : Inv C S ρ σ own hv w0 σ0 A a w) (hC : CtxOK C σ0) (hcl : ClosOK C) (hΦ : FunsOK C Φ) (ht : ¬ A dst) (hlt : dst < a.tmps.size) {f : Nat} {args : Array Operand} {ts : Array TypeId} {r : St × List PI}
    (hr : eCallRow C S dst f args.toList = some r) {o : Oper} (hd : o.dst = some dst) (ho : o.op = .call { callee := .value (.func f), args := args, argTypes := ts }) : EOK C w0 σ0 Φ S ρ A a w o r := by
  simp only [eCallRow, Option.bind_eq_some_iff] at hr
  obtain ⟨s, hs, hr⟩ := hr
  split at hr
  case h_2 => cases hr
  rename_i T e hmode
  simp only [Option.bind_eq_some_iff] at hr
  obtain ⟨u, hu, hr⟩ := hr
  cases hsub : Ty.subs u.1 s.args <;> simp only [hsub, cond_true, cond_false] at hr
  · cases hr
  cases hr
  intro ρ' hrun K Q hK
  have hgt : holds ([] : List (Nat × Bool)) ρ = true := rfl
  simp only [PI.runs, PI.run, hgt, cond_true, Option.bind_eq_some_iff, Option.map_eq_some_iff] at hrun
  obtain ⟨ρ1, ⟨d, hd1, rfl⟩, ρ2, g2, ρ3, g3, g4⟩ := hrun
  cases g2; cases g3; cases g4
  have hfn := hΦ f _ d hd1 s hs
  obtain ⟨σ1, own1, hle1, h1⟩ := Inv.fzs (objsOf S [] args.toList) h
  have hvals : args.map a.eval = (args.toList.map a.eval).toArray := by apply Array.ext'; rw [Array.toList_map]
  refine callF_upon hd (run_callF hcl hs ho) ?_
  rw [hvals]
  have hcall := hfn σ1 w (args.toList.map a.eval).toArray h1.ok (hC.mono h1.le) (by simpa using uses_args h1 hC rfl hu hsub)
  refine hcall.mono fun e' w' hh => ?_
  obtain ⟨v, σ', rfl, hle, hok, hb, hnc, hnm, hres⟩ := hh
  simp only [ResOK, hmode] at hres
  obtain ⟨cells, xs, rfl, hown, hel, hfree⟩ := hres
  refine hK _ _ ?_ (size_put _ _ _)
  have hee : (fun u => A u ∨ o.dst = some u) = (fun u => A u ∨ u = dst) := by funext u; rw [hd]; simp [eq_comm]
  rw [hee]
  have main : ∀ {S2 : St} {σ1 σ2 : Im} {own2 : Nat → Option Nat}, Inv C S2 ρ σ1 own2 hv w0 σ0 A a w → σ1.le σ2 → σ2.ok w' → (∀ k o x, σ2.c k o = some x → σ1.c k o = some x ∨ w.heap.size ≤ k) → (∀ k x, σ2.m k = some x → σ1.m k = some x ∨ w.heap.size ≤ k) → ElemsOK C.cap σ2 e cells xs → (∀ k, v.ownBlock = some k → (∀ o, σ2.c k o = none) ∧ σ2.m k = none) →
      Good C w0 σ0 (mkObj S2 dst (.row T e)) ((ρ.setO dst (.list xs)).setR dst .none) (fun u => A u ∨ u = dst) (a.put (some dst) v) w' := by
    intro S2 σ1 σ2 own2 h2 hle2 hok2 hnc2 hnm2 hel2 hfree2
    have hsz := h1.below.size
    have hnew := h2.newOσ dst (.row T e) (.list xs) v (fun k => decide (v.ownBlock = some k)) hle2 hok2 hnc2 hnm2 hb (fun k hk => hown.lt k (by simpa using hk)) (fun k hk => hfree2 k (by simpa using hk)) ⟨cells, xs, by simp [Env.setO, upd_same], by
          rw [upd_same]
          refine ⟨hown.1, ?_⟩
          rcases hown.2 with e1 | ⟨g, cap, cur, e1, e2, e3⟩
          · exact .inl e1
          · exact .inr ⟨g, cap, cur, e1, by omega, e3⟩, hel2, fun k hk => by rw [upd_same] at hk; simp [ownNew, hk]⟩
    have hput := hnew.setObj ht (j := dst) (v := v) (upd_same _ _ _) hlt
    have e : (S2.newO dst (.row T e)).ver dst = S2.ver dst + 1 := upd_same _ _ _
    rw [e] at hput
    exact ⟨_, _, _, hput⟩
  have eρ : ((ρ.setR dst (.list xs)).setO dst ((PE.r dst).ev (ρ.setR dst (.list xs)))).setR dst ((PE.con D.none).ev ((ρ.setR dst (.list xs)).setO dst ((PE.r dst).ev (ρ.setR dst (.list xs))))) = (ρ.setO dst (.list xs)).setR dst .none := by
    have : ∀ d1 d2 : D, upd (upd ρ.r dst d1) dst d2 = upd ρ.r dst d2 := by
      intro d1 d2; funext i; simp only [upd_apply]; split <;> rfl
    simp [Env.setR, Env.setO, PE.ev, upd_same, this]
  show Good C w0 σ0 _ _ _ _ _
  rw [eρ]
  cases hp : e.pure with
  | true =>
    simp only [cond_true]
    refine main h (.refl σ) (h.ok.below hb) (fun _ _ _ hx => .inl hx) (fun _ _ hx => .inl hx) ?_ (fun k hk => ?_)
    · obtain ⟨vs, k1, k2⟩ := hel
      exact ⟨vs, fun i x hx => (k1 i x hx).pure hp, k2⟩
    · obtain ⟨f1, f2⟩ := hfree k hk
      refine ⟨fun o => ?_, ?_⟩
      · cases hc : σ.c k o with
        | none => rfl
        | some x => have := hle.c _ _ _ (hle1.c _ _ _ hc); rw [f1 o] at this; cases this
      · cases hc : σ.m k with
        | none => rfl
        | some x => have := hle.m _ _ (hle1.m _ _ hc); rw [f2] at this; cases this
  | false =>
    simp only [cond_false]
    exact main h1 hle hok hnc hnm hel hfree

end
end Cx
