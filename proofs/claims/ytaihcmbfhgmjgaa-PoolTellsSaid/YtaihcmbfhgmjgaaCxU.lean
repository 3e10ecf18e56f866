/-
  One operation of a region: guards, what goes ahead of it, itself, what goes behind.
-/
import Derived.Test.YtaihcmbfhgmjgaaCxT
set_option linter.unusedSimpArgs false
set_option linter.unusedVariables false
namespace Cx
open Go Go.RowKit

inductive Gh where
  | fz (j : Nat) | fbox (b : Nat) | rereg (t j : Nat) | recell (b i j : Nat) | home (b i j : Nat) (T : TypeId)

def Gh.run (C : Ctx) (S : St) : Gh → Option (St × List PI)
  | .fz j => some (S.fz j, [])
  | .fbox b => freezeBox S b
  | .rereg t j => rehomeReg S t j
  | .recell b i j => rehomeCell S b i j
  | .home b i j T => homeCell C S b i j T

def ghosts (C : Ctx) : List Gh → St → Option (St × List PI)
  | [], S => some (S, [])
  | g :: gs, S => (g.run C S).bind fun r => (ghosts C gs r.1).map fun q => (q.1, r.2 ++ q.2)

theorem runs_append {Φ : Funs} : ∀ {a b : List PI} {ρ : Env}, PI.runs Φ (a ++ b) ρ = (PI.runs Φ a ρ).bind (PI.runs Φ b)
  | [], b, ρ => by simp [PI.runs]
  | x :: a, b, ρ => by
    simp only [List.cons_append, PI.runs]
    cases x.run Φ ρ with
    | none => rfl
    | some ρ1 => simp [runs_append (a := a) (b := b)]

/-- the guards of an operation: its own, and those under which its guard was computed -/
def gsOf (S : St) (ops : Array Oper) (o : Oper) : Option (List (Nat × Bool)) :=
  match o.guard with
  | none => some []
  | some (j, want) =>
    match (ops[j]?).bind (·.dst) with
    | some t =>
      match S.r t with
      | .dat .bool => some [(t, want)]
      | .opt gs (.dat .bool) => some ((t, want) :: gs)
      | _ => none
    | none => none

/-- objects whose data an operation hands on -/
def preObjs (S : St) (gs : List (Nat × Bool)) : Op → List Nat
  | .build _ ps => objsOf S gs (ps.toList.map (·.2))
  | .buildSlice _ _ ps => objsOf S gs (ps.toList.map (·.2))
  | .box _ x => objsOf S gs [x]
  | .pick _ x y => objsOf S gs [x, y]
  | .slice _ x _ _ _ => objsOf S gs [x]
  | .mapUpdate _ _ k v => objsOf S gs [k, v]
  | .insert _ _ k v => objsOf S gs [k, v]
  | .store _ x v => match shX S gs x with | .eptr .. => objsOf S gs [v] | _ => []
  | _ => []

def cellObjs : List Sh → List Nat
  | [] => []
  | .obj j _ :: r => j :: cellObjs r
  | _ :: r => cellObjs r

/-- boxes that a closure captures -/
def capBoxes (S : St) (gs : List (Nat × Bool)) : List Operand → List Nat
  | [] => []
  | x :: xs =>
    match shX S gs x with
    | .ptr j ver off => bif Nat.beq ver (S.ver j) && (match S.o j with | .box .. => true | _ => false) then j :: capBoxes S gs xs else capBoxes S gs xs
    | _ => capBoxes S gs xs

/-- a function that is handed objects -/
def obFn (C : Ctx) : Fn → Bool
  | .func f => (match C.sig f with | some s => isOb s.mode | none => false)
  | _ => false
def pre (C : Ctx) (S : St) (gs : List (Nat × Bool)) (op : Op) : List Gh :=
  match op with
  | .makeFunc fn _ caps =>
    bif obFn C fn then [] else (capBoxes S gs caps.toList).flatMap fun b => (match S.o b with | .box _ shs => (cellObjs shs).map .fz | _ => []) ++ [.fbox b]
  | .load T x =>
    match shX S gs x, isAggD C.P T, C.P.info? T with
    | .ptr j _ off, some true, some inf => (match S.o j with | .box _ shs => (cellObjs ((shs.drop off).take inf.size)).map .fz | _ => [])
    | _, _, _ => []
  | op => (preObjs S gs op).map .fz
/-- what is assigned to a register that holds data alone -/
def preFr (C : Ctx) (S : St) (gs : List (Nat × Bool)) (o : Oper) : List Gh :=
  match o.op, o.dst with
  | .assign x, some t => bif C.fr.any (Nat.beq t) then (objsOf S gs [x]).map .fz else []
  | _, _ => []

/-- the flat list of a type's cells' slice types -/
def cellTids (P : Program) : Nat → TypeId → List (Option TypeId)
  | 0, _ => []
  | n + 1, t =>
    match P.underlying t with
    | some (.struct fs) => fs.toList.flatMap fun f => cellTids P n f.type
    | some (.array len e) => (List.replicate len (cellTids P n e)).flatten
    | some (.slice e) => [some e]
    | _ => [none]

def homes (P : Program) (b off : Nat) (T : TypeId) : List Gh :=
  ((cellTids P 12 T).zipIdx).filterMap fun x => x.1.map fun e => .home b (off + x.2) (homeId b (off + x.2)) e

def keptHomes (nh : List Nat) (l : List Gh) : List Gh := l.filter fun g => match g with | .home _ _ j _ => !(nh.any (Nat.beq j)) | _ => true
def rehomes (b off n : Nat) : List Gh := (List.range n).map fun i => .recell b (off + i) (homeId b (off + i))

def post (C : Ctx) (S : St) (o : Oper) : List Gh :=
  match o.op, o.dst with
  | .assign _, some t => [.rereg t t]
  | .alloc T, some t => keptHomes C.nh (homes C.P t 0 T)
  | .store T x _, _ =>
    match shX S [] x with
    | .ptr j _ off => keptHomes C.nh (homes C.P j off T) ++ rehomes j off (match C.P.info? T with | some i => i.size | none => 0)
    | _ => []
  | _, _ => []

def notOpt : Sh → Bool
  | .opt .. => false
  | _ => true

/-- a zero that is assigned -/
def eZero (C : Ctx) (S : St) (dst : Nat) (T : TypeId) (x : Operand) : EffR :=
  match x with
  | .const v => (tyD C.P T).bind fun t => (zeroTy t).bind fun z => bif zeroOk t v then some (S.setR dst (.dat z.1), [.setR dst (.con z.2)]) else none
  | _ => none

/-- the operation itself -/
def core (C : Ctx) (S : St) (gs : List (Nat × Bool)) (o : Oper) : Option (St × List PI) :=
  match o.dst with
  | some dst =>
    match opQ C S gs dst o.op with
    | some r => bif notOpt r.1 then some (S.setR dst (gsh gs r.1), r.2) else none
    | none =>
      match o.op, gs with
      | .assign x, [] =>
        bif C.fr.any (Nat.beq dst) then
          match opMove C S [] dst x with
          | some r => some (S.setR dst r.1, r.2)
          | none => eZero C S dst o.type x
        else
        match eNil C S dst o.type x with
        | some r => some r
        | none =>
          match opMove C S [] dst x with
          | some r => some (S.setR dst r.1, r.2)
          | none => eZero C S dst o.type x
      | .alloc T, [] => eAlloc C S dst T
      | .box T x, [] => eBox C S dst T x
      | .buildSlice T n ps, gs =>
        match gs with
        | [] => eBuildSlice C S [] dst T n ps.toList
        | _ => eLit C S gs dst T n ps.toList
      | .makeSlice T l c, [] => eMakeSlice C S dst T l c
      | .makeMap T r, [] => eMakeMap C S dst T r
      | .call c, gs =>
        match c.callee, gs with
        | .builtin .append, [] =>
          match c.args.toList, c.argTypes.toList with
          | [s, x], [T, T'] => bif Nat.beq T T' then eAppend C S dst T s x else none
          | _, _ => none
        | .value (.func f), gs =>
          match eCall C S gs dst f c.args.toList with
          | some r => some (r.1.setR dst (gsh gs r.2.1), r.2.2)
          | none =>
            match gs with
            | [] =>
              match eCallRow C S dst f c.args.toList with
              | some r => some r
              | none => (eCallOb C S f c.args.toList []).map (obRes S (some dst))
            | _ => none
        | .value x, gs =>
          match eCallC C S gs dst x c.args.toList with
          | some r => some (r.1.setR dst (gsh gs r.2.1), r.2.2)
          | none =>
            match x, gs with
            | .tmp t, [] => (eCallObC C S t c.args.toList).map (obRes S (some dst))
            | _, _ => none
        | _, _ => none
      | .makeFunc fn first caps, [] => eMkClo C S dst fn first caps
      | _, _ => none
  | none =>
    match o.op, gs with
    | .store T x v, [] => eStore C S T x v
    | .mapUpdate T m k v, [] => eMapUpdate C S T m k v
    | .insert T m k v, [] => eMapUpdate C S T m k v
    | .panic _, [] => some (S, [.chk (.nt (.con (.bool true)))])
    | .call c, [] =>
      match c.callee with
      | .value (.func f) => (eCallOb C S f c.args.toList []).map (obRes S none)
      | .value (.tmp t) => (eCallObC C S t c.args.toList).map (obRes S none)
      | _ => none
    | _, _ => none

/-- instructions that set one register alone -/
def oneR (dst : Nat) (l : List PI) : Bool := l.all fun p => p.modR.all (Nat.beq dst) && p.modO.isEmpty

def guardOK (gs : List (Nat × Bool)) (dst : Option Nat) (l : List PI) : Bool :=
  match gs, dst with
  | [], _ => true
  | _, some d => oneR d l
  | _, none => false

def compOp0 (C : Ctx) (S : St) (ops : Array Oper) (o : Oper) : Option (St × List PI) :=
  (gsOf S ops o).bind fun gs =>
  (ghosts C (pre C S gs o.op ++ preFr C S gs o) S).bind fun r1 =>
  (core C r1.1 gs o).bind fun r2 =>
  (ghosts C (post C r2.1 o) r2.1).bind fun r3 =>
  bif guardOK gs o.dst r2.2 then some (r3.1, r1.2 ++ r2.2 ++ r3.2) else none

/-- what cannot be compiled is never come to -/
def stuckI : PI := .chk (.con (.v (.bool false)))
def compOpB (C : Ctx) (S : St) (ops : Array Oper) (o : Oper) : Option (St × List PI) :=
  match compOp0 C S ops o with
  | some r => some r
  | none => some (match o.dst with | some d => S.setR d .none | none => S, [stuckI])

section
variable {C : Ctx} {S : St} {ρ : Env} {σ : Im} {own : Nat → Option Nat} {hv : Nat → Value} {w0 : World} {σ0 : Base} {A : Nat → Prop} {a : Act} {w : World} {gs : List (Nat × Bool)} {Φ : Funs} {dst : Nat}

theorem Gh.sound {g : Gh} {r : St × List PI} (h : Good C w0 σ0 S ρ A a w) (hr : g.run C S = some r) : GOK C w0 σ0 Φ S ρ A a w r := by
  obtain ⟨σ, own, hv, h⟩ := h
  cases g with
  | fz j =>
    simp only [Gh.run, Option.some.injEq] at hr
    subst hr
    intro ρ' hrun
    rw [runs0 hrun]
    obtain ⟨σ', own', _, h'⟩ := h.fz j
    exact ⟨σ', own', hv, h'⟩
  | fbox b => exact freezeBox_sound h hr
  | rereg t j => exact rehomeReg_sound h hr
  | recell b i j => exact rehomeCell_sound h hr
  | home b i j T => exact homeCell_sound h hr

theorem ghosts_sound : ∀ (l : List Gh) {S : St} {ρ ρ' : Env} {r : St × List PI}, Good C w0 σ0 S ρ A a w → ghosts C l S = some r → PI.runs Φ r.2 ρ = some ρ' → Good C w0 σ0 r.1 ρ' A a w
  | [], S, ρ, ρ', r, h, hr, hrun => by
    simp only [ghosts, Option.some.injEq] at hr
    subst hr
    rw [runs0 hrun]; exact h
  | g :: l, S, ρ, ρ', r, h, hr, hrun => by
    simp only [ghosts, Option.bind_eq_some_iff, Option.map_eq_some_iff] at hr
    obtain ⟨q, hq, q2, hq2, rfl⟩ := hr
    simp only [runs_append, Option.bind_eq_some_iff] at hrun
    obtain ⟨ρ1, h1, h2⟩ := hrun
    exact ghosts_sound (r := q2) l (Gh.sound (Φ := Φ) h hq ρ1 h1) hq2 h2

/-- The guards hold just where the operation is carried out. -/
theorem gsOf_sound (h : Good C w0 σ0 S ρ A a w) {ops : Array Oper} {o : Oper} (hg : gsOf S ops o = some gs) : Region.wanted o (yielded ops a.tmps) = holds gs ρ := by
  obtain ⟨σ, own, hv, h⟩ := h
  unfold gsOf at hg
  unfold Region.wanted
  split at hg
  · rename_i e; cases hg; simp [e, holds]
  · rename_i j want e
    simp only [e]
    split at hg
    case h_2 => cases hg
    rename_i t ht
    have hreg := h.regs t
    have hy : ∀ v, a.tmps.getD t undef = v → (∀ b, v = .bool b → yielded ops a.tmps j = some b) ∧ (v = undef → yielded ops a.tmps j = none) := by
      intro v hv'
      unfold yielded
      rw [ht]
      simp only [Option.bind_some]
      rw [Array.getD_eq_getD_getElem?] at hv'
      cases hget : a.tmps[t]? with
      | none => rw [hget] at hv'; simp at hv'; subst hv'; exact ⟨fun b e => absurd e (by simp [undef]), fun _ => rfl⟩
      | some u => rw [hget] at hv'; simp at hv'; subst hv'; exact ⟨fun b e => by subst e; rfl, fun e => by subst e; rfl⟩
    split at hg
    · rename_i es
      cases hg
      rw [es] at hreg
      obtain ⟨b, hb1, hb2⟩ := Rep.bool_inv hreg
      rw [(hy _ hb1).1 b rfl]
      simp [holds, hb2, D.b_bool]
    · rename_i gs' es
      cases hg
      rw [es] at hreg
      simp only [holds, List.all_cons]
      cases hh : holds gs' ρ with
      | true =>
        obtain ⟨b, hb1, hb2⟩ := Rep.bool_inv (hreg.1 hh)
        rw [(hy _ hb1).1 b rfl]
        unfold holds at hh
        rw [hh, hb2]
        simp [D.b_bool]
      | false =>
        rw [(hy _ (hreg.2 hh)).2 rfl]
        unfold holds at hh
        rw [hh]; simp
    · cases hg

theorem gsOf_A (h : Good C w0 σ0 S ρ A a w) {ops : Array Oper} {o : Oper} (hg : gsOf S ops o = some gs) (hj : ∀ j want t, o.guard = some (j, want) → (ops[j]?).bind (·.dst) = some t → A t) : ∀ g, g ∈ gs → A g.1 := by
  obtain ⟨σ, own, hv, h⟩ := h
  unfold gsOf at hg
  split at hg
  · cases hg; simp
  · rename_i j want e
    split at hg
    case h_2 => cases hg
    rename_i t ht
    have hA := hj j want t e ht
    split at hg
    · cases hg; intro g hm; simp at hm; subst hm; exact hA
    · rename_i gs' es
      cases hg
      intro g hm
      rcases List.mem_cons.1 hm with e' | hm'
      · subst e'; exact hA
      · exact (h.opts t gs' _ es).1 g hm'
    · cases hg
theorem opQ_sound (h : Inv C S ρ σ own hv w0 σ0 A a w) (hC : CtxOK C σ0) (hg : holds gs ρ = true) {o : Oper} {r : Sh × List PI} (hr : opQ C S gs dst o.op = some r) : QOK C S ρ σ hv Φ dst a w o r := by
  unfold opQ at hr
  split at hr
  · rename_i x e; exact opMove_sound h hC hg hr (.inl e)
  · rename_i c x y e; exact opPick_sound h hC hg hr e
  · rename_i op T x y T' e; exact opBin_sound h hC hg hr e
  · rename_i op T x e; exact opUn_sound h hC hg hr e
  · rename_i s d x e; exact opConv_sound h hC hg hr e
  · rename_i T x e; exact opLoad_sound h hC hg hr e
  · rename_i T x i e; exact opFieldAddr_sound h hC hg hr e
  · rename_i T x i e; exact opField_sound h hC hg hr e
  · rename_i T x i e; exact opIndexAddr_sound h hC hg hr e
  · rename_i T x i e; exact opIndex_sound h hC hg hr e
  · rename_i x i e; exact opExtract_sound h hC hg hr e
  · rename_i T m k ok e; exact opLookup_sound h hC hg hr e
  · rename_i T x lo hi mx e; exact opSlice_sound h hC hg hr e
  · rename_i f a b e; exact opFunc_sound h hC hg hr e
  · rename_i T ps e; exact opBuild_sound h hC hg hr e
  · rename_i x e; exact opNil_sound h hC hg hr e
  · cases hr
    intro ρ' hrun
    have := (runs2 hg hrun).1
    cases this
  · rename_i c e
    split at hr
    · rename_i x T hc ha ht
      refine opLen_sound h hC hg hr ?_
      rw [e]
      cases c with | mk callee args argTypes =>
      simp only at hc ha ht
      have h1 : args = #[x] := by rw [← Array.toList_inj]; exact ha
      have h2 : argTypes = #[T] := by rw [← Array.toList_inj]; exact ht
      rw [hc, h1, h2]
    · rename_i x y hc ha
      refine opMin_sound (ts := c.argTypes) h hC hg hr ?_
      rw [e]
      cases c with | mk callee args argTypes =>
      simp only at hc ha
      have h1 : args = #[x, y] := by rw [← Array.toList_inj]; exact ha
      rw [hc, h1]; rfl
    · rename_i x y hc ha
      refine opMin_sound (ts := c.argTypes) h hC hg hr ?_
      rw [e]
      cases c with | mk callee args argTypes =>
      simp only at hc ha
      have h1 : args = #[x, y] := by rw [← Array.toList_inj]; exact ha
      rw [hc, h1]; rfl
    · cases hr
  · cases hr

theorem eZero_sound (h : Inv C S ρ σ own hv w0 σ0 A a w) (ht : ¬ A dst) (hlt : dst < a.tmps.size) {T : TypeId} {x : Operand} {r : St × List PI} (hr : eZero C S dst T x = some r) {o : Oper} (hd : o.dst = some dst) (ho : o.op = .assign x) : EOK C w0 σ0 Φ S ρ A a w o r := by
  unfold eZero at hr
  split at hr
  case h_2 => cases hr
  rename_i v
  simp only [Option.bind_eq_some_iff] at hr
  obtain ⟨t, _, z, hz, hr⟩ := hr
  cases hc : zeroOk t v <;> simp only [hc, cond_true, cond_false] at hr
  · cases hr
  cases hr
  have hrep := (zeroTy_sound (cap := C.cap) (σ := σ) hz hc).1
  refine EOK.value hd fun ρ' hrun => ⟨v, w, by simp [execOp, ho, Act.eval], ?_⟩
  have hρ : ρ' = ρ.setR dst z.2 := by simp [PI.runs, PI.run, PE.ev] at hrun; exact hrun.symm
  subst hρ
  exact ⟨_, _, _, h.setReg ht (s := .dat z.1) hrep hlt (fun _ _ e => by cases e)⟩

theorem core_sound (h : Inv C S ρ σ own hv w0 σ0 A a w) (hC : CtxOK C σ0) (hcl : ClosOK C) (hΦ : FunsOK C Φ) {o : Oper} (ht : ∀ d, o.dst = some d → ¬ A d ∧ d < a.tmps.size) (hgs : ∀ g, g ∈ gs → A g.1) (hg : holds gs ρ = true) {r : St × List PI}
    (hr : core C S gs o = some r) : EOK C w0 σ0 Φ S ρ A a w o r := by
  unfold core at hr
  split at hr
  · rename_i dst hd
    obtain ⟨ht1, ht2⟩ := ht dst hd
    split at hr
    · rename_i q hq
      cases hno : notOpt q.1 <;> simp only [hno, cond_true, cond_false] at hr
      · cases hr
      cases hr
      have hqok := opQ_sound (Φ := Φ) h hC hg hq
      cases gs with
      | nil => exact hqok.eff h ht1 ht2 hd
      | cons g gs' => exact hqok.effG h ht1 ht2 hgs hg hd
    · rename_i hnone
      clear hnone
      split at hr
      · rename_i x e
        have mv : ∀ r, (match opMove C S [] dst x with | some r => some (S.setR dst r.1, r.2) | none => eZero C S dst o.type x) = some r → EOK C w0 σ0 Φ S ρ A a w o r := by
          intro r hr
          split at hr
          · rename_i q hq; cases hr; exact (opMove_sound (Φ := Φ) h hC hg hq (.inr e)).eff h ht1 ht2 hd
          · exact eZero_sound h ht1 ht2 hr hd e
        cases hfr : C.fr.any (Nat.beq dst) <;> simp only [hfr, cond_true, cond_false] at hr
        · split at hr
          · rename_i q hq; cases hr; exact eNil_sound h hC ht1 ht2 hq hd e
          · exact mv r hr
        · exact mv r hr
      · rename_i T e; exact eAlloc_sound h ht1 ht2 hr hd e
      · rename_i T x e; exact eBox_sound h hC ht1 ht2 hr hd e
      · rename_i T n ps e
        split at hr
        · exact eBuildSlice_sound h hC ht1 ht2 hr hd e
        · exact eLit_sound h hC ht1 ht2 hgs hg hr hd e
      · rename_i T l c e; exact eMakeSlice_sound h hC ht1 ht2 hr hd e
      · rename_i T m e; exact eMakeMap_sound h ht1 ht2 hr hd e
      · rename_i c e
        cases c with | mk callee args argTypes =>
        split at hr
        · rename_i hc
          simp only at hc
          split at hr
          · rename_i s x T T' ha htt
            simp only at ha htt
            cases hT : Nat.beq T T' <;> simp only [hT, cond_true, cond_false] at hr
            · cases hr
            have hT' := Nat.eq_of_beq_eq_true hT
            subst hT'
            refine eAppend_sound h hC ht1 ht2 hr hd ?_
            have h1 : args = #[s, x] := by rw [← Array.toList_inj]; exact ha
            have h2 : argTypes = #[T, T] := by rw [← Array.toList_inj]; exact htt
            rw [e, hc, h1, h2]
          · cases hr
        · rename_i f hc
          simp only at hc
          split at hr
          · rename_i q hq
            cases hr
            exact eCall_sound h hC hcl hΦ ht1 ht2 hgs hg hq hd (by rw [e, hc])
          · split at hr
            · split at hr
              · rename_i q hq; cases hr; exact eCallRow_sound h hC hcl hΦ ht1 ht2 hq hd (by rw [e, hc])
              · simp only [Option.map_eq_some_iff] at hr
                obtain ⟨q, hq, rfl⟩ := hr
                rw [← hd]
                exact eCallOb_sound h hC hcl hΦ ht hq (by rw [e, hc])
            · cases hr
        · rename_i x hnf hc
          simp only at hc
          split at hr
          · rename_i q hq
            cases hr
            exact eCallC_sound h hC hcl hΦ ht1 ht2 hgs hg hq hd (by rw [e, hc])
          · split at hr
            · simp only [Option.map_eq_some_iff] at hr
              obtain ⟨q, hq, rfl⟩ := hr
              rw [← hd]
              exact eCallObC_sound h hC hcl hΦ ht hq (by rw [e, hc])
            · cases hr
        · cases hr
      · rename_i fn first caps e; exact eMkClo_sound h ht1 ht2 hr hd e
      · cases hr
  · rename_i hd
    split at hr
    · rename_i T x v e; exact eStore_sound h hC hr hd e
    · rename_i T m k v e; exact eMapUpdate_sound h hC hr hd (.inl e)
    · rename_i T m k v e; exact eMapUpdate_sound h hC hr hd (.inr e)
    · cases hr
      intro ρ' hrun
      simp [PI.runs, PI.run, PE.ev, D.bool, D.b] at hrun
    · rename_i c e
      cases c with | mk callee args argTypes =>
      split at hr
      · rename_i f hc
        simp only at hc
        simp only [Option.map_eq_some_iff] at hr
        obtain ⟨q, hq, rfl⟩ := hr
        rw [← hd]
        exact eCallOb_sound h hC hcl hΦ ht hq (by rw [e, hc])
      · rename_i t hc
        simp only at hc
        simp only [Option.map_eq_some_iff] at hr
        obtain ⟨q, hq, rfl⟩ := hr
        rw [← hd]
        exact eCallObC_sound h hC hcl hΦ ht hq (by rw [e, hc])
      · cases hr
    · cases hr

theorem core_guard {g : Nat × Bool} {gs' : List (Nat × Bool)} {o : Oper} {r : St × List PI} (hr : core C S (g :: gs') o = some r) :
    ∃ dst S2 s, o.dst = some dst ∧ r.1 = S2.setR dst (.opt (g :: gs') s) ∧ ((∃ js, S2 = S.fzs js) ∨ ∃ j, S2 = S.newO j .dead) ∧ (∀ gs s', s ≠ .opt gs s') ∧ (∀ x, o.op ≠ .assign x) ∧ (∀ T, o.op ≠ .alloc T) ∧ ∀ T x v, o.op ≠ .store T x v := by
  unfold core at hr
  split at hr
  · rename_i dst hd
    split at hr
    · rename_i q hq
      cases hno : notOpt q.1 <;> simp only [hno, cond_true, cond_false] at hr
      · cases hr
      cases hr
      refine ⟨dst, S, q.1, hd, rfl, .inl ⟨[], rfl⟩, (fun gs s' e => by rw [e] at hno; cases hno), fun x e => ?_, fun T e => ?_, fun T x v e => ?_⟩ <;> (rw [e] at hq; simp [opQ] at hq)
    · rename_i hnone
      clear hnone
      split at hr
      case h_4 =>
        rename_i T n ps e
        split at hr
        · rename_i hx; cases hx
        · unfold eLit at hr
          split at hr
          case h_2 => cases hr
          simp only [Option.bind_eq_some_iff] at hr
          obtain ⟨e0, he0, hr⟩ := hr
          split at hr
          · cases hr
            exact ⟨dst, _, .dat (.slice e0.rol), hd, rfl, .inr ⟨dst, rfl⟩, (fun _ _ e => by cases e), (fun x e' => by rw [e] at e'; cases e'), (fun x e' => by rw [e] at e'; cases e'), (fun _ _ _ e' => by rw [e] at e'; cases e')⟩
          · cases hr
      case h_7 =>
        rename_i c e
        split at hr
        · rename_i hx; cases hx
        · rename_i f hc
          split at hr
          · rename_i q hq
            cases hr
            simp only [eCall, Option.bind_eq_some_iff] at hq
            obtain ⟨s, hs, hq⟩ := hq
            split at hq
            case h_2 => cases hq
            simp only [Option.bind_eq_some_iff] at hq
            obtain ⟨u, hu, hq⟩ := hq
            cases hsub : Ty.subs u.1 s.args <;> simp only [hsub, cond_true, cond_false] at hq
            · cases hq
            cases hq
            refine ⟨dst, _, .dat s.res, hd, rfl, ?_, (fun _ _ e => by cases e), (fun x e' => by rw [e] at e'; cases e'), (fun x e' => by rw [e] at e'; cases e'), (fun _ _ _ e' => by rw [e] at e'; cases e')⟩
            left
            cases s.res.pure
            · exact ⟨_, rfl⟩
            · exact ⟨[], rfl⟩
          · cases hr
        · rename_i x hnf hc
          have hr : ∃ q, eCallC C S (g :: gs') dst x c.args.toList = some q ∧ (q.1.setR dst (gsh (g :: gs') q.2.1), q.2.2) = r := by
            split at hr
            · rename_i q hq; cases hr; exact ⟨q, hq, rfl⟩
            · split at hr
              all_goals (first | (cases hr; done) | (rename_i hx; cases hx; done) | (rename_i hx _; cases hx; done) | (rename_i hx _ _; cases hx; done) | (rename_i hx; exact absurd hx (by simp)))
          obtain ⟨q, hq, rfl⟩ := hr
          unfold eCallC at hq
          split at hq
          case h_2 => cases hq
          rename_i as r0 ee hu0
          split at hq
          case h_1 => cases hq
          simp only [Option.bind_eq_some_iff] at hq
          obtain ⟨u, hu, hq⟩ := hq
          cases hsub : Ty.subs u.1 as <;> simp only [hsub, cond_true, cond_false] at hq
          · cases hq
          cases hq
          refine ⟨dst, _, .dat r0, hd, rfl, ?_, (fun _ _ e => by cases e), (fun x e' => by rw [e] at e'; cases e'), (fun x e' => by rw [e] at e'; cases e'), (fun _ _ _ e' => by rw [e] at e'; cases e')⟩
          left
          cases r0.pure
          · exact ⟨_, rfl⟩
          · exact ⟨[], rfl⟩
        · cases hr
      all_goals (first | (cases hr; done) | (rename_i hx; cases hx; done) | (rename_i hx _; cases hx; done))
  · split at hr
    all_goals (first | (cases hr; done) | (rename_i hx; cases hx; done) | (rename_i hx _; cases hx; done))

theorem holds_congr {ρ ρ1 : Env} : ∀ {l : List (Nat × Bool)}, (∀ g, g ∈ l → ρ1.r g.1 = ρ.r g.1) → holds l ρ1 = holds l ρ
  | [], _ => rfl
  | x :: l, h => by
    have ih := holds_congr (l := l) fun y hy => h y (List.mem_cons_of_mem _ hy)
    unfold holds at ih ⊢
    simp only [List.all_cons]; rw [ih, h x (List.mem_cons_self ..)]

theorem ghosts_noR : ∀ (l : List Gh) {S : St} {r : St × List PI}, ghosts C l S = some r → ∀ t, t ∉ r.2.flatMap PI.modR
  | [], S, r, hr => by simp only [ghosts, Option.some.injEq] at hr; subst hr; simp
  | g :: l, S, r, hr => by
    simp only [ghosts, Option.bind_eq_some_iff, Option.map_eq_some_iff] at hr
    obtain ⟨q, hq, q2, hq2, rfl⟩ := hr
    have ih := ghosts_noR l hq2
    have hg : ∀ t, t ∉ q.2.flatMap PI.modR := by
      cases g with
      | fz j => simp only [Gh.run, Option.some.injEq] at hq; subst hq; simp
      | fbox b =>
        simp only [Gh.run, freezeBox] at hq
        split at hq
        case h_2 => cases hq
        simp only [Option.bind_eq_some_iff] at hq
        obtain ⟨x, hx, hq⟩ := hq
        rename_i ag shs eo
        cases ag <;> simp only [cond_true, cond_false] at hq
        · split at hq
          · cases hq; simp [PI.modR]
          · cases hq
        · cases hq; simp [PI.modR]
      | rereg t j =>
        simp only [Gh.run, rehomeReg] at hq
        split at hq
        · rename_i j' ver es
          cases hb : (Nat.beq ver (S.ver j') && isRowOrMp (S.o j') && !Nat.beq j' j) <;> simp only [hb, cond_true, cond_false] at hq <;> cases hq <;> simp [PI.modR]
        · cases hq; simp
      | recell b i j =>
        simp only [Gh.run, rehomeCell] at hq
        split at hq
        · split at hq
          · rename_i ag shs eo j' ver es
            cases hb : (Nat.beq ver (S.ver j') && isRowOrMp (S.o j') && !Nat.beq j' j && !Nat.beq b j && !Nat.beq b j') <;> simp only [hb, cond_true, cond_false] at hq <;> cases hq <;> simp [PI.modR]
          · cases hq; simp
        · cases hq; simp
      | home b i j T =>
        simp only [Gh.run, homeCell] at hq
        split at hq
        · split at hq
          · cases hb : (!Nat.beq b j) <;> simp only [hb, cond_true, cond_false] at hq <;> cases hq <;> simp [PI.modR]
          · cases hq; simp
        · cases hq; simp
    intro t hm
    rw [List.flatMap_append, List.mem_append] at hm
    exact hm.elim (hg t) (ih t)

theorem compOp0_sound (h : Good C w0 σ0 S ρ A a w) (hC : CtxOK C σ0) (hcl : ClosOK C) (hΦ : FunsOK C Φ) {ops : Array Oper} {o : Oper} (ht : ∀ d, o.dst = some d → ¬ A d ∧ d < a.tmps.size)
    (hj : ∀ j want t, o.guard = some (j, want) → (ops[j]?).bind (·.dst) = some t → A t) {r : St × List PI} (hr : compOp0 C S ops o = some r) {ρ' : Env} (hrun : PI.runs Φ r.2 ρ = some ρ')
    {K : Act → World → Prop} {Q : Exit → Act → World → Prop} (hK : ∀ a' w', Good C w0 σ0 r.1 ρ' (fun u => A u ∨ o.dst = some u) a' w' → a'.tmps.size = a.tmps.size → K a' w') :
    if Region.wanted o (yielded ops a.tmps) then o.wp C.P a w K Q else K (a.put o.dst undef) w := by
  simp only [compOp0, Option.bind_eq_some_iff] at hr
  obtain ⟨gs, hgs, r1, hr1, r2, hr2, r3, hr3, hr⟩ := hr
  have hgA := gsOf_A h hgs hj
  rw [gsOf_sound h hgs]
  cases hc : guardOK gs o.dst r2.2 <;> simp only [hc, cond_true, cond_false] at hr
  · cases hr
  cases hr
  simp only [runs_append, Option.bind_eq_some_iff] at hrun
  obtain ⟨ρ2, ⟨ρ1, hρ1, hρ2⟩, hρ3⟩ := hrun
  have h1 := ghosts_sound _ h hr1 hρ1
  have h1' := h1
  obtain ⟨σ1, own1, hv1, i1⟩ := h1'
  have hholds : holds gs ρ1 = holds gs ρ := by
    cases gs with
    | nil => rfl
    | cons g gs' =>
      -- what goes ahead sets no register
      have hb := (PI.runs_but hρ1).r
      have : ∀ x, x ∈ (g :: gs') → ρ1.r x.1 = ρ.r x.1 := fun x hm => hb x.1 (by
        intro hmem
        exact ghosts_noR _ hr1 x.1 hmem)
      exact holds_congr this
  cases hh : holds gs ρ with
  | true =>
    simp only [if_true]
    rw [hh] at hholds
    refine core_sound i1 hC hcl hΦ ht hgA hholds hr2 ρ2 hρ2 K Q (fun a' w' hg' hsz => ?_)
    exact hK a' w' (ghosts_sound (r := r3) _ hg' hr3 hρ3) hsz
  | false =>
    simp only [Bool.false_eq_true, if_false]
    rw [hh] at hholds
    cases gs with
    | nil => simp [holds] at hh
    | cons g gs' =>
      obtain ⟨dst, S2, s, hd, hS, hS2, hns, n1, n2, n3⟩ := core_guard hr2
      obtain ⟨t1, t2⟩ := ht dst hd
      have hpost : post C r2.1 o = [] := by
        unfold post
        split
        · rename_i x t e _; exact absurd e (n1 x)
        · rename_i T t e _; exact absurd e (n2 T)
        · rename_i T x v e; exact absurd e (n3 T x v)
        · rfl
      rw [hpost] at hr3
      simp only [ghosts, Option.some.injEq] at hr3
      subst hr3
      have := runs0 hρ3
      subst this
      obtain ⟨σ2, own2, i2⟩ : ∃ σ2 own2, Inv C S2 ρ1 σ2 own2 hv1 w0 σ0 A a w := by
        rcases hS2 with ⟨js, rfl⟩ | ⟨j, rfl⟩
        · obtain ⟨σ2, own2, _, i2⟩ := Inv.fzs js i1; exact ⟨σ2, own2, i2⟩
        · exact ⟨σ1, own1, i1.kill j⟩
      have hpass := i2.passed t1 t2 hgA hholds (s := s) hns (ρ'.r dst)
      have hρe : ρ1.setR dst (ρ'.r dst) = ρ' := by
        have hb := PI.runs_but hρ2
        simp only [guardOK, hd] at hc
        unfold oneR at hc
        rw [List.all_eq_true] at hc
        have e1 : ∀ t, t ≠ dst → ρ'.r t = ρ1.r t := fun t hne => hb.r t (fun hm => by
          obtain ⟨p, hp, hpt⟩ := List.mem_flatMap.1 hm
          have := hc p hp
          simp only [Bool.and_eq_true] at this
          have := List.all_eq_true.1 this.1 t hpt
          exact hne (Nat.eq_of_beq_eq_true this).symm)
        have e2 : ∀ t, ρ'.o t = ρ1.o t := fun t => hb.o t (fun hm => by
          obtain ⟨p, hp, hpt⟩ := List.mem_flatMap.1 hm
          have := hc p hp
          simp only [Bool.and_eq_true] at this
          have h9 := List.isEmpty_iff.1 this.2
          rw [h9] at hpt; cases hpt)
        have r1 : upd ρ1.r dst (ρ'.r dst) = ρ'.r := by
          funext t
          rw [upd_apply]; split
          · rename_i e; subst e; rfl
          · rename_i hne; exact (e1 t hne).symm
        have r2 : ρ1.o = ρ'.o := funext fun t => (e2 t).symm
        cases ρ' with | mk a b => simp only [Env.setR] at r1 r2 ⊢; rw [r1, r2]
      rw [hρe] at hpass
      have hee : (fun u => A u ∨ o.dst = some u) = (fun u => A u ∨ u = dst) := by funext u; rw [hd]; simp [eq_comm]
      rw [hee] at hK
      rw [hd]
      refine hK _ _ ?_ (size_put _ _ _)
      simp only
      rw [hS]
      exact ⟨_, _, _, hpass⟩

theorem compOpB_sound (h : Good C w0 σ0 S ρ A a w) (hC : CtxOK C σ0) (hcl : ClosOK C) (hΦ : FunsOK C Φ) {ops : Array Oper} {o : Oper} (ht : ∀ d, o.dst = some d → ¬ A d ∧ d < a.tmps.size)
    (hj : ∀ j want t, o.guard = some (j, want) → (ops[j]?).bind (·.dst) = some t → A t) {r : St × List PI} (hr : compOpB C S ops o = some r) {ρ' : Env} (hrun : PI.runs Φ r.2 ρ = some ρ')
    {K : Act → World → Prop} {Q : Exit → Act → World → Prop} (hK : ∀ a' w', Good C w0 σ0 r.1 ρ' (fun u => A u ∨ o.dst = some u) a' w' → a'.tmps.size = a.tmps.size → K a' w') :
    if Region.wanted o (yielded ops a.tmps) then o.wp C.P a w K Q else K (a.put o.dst undef) w := by
  unfold compOpB at hr
  split at hr
  · rename_i q hq; cases hr; exact compOp0_sound h hC hcl hΦ ht hj hq hrun hK
  · cases hr
    simp [PI.runs, PI.run, stuckI, PE.ev, D.b_bool] at hrun
end
end Cx
