/-
  Code: sequences, choices, blocks, loops.
-/
import Derived.Test.YtjkeifcibnadcaaCxZ
import Derived.LoopN
set_option linter.unusedSimpArgs false
set_option linter.unusedVariables false
namespace Cx
open Go Go.RowKit

/-- sets of registers as bits -/
def bitB (m t : Nat) : Bool := !Nat.beq (Nat.land 1 (Nat.shiftRight m t)) 0
theorem bitB_eq (m t : Nat) : bitB m t = m.testBit t := by
  unfold bitB Nat.testBit
  show (!Nat.beq (1 &&& (m >>> t)) 0) = ((1 &&& (m >>> t)) != 0)
  generalize 1 &&& (m >>> t) = x
  cases x <;> rfl
def bit1 (t : Nat) : Nat := Nat.shiftLeft 1 t
theorem bit1_self (t : Nat) : bitB (bit1 t) t = true := by
  rw [bitB_eq]; show (1 <<< t).testBit t = true
  simp [Nat.testBit_shiftLeft]
theorem bitB_or (m k t : Nat) : bitB (Nat.lor m k) t = (bitB m t || bitB k t) := by
  simp only [bitB_eq]; exact Nat.testBit_or m k t

def PI.mask : PI → Nat
  | .setR t _ => bit1 t | .call _ t _ _ => bit1 t | .callc _ t _ _ => bit1 t | _ => 0
def masks : List PI → Nat
  | [] => 0
  | p :: l => Nat.lor p.mask (masks l)
def PI.objs : PI → List Nat
  | .setO j _ => [j] | .mcall j _ _ => [j] | _ => []
def memB (l : List Nat) (x : Nat) : Bool := l.any (Nat.beq x)
def unionL (a b : List Nat) : List Nat := a.foldl (fun acc x => bif memB acc x then acc else x :: acc) b
def objss (l : List PI) : List Nat := l.foldl (fun acc p => unionL p.objs acc) []

theorem memB_eq (l : List Nat) (x : Nat) : memB l x = true ↔ x ∈ l := by
  unfold memB
  rw [List.any_eq_true]
  constructor
  · rintro ⟨y, hy, h⟩; rw [Nat.eq_of_beq_eq_true h]; exact hy
  · intro h; exact ⟨x, h, Nat.beq_refl x⟩
theorem mem_unionL {x : Nat} : ∀ {a b : List Nat}, x ∈ unionL a b ↔ x ∈ a ∨ x ∈ b
  | [], b => by simp [unionL]
  | y :: a, b => by
    have ih := @mem_unionL x a (bif memB b y then b else y :: b)
    have e : unionL (y :: a) b = unionL a (bif memB b y then b else y :: b) := rfl
    rw [e, ih]
    cases hb : memB b y
    · simp [or_assoc, or_left_comm]
    · have := (memB_eq b y).1 hb
      simp only [cond_true, List.mem_cons]
      constructor
      · rintro (h | h)
        · exact .inl (.inr h)
        · exact .inr h
      · rintro ((h | h) | h)
        · subst h; exact .inr this
        · exact .inl h
        · exact .inr h
theorem mem_objss {x : Nat} (l : List PI) (h : x ∈ l.flatMap PI.modO) : x ∈ objss l := by
  have key : ∀ (l : List PI) (acc : List Nat), (x ∈ l.flatMap PI.modO ∨ x ∈ acc) → x ∈ l.foldl (fun acc p => unionL p.objs acc) acc := by
    intro l
    induction l with
    | nil => intro acc h; simpa using h
    | cons p l ih =>
      intro acc h
      refine ih _ ?_
      rw [List.flatMap_cons, List.mem_append] at h
      rcases h with (h | h) | h
      · refine .inr (mem_unionL.2 (.inl ?_))
        cases p <;> simp_all [PI.modO, PI.objs]
      · exact .inl h
      · exact .inr (mem_unionL.2 (.inr h))
  exact key l [] (.inl h)
theorem masks_ok {t : Nat} : ∀ (l : List PI), t ∈ l.flatMap PI.modR → bitB (masks l) t = true
  | [], h => by simp at h
  | p :: l, h => by
    rw [List.flatMap_cons, List.mem_append] at h
    simp only [masks, bitB_or, Bool.or_eq_true]
    rcases h with h | h
    · left
      cases p <;> simp [PI.modR] at h <;> subst h <;> exact bit1_self _
    · exact .inr (masks_ok l h)

structure Res2 where
  pc : PC
  out : Option Snap
  ex : List (Nat × Snap)
  mr : Nat
  mo : List Nat
  deriving Inhabited

def meetO : Option Snap → Option Snap → Option Snap
  | none, x => x
  | x, none => x
  | some a, some b => some (a.meet b)
def meetEx (id : Nat) : List (Nat × Snap) → Option Snap → Option Snap
  | [], acc => acc
  | x :: l, acc => meetEx id l (bif Nat.beq x.1 id then meetO acc (some x.2) else acc)

def iter (step : Snap → Option Res2) : Nat → Snap → Option (Snap × Res2)
  | 0, _ => none
  | k + 1, S => (step S).bind fun r =>
    match r.out with
    | none => some (S, r)
    | some T => bif (S.meet T).beq S then some (S, r) else iter step k (S.meet T)

/-- what of the places that may have been set is still spoken of -/
def lvR (S : Snap) (m : Nat) : List Nat := (List.range S.rs.length).filter fun t => bitB m t && !isNone (unopt (S.rs.getD t .none))
def lvO (ids : List Nat) (S : Snap) (l : List Nat) : List Nat := l.filter fun j => !isDead (lookO ids S.os j)

/-- what cannot be compiled is never come to -/
def stuckR : Res2 := ⟨.is [stuckI], none, [], 0, []⟩
theorem stuckR_ev (Φ : Funs) (N : Nat) (ρ : Env) (x : Out) : stuckR.pc.ev Φ N ρ ≠ some x := by
  intro h; simp [stuckR, PC.ev, PI.runs, PI.run, stuckI, PE.ev, D.b_bool] at h
theorem stuckR_mods : (∀ t, t ∈ stuckR.pc.modR → bitB stuckR.mr t = true) ∧ ∀ j, j ∈ stuckR.pc.modO → j ∈ stuckR.mo := by
  constructor <;> intro t h <;> simp [stuckR, PC.modR, PC.modO, PI.modR, PI.modO, stuckI] at h

def comp (C : Ctx) (fn : Func) (s : Sig) (n : Nat) (ids : List Nat) (R : Array Oper → Bool → Snap → Option (Snap × List PI)) : Code → Snap → Option Res2
  | .skip, S => some ⟨.skip, some S, [], 0, []⟩
  | .region _ ops draw, S => (R ops draw S).map fun r => ⟨.is r.2, some r.1, [], masks r.2, objss r.2⟩
  | .seq a b, S => (comp C fn s n ids R a S).bind fun r =>
    match r.out with
    | none => some r
    | some S1 => (comp C fn s n ids R b S1).map fun q => ⟨.seq r.pc q.pc, q.out, r.ex ++ q.ex, Nat.lor r.mr q.mr, unionL r.mo q.mo⟩
  | .cond c a b, S =>
    match use C (S.st ids) [] c with
    | some (.bool, e) =>
      (comp C fn s n ids R a S).bind fun r => (comp C fn s n ids R b S).map fun q =>
        match meetO r.out q.out with
        | some M => ⟨.ite e (lvR M (Nat.lor r.mr q.mr)) (lvO ids M (unionL r.mo q.mo)) r.pc q.pc, some M, r.ex ++ q.ex, Nat.lor r.mr q.mr, unionL r.mo q.mo⟩
        | none => ⟨.ite e [] [] r.pc q.pc, none, r.ex ++ q.ex, Nat.lor r.mr q.mr, unionL r.mo q.mo⟩
    | _ => some stuckR
  | .block id a, S => (comp C fn s n ids R a S).map fun r =>
    match meetEx id r.ex r.out with
    | some M => ⟨.block id (lvR M r.mr) (lvO ids M r.mo) r.pc, some M, r.ex.filter fun x => !Nat.beq x.1 id, r.mr, r.mo⟩
    | none => ⟨.block id [] [] r.pc, none, r.ex.filter fun x => !Nat.beq x.1 id, r.mr, r.mo⟩
  | .loop a, S =>
    match iter (fun S => comp C fn s n ids R a S) 8 S with
    | some r => some ⟨.loop (lvR r.1 r.2.mr) (lvO ids r.1 r.2.mo) r.2.pc, none, r.2.ex, r.2.mr, r.2.mo⟩
    | none => some stuckR
  | .exit id, S => some ⟨.exit id, none, [(id, S)], 0, []⟩
  | .ret, S =>
    match retPE C fn s (S.st ids) with
    | some e => some ⟨.ret e, none, [], 0, []⟩
    | none => some stuckR
  | _, _ => some stuckR

/-- a normal form of what a region compiles to is sound -/
def RegOK (C : Ctx) (n : Nat) (ids : List Nat) (Φ : Funs) (R : Array Oper → Bool → Snap → Option (Snap × List PI)) : Prop :=
  ∀ (id : Nat) (ops : Array Oper) (draw : Bool) (S : Snap) (r : Snap × List PI), R ops draw S = some r →
    ∀ (w0 : World) (σ0 : Im) (ρ ρ' : Env) (a : Act) (w : World) (Q : Exit → Act → World → Prop), CtxOK C σ0 → a.tmps.size = n → Good C w0 σ0 (S.st ids) ρ (fun _ => False) a w → PI.runs Φ r.2 ρ = some ρ' →
      (∀ a' w', a'.tmps.size = n → Good C w0 σ0 (r.1.st ids) ρ' (fun _ => False) a' w' → Q .normal a' w') → (Code.region id ops draw).wp C.P Q a w

section
variable {C : Ctx} {ρ ρ' : Env} {σ : Im} {own : Nat → Option Nat} {hv : Nat → Value} {w0 : World} {σ0 : Im} {A : Nat → Prop} {a : Act} {w : World} {Φ : Funs} {n : Nat} {ids : List Nat} {fn : Func} {s : Sig}
  {R : Array Oper → Bool → Snap → Option (Snap × List PI)}

def OutOK (C : Ctx) (w0 : World) (σ0 : Im) (n : Nat) (ids : List Nat) (fn : Func) (s : Sig) (out : Option Snap) (ex : List (Nat × Snap)) (x : Out) : Exit → Act → World → Prop
  | .normal, a, w => ∃ ρ S, x = .next ρ ∧ out = some S ∧ a.tmps.size = n ∧ Good C w0 σ0 (S.st ids) ρ (fun _ => False) a w
  | .exit id, a, w => ∃ ρ S, x = .exit id ρ ∧ (id, S) ∈ ex ∧ a.tmps.size = n ∧ Good C w0 σ0 (S.st ids) ρ (fun _ => False) a w
  | .ret, a, w => ∃ d, x = .ret d ∧ RetOK C w0 σ0 fn s d a w
  | _, _, _ => False

theorem Good.meet1 {x y : Snap} (h : Good C w0 σ0 (x.st ids) ρ A a w) : Good C w0 σ0 ((x.meet y).st ids) ρ (fun _ => False) a w := by
  obtain ⟨σ, own, hv, h⟩ := h
  exact ⟨σ, own, hv, Snap.meet_ok1 h⟩
theorem Good.meet2 {x y : Snap} (h : Good C w0 σ0 (y.st ids) ρ A a w) : Good C w0 σ0 ((x.meet y).st ids) ρ (fun _ => False) a w := by
  obtain ⟨σ, own, hv, h⟩ := h
  exact ⟨σ, own, hv, Snap.meet_ok2 h⟩

theorem meetO_ok1 {x : Snap} {y : Option Snap} {M : Snap} (h : Good C w0 σ0 (x.st ids) ρ (fun _ => False) a w) (hm : meetO (some x) y = some M) : Good C w0 σ0 (M.st ids) ρ (fun _ => False) a w := by
  cases y <;> simp [meetO] at hm <;> subst hm
  · exact h
  · exact h.meet1
theorem meetO_ok2 {x : Option Snap} {y : Snap} {M : Snap} (h : Good C w0 σ0 (y.st ids) ρ (fun _ => False) a w) (hm : meetO x (some y) = some M) : Good C w0 σ0 (M.st ids) ρ (fun _ => False) a w := by
  cases x <;> simp [meetO] at hm <;> subst hm
  · exact h
  · exact h.meet2
theorem meetO_some1 {x : Snap} {y : Option Snap} : ∃ M, meetO (some x) y = some M := by cases y <;> simp [meetO]
theorem meetO_some2 {x : Option Snap} {y : Snap} : ∃ M, meetO x (some y) = some M := by cases x <;> simp [meetO]
/-- what was in goes through -/
theorem meetEx_acc {id : Nat} : ∀ (l : List (Nat × Snap)) {x : Snap}, Good C w0 σ0 (x.st ids) ρ (fun _ => False) a w → ∃ M, meetEx id l (some x) = some M ∧ Good C w0 σ0 (M.st ids) ρ (fun _ => False) a w
  | [], x, h => ⟨x, rfl, h⟩
  | y :: l, x, h => by
    simp only [meetEx]
    cases Nat.beq y.1 id
    · exact meetEx_acc l h
    · obtain ⟨M, hM⟩ := @meetO_some1 x (some y.2)
      simp only [cond_true, hM]
      exact meetEx_acc l (meetO_ok1 h hM)
theorem meetEx_in {id : Nat} {S : Snap} (h : Good C w0 σ0 (S.st ids) ρ (fun _ => False) a w) : ∀ (l : List (Nat × Snap)) (x : Option Snap), (id, S) ∈ l → ∃ M, meetEx id l x = some M ∧ Good C w0 σ0 (M.st ids) ρ (fun _ => False) a w
  | y :: l, x, hm => by
    simp only [meetEx]
    rcases List.mem_cons.1 hm with e | hm
    · subst e
      simp only [Nat.beq_refl, cond_true]
      obtain ⟨M, hM⟩ := @meetO_some2 x S
      rw [hM]
      exact meetEx_acc l (meetO_ok2 h hM)
    · exact meetEx_in h l _ hm

theorem iter_spec {step : Snap → Option Res2} : ∀ (k : Nat) {S : Snap} {r : Snap × Res2}, iter step k S = some r →
    step r.1 = some r.2 ∧ (∀ T, r.2.out = some T → r.1.meet T = r.1) ∧ ∀ {ρ : Env} {a : Act} {w : World}, Good C w0 σ0 (S.st ids) ρ (fun _ => False) a w → Good C w0 σ0 (r.1.st ids) ρ (fun _ => False) a w
  | 0, S, r, h => by simp [iter] at h
  | k + 1, S, r, h => by
    simp only [iter, Option.bind_eq_some_iff] at h
    obtain ⟨q, hq, h⟩ := h
    split at h
    · rename_i ho
      cases h
      exact ⟨hq, fun T hT => by simp [ho] at hT, fun g => g⟩
    · rename_i T ho
      cases hb : (S.meet T).beq S <;> simp only [hb, cond_true, cond_false] at h
      · obtain ⟨h1, h2, h3⟩ := iter_spec k h
        exact ⟨h1, h2, fun g => h3 g.meet1⟩
      · cases h
        refine ⟨hq, fun T' hT => ?_, fun g => g⟩
        simp only [ho, Option.some.injEq] at hT
        subst hT
        exact Snap.beq_eq _ _ hb

theorem Good.joined {M : Snap} {m : Nat} {mo mr' mo' : List Nat} (h : Good C w0 σ0 (M.st ids) ρ' (fun _ => False) a w) (hb : ρ.but ρ' mr' mo') (h1 : ∀ t, t ∈ mr' → bitB m t = true) (h2 : ∀ j, j ∈ mo' → j ∈ mo) :
    Good C w0 σ0 (M.st ids) (ρ.join (lvR M m) (lvO ids M mo) ρ') (fun _ => False) a w := by
  obtain ⟨σ, own, hv, h⟩ := h
  refine ⟨σ, own, hv, h.env (Snap.noOpt _ _) (fun t ht => ?_) (fun j hj => ?_)⟩
  · simp only [Env.join, Env.put, putL_map]
    split
    · rfl
    · rename_i hm
      refine (hb.r t fun hmr => hm ?_).symm
      have hlt : t < M.rs.length := by
        refine Nat.lt_of_not_le fun hle => ?_
        simp only [Snap.st, List.getD_eq_getElem?_getD, List.getElem?_eq_none hle, Option.getD_none, unopt, isNone] at ht
        cases ht
      exact List.mem_filter.2 ⟨List.mem_range.2 hlt, by rw [h1 t hmr]; simpa [Snap.st] using ht⟩
  · simp only [Env.join, Env.put, putL_map]
    split
    · rfl
    · rename_i hm
      refine (hb.o j fun hmr => hm ?_).symm
      exact List.mem_filter.2 ⟨h2 j hmr, by simpa [Snap.st] using hj⟩

theorem mem_lvR {S : Snap} {m t : Nat} (h : t ∈ lvR S m) : bitB m t = true := by
  have := (List.mem_filter.1 h).2
  simp only [Bool.and_eq_true] at this
  exact this.1
theorem mem_lvO {S : Snap} {l : List Nat} {j : Nat} (h : j ∈ lvO ids S l) : j ∈ l := (List.mem_filter.1 h).1

theorem comp_mods : ∀ (c : Code) {S : Snap} {r : Res2}, comp C fn s n ids R c S = some r → (∀ t, t ∈ r.pc.modR → bitB r.mr t = true) ∧ ∀ j, j ∈ r.pc.modO → j ∈ r.mo := by
  intro c
  induction c with
  | skip => intro S r h; simp only [comp, Option.some.injEq] at h; subst h; simp [PC.modR, PC.modO]
  | region id ops draw =>
    intro S r h
    simp only [comp, Option.map_eq_some_iff] at h
    obtain ⟨q, _, rfl⟩ := h
    exact ⟨fun t ht => masks_ok _ ht, fun j hj => mem_objss _ hj⟩
  | seq x y ihx ihy =>
    intro S r h
    simp only [comp, Option.bind_eq_some_iff] at h
    obtain ⟨q, hq, h⟩ := h
    split at h
    · cases h; exact ihx hq
    · simp only [Option.map_eq_some_iff] at h
      obtain ⟨p, hp, rfl⟩ := h
      refine ⟨fun t ht => ?_, fun j hj => ?_⟩
      · simp only [PC.modR, List.mem_append] at ht
        rw [bitB_or, Bool.or_eq_true]
        exact ht.imp ((ihx hq).1 t) ((ihy hp).1 t)
      · simp only [PC.modO, List.mem_append] at hj
        rw [mem_unionL]
        exact hj.imp ((ihx hq).2 j) ((ihy hp).2 j)
  | cond c x y ihx ihy =>
    intro S r h
    simp only [comp] at h
    split at h
    case h_2 => cases h; exact stuckR_mods
    rename_i e _
    simp only [Option.bind_eq_some_iff, Option.map_eq_some_iff] at h
    obtain ⟨q, hq, p, hp, rfl⟩ := h
    cases hm : meetO q.out p.out <;> simp only [hm]
    · refine ⟨fun t ht => ?_, fun j hj => ?_⟩
      · simp only [PC.modR, List.mem_append, List.nil_append] at ht
        rw [bitB_or, Bool.or_eq_true]
        exact ht.imp ((ihx hq).1 t) ((ihy hp).1 t)
      · simp only [PC.modO, List.mem_append, List.nil_append] at hj
        rw [mem_unionL]
        exact hj.imp ((ihx hq).2 j) ((ihy hp).2 j)
    · refine ⟨fun t ht => ?_, fun j hj => ?_⟩
      · simp only [PC.modR, List.mem_append] at ht
        rw [bitB_or, Bool.or_eq_true]
        rcases ht with (ht | ht) | ht
        · have := mem_lvR ht; rw [bitB_or, Bool.or_eq_true] at this; exact this
        · exact .inl ((ihx hq).1 t ht)
        · exact .inr ((ihy hp).1 t ht)
      · simp only [PC.modO, List.mem_append] at hj
        rcases hj with (hj | hj) | hj
        · exact mem_lvO hj
        · exact mem_unionL.2 (.inl ((ihx hq).2 j hj))
        · exact mem_unionL.2 (.inr ((ihy hp).2 j hj))
  | block id x ihx =>
    intro S r h
    simp only [comp, Option.map_eq_some_iff] at h
    obtain ⟨q, hq, rfl⟩ := h
    cases hm : meetEx id q.ex q.out <;> simp only [hm]
    · simpa [PC.modR, PC.modO] using ihx hq
    · refine ⟨fun t ht => ?_, fun j hj => ?_⟩
      · simp only [PC.modR, List.mem_append] at ht
        exact ht.elim mem_lvR ((ihx hq).1 t)
      · simp only [PC.modO, List.mem_append] at hj
        exact hj.elim mem_lvO ((ihx hq).2 j)
  | loop x ihx =>
    intro S r h
    simp only [comp] at h
    split at h
    case h_2 => cases h; exact stuckR_mods
    rename_i q hq
    cases h
    have hs := (iter_spec (C := C) (w0 := default) (σ0 := ⟨fun _ _ => none, fun _ => none⟩) (ids := ids) 8 hq).1
    refine ⟨fun t ht => ?_, fun j hj => ?_⟩
    · simp only [PC.modR, List.mem_append] at ht
      exact ht.elim mem_lvR ((ihx hs).1 t)
    · simp only [PC.modO, List.mem_append] at hj
      exact hj.elim mem_lvO ((ihx hs).2 j)
  | exit id => intro S r h; simp only [comp, Option.some.injEq] at h; subst h; simp [PC.modR, PC.modO]
  | ret =>
    intro S r h
    simp only [comp] at h
    split at h
    · cases h; simp [PC.modR, PC.modO]
    · cases h; exact stuckR_mods
  | _ => intro S r h; simp only [comp, Option.some.injEq] at h; subst h; exact stuckR_mods

theorem OutOK.ex {out : Option Snap} {ex ex' : List (Nat × Snap)} {x : Out} {e : Exit} (he : ∀ y, y ∈ ex → y ∈ ex') (hn : e ≠ .normal) (h : OutOK C w0 σ0 n ids fn s out ex x e a w) (out' : Option Snap) : OutOK C w0 σ0 n ids fn s out' ex' x e a w := by
  cases e with
  | normal => exact absurd rfl hn
  | exit id => obtain ⟨ρ, S, h1, h2, h3⟩ := h; exact ⟨ρ, S, h1, he _ h2, h3⟩
  | ret => exact h
  | _ => exact h.elim

theorem OutOK.isNext {out : Option Snap} {ex : List (Nat × Snap)} {x : Out} (h : OutOK C w0 σ0 n ids fn s out ex x .normal a w) : ∃ ρ, x = .next ρ := by
  obtain ⟨ρ, _, h, _⟩ := h; exact ⟨ρ, h⟩

theorem comp_sound (hC : CtxOK C σ0) (hR : RegOK C n ids Φ R) (N : Nat) : ∀ (c : Code) {S : Snap} {r : Res2}, comp C fn s n ids R c S = some r → ∀ (ρ : Env) (x : Out) (a : Act) (w : World), a.tmps.size = n →
    Good C w0 σ0 (S.st ids) ρ (fun _ => False) a w → r.pc.ev Φ N ρ = some x → c.wp C.P (OutOK C w0 σ0 n ids fn s r.out r.ex x) a w := by
  intro c
  induction c with
  | skip =>
    intro S r h ρ x a w hn hg he
    simp only [comp, Option.some.injEq] at h; subst h
    simp only [PC.ev, Option.some.injEq] at he; subst he
    exact wp_skip ⟨ρ, S, rfl, rfl, hn, hg⟩
  | region id ops draw =>
    intro S r h ρ x a w hn hg he
    simp only [comp, Option.map_eq_some_iff] at h
    obtain ⟨q, hq, rfl⟩ := h
    simp only [PC.ev, Option.map_eq_some_iff] at he
    obtain ⟨ρ', hr, rfl⟩ := he
    exact hR id ops draw S q hq w0 σ0 ρ ρ' a w _ hC hn hg hr (fun a' w' hn' hg' => ⟨ρ', q.1, rfl, rfl, hn', hg'⟩)
  | seq c1 c2 ih1 ih2 =>
    intro S r h ρ x a w hn hg he
    simp only [comp, Option.bind_eq_some_iff] at h
    obtain ⟨q, hq, h⟩ := h
    split at h
    · rename_i hout
      cases h
      refine wp_seq (wp_mono (ih1 hq ρ x a w hn hg he) fun e a' w' ho => ?_)
      cases e with
      | normal => obtain ⟨_, _, _, h2, _⟩ := ho; rw [hout] at h2; cases h2
      | _ => exact ho
    · rename_i S1 hout
      simp only [Option.map_eq_some_iff] at h
      obtain ⟨p, hp, rfl⟩ := h
      simp only [PC.ev] at he
      have key : ∀ x1, q.pc.ev Φ N ρ = some x1 → (match some x1 with | some (.next ρ') => p.pc.ev Φ N ρ' | y => y) = some x → (Code.seq c1 c2).wp C.P (OutOK C w0 σ0 n ids fn s p.out (q.ex ++ p.ex) x) a w := by
        intro x1 h1 h2
        refine wp_seq (wp_mono (ih1 hq ρ x1 a w hn hg h1) fun e a' w' ho => ?_)
        cases e with
        | normal =>
          obtain ⟨ρ1, S2, e1, e2, hn2, hg2⟩ := ho
          subst e1
          rw [hout] at e2; cases e2
          simp only at h2
          refine wp_mono (ih2 hp ρ1 x a' w' hn2 hg2 h2) fun e a2 w2 ho2 => ?_
          cases e with
          | normal => exact ho2
          | _ => exact OutOK.ex (fun y hy => List.mem_append_right _ hy) (by simp) ho2 p.out
        | exit id =>
          have hx := ho
          obtain ⟨ρ1, S2, e1, _⟩ := hx
          subst e1
          simp only [Option.some.injEq] at h2; subst h2
          exact OutOK.ex (e := .exit id) (fun y hy => List.mem_append_left _ hy) (by simp) ho p.out
        | ret =>
          have hx := ho
          obtain ⟨d, e1, _⟩ := hx
          subst e1
          simp only [Option.some.injEq] at h2; subst h2
          exact ho
        | _ => exact ho.elim
      cases h1 : q.pc.ev Φ N ρ with
      | none => rw [h1] at he; simp at he
      | some x1 => rw [h1] at he; exact key x1 h1 he
  | cond c c1 c2 ih1 ih2 =>
    intro S r h ρ x a w hn hg he
    simp only [comp] at h
    split at h
    case h_2 => cases h; exact absurd he (stuckR_ev _ _ _ _)
    rename_i e hu
    simp only [Option.bind_eq_some_iff, Option.map_eq_some_iff] at h
    obtain ⟨q, hq, p, hp, rfl⟩ := h
    have hb : ∃ b, a.eval c = .bool b ∧ e.ev ρ = .v (.bool b) := by
      obtain ⟨σ, own, hv, hi⟩ := hg
      have := use_sound (gs := []) hi hC rfl hu
      generalize a.eval c = v at this
      generalize e.ev ρ = d at this
      cases this with | bool b => exact ⟨b, rfl, rfl⟩
    obtain ⟨b, hb1, hb2⟩ := hb
    have hmq := comp_mods c1 hq
    have hmp := comp_mods c2 hp
    have main : ∀ (o : Option Snap) (lr lo : List Nat) (rx : Res2), rx = ⟨.ite e lr lo q.pc p.pc, o, q.ex ++ p.ex, Nat.lor q.mr p.mr, unionL q.mo p.mo⟩ →
        (∀ M, o = some M → lr = lvR M (Nat.lor q.mr p.mr) ∧ lo = lvO ids M (unionL q.mo p.mo)) →
        (∀ S1 ρ1 a w, q.out = some S1 → Good C w0 σ0 (S1.st ids) ρ1 (fun _ => False) a w → ∃ M, o = some M ∧ Good C w0 σ0 (M.st ids) ρ1 (fun _ => False) a w) →
        (∀ S1 ρ1 a w, p.out = some S1 → Good C w0 σ0 (S1.st ids) ρ1 (fun _ => False) a w → ∃ M, o = some M ∧ Good C w0 σ0 (M.st ids) ρ1 (fun _ => False) a w) →
        rx.pc.ev Φ N ρ = some x → (Code.cond c c1 c2).wp C.P (OutOK C w0 σ0 n ids fn s rx.out rx.ex x) a w := by
      intro o lr lo rx hrx hl hqo hpo hev
      subst hrx
      simp only [PC.ev, hb2, D.b_bool] at hev
      have fin : ∀ (ci : Code) (qi : Res2) (xi : Out), (∀ y, y ∈ qi.ex → y ∈ q.ex ++ p.ex) → (∀ t, t ∈ qi.pc.modR → bitB (Nat.lor q.mr p.mr) t = true) → (∀ j, j ∈ qi.pc.modO → j ∈ unionL q.mo p.mo) →
          (∀ S1 ρ1 a w, qi.out = some S1 → Good C w0 σ0 (S1.st ids) ρ1 (fun _ => False) a w → ∃ M, o = some M ∧ Good C w0 σ0 (M.st ids) ρ1 (fun _ => False) a w) →
          qi.pc.ev Φ N ρ = some xi → (match some xi with | some (.next ρ') => some (Out.next (ρ.join lr lo ρ')) | y => y) = some x →
          ci.wp C.P (OutOK C w0 σ0 n ids fn s qi.out qi.ex xi) a w → ci.wp C.P (OutOK C w0 σ0 n ids fn s o (q.ex ++ p.ex) x) a w := by
        intro ci qi xi hex hr1 hr2 hout hxi hx hwp
        refine wp_mono hwp fun ee a' w' ho => ?_
        cases ee with
        | normal =>
          obtain ⟨ρ1, S2, e1, e2, hn2, hg2⟩ := ho
          subst e1
          simp only [Option.some.injEq] at hx
          subst hx
          obtain ⟨M, hM, hgM⟩ := hout S2 ρ1 a' w' e2 hg2
          obtain ⟨l1, l2⟩ := hl M hM
          subst l1 l2
          exact ⟨_, M, rfl, hM, hn2, hgM.joined (PC.ev_but qi.pc ρ _ ρ1 hxi rfl) hr1 hr2⟩
        | exit id =>
          have hy := ho
          obtain ⟨ρ1, S2, e1, _⟩ := hy
          subst e1
          simp only [Option.some.injEq] at hx; subst hx
          exact OutOK.ex (e := .exit id) hex (by simp) ho o
        | ret =>
          have hy := ho
          obtain ⟨d, e1, _⟩ := hy
          subst e1
          simp only [Option.some.injEq] at hx; subst hx
          exact ho
        | _ => exact ho.elim
      refine wp_cond hb1 ?_
      cases b with
      | true =>
        simp only [cond_true] at hev
        cases hxi : q.pc.ev Φ N ρ with
        | none => rw [hxi] at hev; simp at hev
        | some xi =>
          rw [hxi] at hev
          refine fin c1 q xi (fun y hy => List.mem_append_left _ hy) (fun t ht => ?_) (fun j hj => mem_unionL.2 (.inl (hmq.2 j hj))) hqo hxi hev (ih1 hq ρ xi a w hn hg hxi)
          rw [bitB_or, hmq.1 t ht]; rfl
      | false =>
        simp only [cond_false] at hev
        cases hxi : p.pc.ev Φ N ρ with
        | none => rw [hxi] at hev; simp at hev
        | some xi =>
          rw [hxi] at hev
          refine fin c2 p xi (fun y hy => List.mem_append_right _ hy) (fun t ht => ?_) (fun j hj => mem_unionL.2 (.inr (hmp.2 j hj))) hpo hxi hev (ih2 hp ρ xi a w hn hg hxi)
          rw [bitB_or, hmp.1 t ht, Bool.or_true]
    have hqo : ∀ S1 ρ1 a w, q.out = some S1 → Good C w0 σ0 (S1.st ids) ρ1 (fun _ => False) a w → ∃ M, meetO q.out p.out = some M ∧ Good C w0 σ0 (M.st ids) ρ1 (fun _ => False) a w := by
      intro S1 ρ1 a w e1 g1
      rw [e1]
      obtain ⟨M, hM⟩ := @meetO_some1 S1 p.out
      exact ⟨M, hM, meetO_ok1 g1 hM⟩
    have hpo : ∀ S1 ρ1 a w, p.out = some S1 → Good C w0 σ0 (S1.st ids) ρ1 (fun _ => False) a w → ∃ M, meetO q.out p.out = some M ∧ Good C w0 σ0 (M.st ids) ρ1 (fun _ => False) a w := by
      intro S1 ρ1 a w e1 g1
      rw [e1]
      obtain ⟨M, hM⟩ := @meetO_some2 q.out S1
      exact ⟨M, hM, meetO_ok2 g1 hM⟩
    cases hm : meetO q.out p.out with
    | none =>
      rw [hm] at hqo hpo
      simp only [hm] at he ⊢
      exact main none [] [] _ rfl (fun M e => by cases e) hqo hpo he
    | some M =>
      rw [hm] at hqo hpo
      simp only [hm] at he ⊢
      exact main (some M) _ _ _ rfl (fun M' e => by cases e; exact ⟨rfl, rfl⟩) hqo hpo he
  | block id c1 ih1 =>
    intro S r h ρ x a w hn hg he
    simp only [comp, Option.map_eq_some_iff] at h
    obtain ⟨q, hq, rfl⟩ := h
    have hmq := comp_mods c1 hq
    have hfil : ∀ id' S1, (id', S1) ∈ q.ex → id' ≠ id → (id', S1) ∈ q.ex.filter fun x => !Nat.beq x.1 id := fun id' S1 hm hne => List.mem_filter.2 ⟨hm, by simp [beq_ne hne]⟩
    have main : ∀ (o : Option Snap) (lr lo : List Nat), meetEx id q.ex q.out = o → (∀ M, o = some M → lr = lvR M q.mr ∧ lo = lvO ids M q.mo) → (PC.block id lr lo q.pc).ev Φ N ρ = some x →
        (Code.block id c1).wp C.P (OutOK C w0 σ0 n ids fn s o (q.ex.filter fun x => !Nat.beq x.1 id) x) a w := by
      intro o lr lo ho hl hev
      simp only [PC.ev] at hev
      cases hxi : q.pc.ev Φ N ρ with
      | none => rw [hxi] at hev; simp at hev
      | some xi =>
        rw [hxi] at hev
        have fin : ∀ {S2 : Snap} {ρ1 : Env} {a' : Act} {w' : World}, (∃ M, o = some M ∧ Good C w0 σ0 (M.st ids) ρ1 (fun _ => False) a' w') → xi.env? = some ρ1 → x = .next (ρ.join lr lo ρ1) → a'.tmps.size = n →
            OutOK C w0 σ0 n ids fn s o (q.ex.filter fun x => !Nat.beq x.1 id) x .normal a' w' := by
          intro S2 ρ1 a' w' hM henv hx hn2
          obtain ⟨M, hM, hgM⟩ := hM
          obtain ⟨l1, l2⟩ := hl M hM
          subst l1 l2
          exact ⟨_, M, hx, hM, hn2, hgM.joined (PC.ev_but q.pc ρ _ ρ1 hxi henv) hmq.1 hmq.2⟩
        refine wp_block (wp_mono (ih1 hq ρ xi a w hn hg hxi) fun e a' w' hoo => ?_)
        cases e with
        | normal =>
          obtain ⟨ρ1, S2, e1, e2, hn2, hg2⟩ := hoo
          subst e1
          simp only [Option.some.injEq] at hev
          refine fin (S2 := S2) ?_ rfl hev.symm hn2
          rw [e2] at ho
          obtain ⟨M, h1, h2⟩ := meetEx_acc (id := id) q.ex hg2
          rw [ho] at h1
          exact ⟨M, h1, h2⟩
        | exit id' =>
          have hy := hoo
          obtain ⟨ρ1, S2, e1, e2, hn2, hg2⟩ := hy
          subst e1
          simp only at hev
          show if id' = id then _ else _
          by_cases hid : id' = id
          · subst hid
            simp only [Nat.beq_refl, cond_true, Option.some.injEq] at hev
            simp only [if_true]
            refine fin (S2 := S2) ?_ rfl hev.symm hn2
            rw [← ho]
            exact meetEx_in hg2 q.ex q.out e2
          · simp only [beq_ne hid, cond_false, Option.some.injEq] at hev
            subst hev
            simp only [hid, if_false]
            exact ⟨ρ1, S2, rfl, hfil _ _ e2 hid, hn2, hg2⟩
        | ret =>
          have hy := hoo
          obtain ⟨d, e1, _⟩ := hy
          subst e1
          simp only [Option.some.injEq] at hev; subst hev
          exact hoo
        | _ => exact hoo.elim
    cases hm : meetEx id q.ex q.out with
    | none =>
      simp only [hm] at he ⊢
      exact main none [] [] hm (fun M e => by cases e) he
    | some M =>
      simp only [hm] at he ⊢
      exact main (some M) _ _ hm (fun M' e => by cases e; exact ⟨rfl, rfl⟩) he
  | loop c1 ih1 =>
    intro S r h ρ x a w hn hg he
    simp only [comp] at h
    split at h
    case h_2 => cases h; exact absurd he (stuckR_ev _ _ _ _)
    rename_i q hq
    cases h
    obtain ⟨hs, hfix, hin⟩ := iter_spec (C := C) (w0 := w0) (σ0 := σ0) (ids := ids) 8 hq
    have hmq := comp_mods c1 hs
    simp only [PC.ev] at he
    have hg0 : Good C w0 σ0 (q.1.st ids) (ρ.put (lvR q.1 q.2.mr) ((lvR q.1 q.2.mr).map ρ.r) (lvO ids q.1 q.2.mo) ((lvO ids q.1 q.2.mo).map ρ.o)) (fun _ => False) a w := by
      exact Good.joined (hin hg) (.refl ρ q.2.pc.modR q.2.pc.modO) hmq.1 hmq.2
    have key : ∀ (k : Nat) (ρ1 : Env) (a : Act) (w : World), a.tmps.size = n → loopI (q.2.pc.ev Φ N) ρ (lvR q.1 q.2.mr) (lvO ids q.1 q.2.mo) k ((lvR q.1 q.2.mr).map ρ1.r) ((lvO ids q.1 q.2.mo).map ρ1.o) = some x →
        Good C w0 σ0 (q.1.st ids) (ρ.join (lvR q.1 q.2.mr) (lvO ids q.1 q.2.mo) ρ1) (fun _ => False) a w → Code.rounds C.P c1 (OutOK C w0 σ0 n ids fn s none q.2.ex x) k a w := by
      intro k
      induction k with
      | zero => intro ρ1 a w hn hl hg; simp [loopI] at hl
      | succ k ih =>
        intro ρ1 a w hn hl hg
        rw [rounds_succ]
        simp only [loopI] at hl
        change (match q.2.pc.ev Φ N (ρ.join (lvR q.1 q.2.mr) (lvO ids q.1 q.2.mo) ρ1) with | some (.next ρ') => _ | y => y) = some x at hl
        cases hxi : q.2.pc.ev Φ N (ρ.join (lvR q.1 q.2.mr) (lvO ids q.1 q.2.mo) ρ1) with
        | none => rw [hxi] at hl; simp at hl
        | some xi =>
          rw [hxi] at hl
          refine wp_mono (ih1 hs _ xi a w hn hg hxi) fun e a' w' hoo => ?_
          cases e with
          | normal =>
            obtain ⟨ρ2, S2, e1, e2, hn2, hg2⟩ := hoo
            subst e1
            simp only at hl
            refine ih ρ2 a' w' hn2 hl ?_
            have hgM : Good C w0 σ0 (q.1.st ids) ρ2 (fun _ => False) a' w' := by
              have := hg2.meet2 (x := q.1)
              rwa [hfix S2 e2] at this
            refine hgM.joined (mr' := lvR q.1 q.2.mr ++ q.2.pc.modR) (mo' := lvO ids q.1 q.2.mo ++ q.2.pc.modO) ?_ (fun t ht => ?_) (fun j hj => ?_)
            · exact ((Env.but.join ρ ρ1 _ _).mono (fun t ht => List.mem_append_left _ ht) (fun t ht => List.mem_append_left _ ht)).trans
                ((PC.ev_but q.2.pc _ _ ρ2 hxi rfl).mono (fun t ht => List.mem_append_right _ ht) (fun t ht => List.mem_append_right _ ht))
            · exact (List.mem_append.1 ht).elim mem_lvR (hmq.1 t)
            · exact (List.mem_append.1 hj).elim mem_lvO (hmq.2 j)
          | exit id =>
            have hy := hoo
            obtain ⟨ρ1, S2, e1, _⟩ := hy
            subst e1
            simp only [Option.some.injEq] at hl; subst hl
            exact OutOK.ex (e := .exit id) (fun y hy => hy) (by simp) hoo none
          | ret =>
            have hy := hoo
            obtain ⟨d, e1, _⟩ := hy
            subst e1
            simp only [Option.some.injEq] at hl; subst hl
            exact hoo
          | _ => exact hoo.elim
    exact wp_loop_rounds N (key N ρ a w hn he hg0)
  | exit id =>
    intro S r h ρ x a w hn hg he
    simp only [comp, Option.some.injEq] at h; subst h
    simp only [PC.ev, Option.some.injEq] at he; subst he
    exact wp_exit ⟨ρ, S, rfl, by simp, hn, hg⟩
  | ret =>
    intro S r h ρ x a w hn hg he
    simp only [comp] at h
    split at h
    · rename_i e hre
      cases h
      simp only [PC.ev, Option.some.injEq] at he; subst he
      obtain ⟨σ, own, hv, hi⟩ := hg
      exact wp_ret ⟨_, rfl, retPE_sound hi hC hre⟩
    · cases h; exact absurd he (stuckR_ev _ _ _ _)
  | _ => intro S r h ρ x a w hn hg he; simp only [comp, Option.some.injEq] at h; subst h; exact absurd he (stuckR_ev _ _ _ _)
end
end Cx
