/-
  What an instruction looks at; instructions that may change places.
-/
import Derived.Test.YtaihcmbfhgmjgaaCyB
set_option linter.unusedSimpArgs false
set_option linter.unusedVariables false
namespace Cx
open Go Go.RowKit

/-- registers (as bits) and objects that are looked at -/
structure Lk where
  r : Nat
  o : List Nat
def Lk.or (a b : Lk) : Lk := ⟨Nat.lor a.r b.r, a.o ++ b.o⟩
def Lk.none : Lk := ⟨0, []⟩
def gsLk : List (Nat × Bool) → Lk
  | [] => .none
  | g :: gs => ⟨Nat.lor (bit1 g.1) (gsLk gs).r, (gsLk gs).o⟩

mutual
def PE.lk : PE → Lk
  | .r t => ⟨bit1 t, []⟩
  | .o j => ⟨0, [j]⟩
  | .con _ => .none
  | .cell e _ | .sub e _ _ | .nt e | .conv _ e | .llen e | .slen e | .mlen e | .ref e | .deref e | .tget e _ => PE.lk e
  | .setc x _ y | .ai _ _ x y | .ci _ x y | .cb _ x y | .cs _ x y | .sadd x y | .nth x y | .idx x y | .sidx x y | .sok x y | .app x y | .rep x y | .has x y | .mn x y | .mx x y | .an x y => (PE.lk x).or (PE.lk y)
  | .mk es | .lst es | .tup es | .clo _ es => PE.lks es
  | .pick x y z | .slc x y z | .slok x y z | .look x y z | .put x y z | .setn x y _ z => (PE.lk x).or ((PE.lk y).or (PE.lk z))
  | .imp c x => (gsLk c).or (PE.lk x)
def PE.lks : List PE → Lk
  | [] => .none
  | e :: es => (PE.lk e).or (PE.lks es)
end

structure Alike (k : Lk) (ρ ρ' : Env) : Prop where
  r : ∀ t, bitB k.r t = true → ρ'.r t = ρ.r t
  o : ∀ j, j ∈ k.o → ρ'.o j = ρ.o j
theorem Alike.left {a b : Lk} {ρ ρ' : Env} (h : Alike (a.or b) ρ ρ') : Alike a ρ ρ' :=
  ⟨fun t ht => h.r t (by simp only [Lk.or, bitB_or, ht, Bool.true_or]), fun j hj => h.o j (List.mem_append_left _ hj)⟩
theorem Alike.right {a b : Lk} {ρ ρ' : Env} (h : Alike (a.or b) ρ ρ') : Alike b ρ ρ' :=
  ⟨fun t ht => h.r t (by simp only [Lk.or, bitB_or, ht, Bool.or_true]), fun j hj => h.o j (List.mem_append_right _ hj)⟩

theorem holds_alike {ρ ρ' : Env} : ∀ {c : List (Nat × Bool)}, Alike (gsLk c) ρ ρ' → holds c ρ' = holds c ρ
  | [], _ => rfl
  | g :: gs, h => by
    have ih := holds_alike (ρ := ρ) (ρ' := ρ') (c := gs) ⟨fun t ht => h.r t (by simp only [gsLk, bitB_or, ht, Bool.or_true]), fun j hj => h.o j hj⟩
    have h1 := h.r g.1 (by simp only [gsLk, bitB_or, bit1_self, Bool.true_or])
    unfold holds at ih ⊢
    simp only [List.all_cons]; rw [ih, h1]

mutual
theorem PE.ev_alike {ρ ρ' : Env} : ∀ (e : PE), Alike e.lk ρ ρ' → e.ev ρ' = e.ev ρ
  | .r t, h => h.r t (bit1_self t)
  | .o j, h => h.o j (by simp [PE.lk])
  | .con _, h => rfl
  | .cell e _, h => by simp only [PE.ev, PE.ev_alike e h]
  | .sub e _ _, h => by simp only [PE.ev, PE.ev_alike e h]
  | .nt e, h => by simp only [PE.ev, PE.ev_alike e h]
  | .conv _ e, h => by simp only [PE.ev, PE.ev_alike e h]
  | .llen e, h => by simp only [PE.ev, PE.ev_alike e h]
  | .slen e, h => by simp only [PE.ev, PE.ev_alike e h]
  | .mlen e, h => by simp only [PE.ev, PE.ev_alike e h]
  | .ref e, h => by simp only [PE.ev, PE.ev_alike e h]
  | .deref e, h => by simp only [PE.ev, PE.ev_alike e h]
  | .tget e _, h => by simp only [PE.ev, PE.ev_alike e h]
  | .setc x _ y, h => by simp only [PE.ev, PE.ev_alike x h.left, PE.ev_alike y h.right]
  | .ai _ _ x y, h => by simp only [PE.ev, PE.ev_alike x h.left, PE.ev_alike y h.right]
  | .ci _ x y, h => by simp only [PE.ev, PE.ev_alike x h.left, PE.ev_alike y h.right]
  | .cb _ x y, h => by simp only [PE.ev, PE.ev_alike x h.left, PE.ev_alike y h.right]
  | .cs _ x y, h => by simp only [PE.ev, PE.ev_alike x h.left, PE.ev_alike y h.right]
  | .sadd x y, h => by simp only [PE.ev, PE.ev_alike x h.left, PE.ev_alike y h.right]
  | .nth x y, h => by simp only [PE.ev, PE.ev_alike x h.left, PE.ev_alike y h.right]
  | .idx x y, h => by simp only [PE.ev, PE.ev_alike x h.left, PE.ev_alike y h.right]
  | .sidx x y, h => by simp only [PE.ev, PE.ev_alike x h.left, PE.ev_alike y h.right]
  | .sok x y, h => by simp only [PE.ev, PE.ev_alike x h.left, PE.ev_alike y h.right]
  | .app x y, h => by simp only [PE.ev, PE.ev_alike x h.left, PE.ev_alike y h.right]
  | .rep x y, h => by simp only [PE.ev, PE.ev_alike x h.left, PE.ev_alike y h.right]
  | .has x y, h => by simp only [PE.ev, PE.ev_alike x h.left, PE.ev_alike y h.right]
  | .mn x y, h => by simp only [PE.ev, PE.ev_alike x h.left, PE.ev_alike y h.right]
  | .mx x y, h => by simp only [PE.ev, PE.ev_alike x h.left, PE.ev_alike y h.right]
  | .an x y, h => by simp only [PE.ev, PE.ev_alike x h.left, PE.ev_alike y h.right]
  | .mk es, h => by simp only [PE.ev, PE.evc_alike es h]
  | .lst es, h => by simp only [PE.ev, PE.evs_alike es h]
  | .tup es, h => by simp only [PE.ev, PE.evs_alike es h]
  | .clo _ es, h => by simp only [PE.ev, PE.evs_alike es h]
  | .pick x y z, h => by simp only [PE.ev, PE.ev_alike x h.left, PE.ev_alike y h.right.left, PE.ev_alike z h.right.right]
  | .slc x y z, h => by simp only [PE.ev, PE.ev_alike x h.left, PE.ev_alike y h.right.left, PE.ev_alike z h.right.right]
  | .slok x y z, h => by simp only [PE.ev, PE.ev_alike x h.left, PE.ev_alike y h.right.left, PE.ev_alike z h.right.right]
  | .look x y z, h => by simp only [PE.ev, PE.ev_alike x h.left, PE.ev_alike y h.right.left, PE.ev_alike z h.right.right]
  | .put x y z, h => by simp only [PE.ev, PE.ev_alike x h.left, PE.ev_alike y h.right.left, PE.ev_alike z h.right.right]
  | .setn x y _ z, h => by simp only [PE.ev, PE.ev_alike x h.left, PE.ev_alike y h.right.left, PE.ev_alike z h.right.right]
  | .imp c x, h => by simp only [PE.ev, holds_alike h.left, PE.ev_alike x h.right]
theorem PE.evs_alike {ρ ρ' : Env} : ∀ (es : List PE), Alike (PE.lks es) ρ ρ' → PE.evs ρ' es = PE.evs ρ es
  | [], h => rfl
  | e :: es, h => by simp only [PE.evs, PE.ev_alike e h.left, PE.evs_alike es h.right]
theorem PE.evc_alike {ρ ρ' : Env} : ∀ (es : List PE), Alike (PE.lks es) ρ ρ' → PE.evc ρ' es = PE.evc ρ es
  | [], h => rfl
  | e :: es, h => by simp only [PE.evc, PE.ev_alike e h.left, PE.evc_alike es h.right]
end

/-- what an instruction looks at -/
def PI.lk : PI → Lk
  | .setR _ e | .setO _ e | .chk e => e.lk
  | .call gs _ _ as => (gsLk gs).or (PE.lks as)
  | .callc gs _ e as => (gsLk gs).or (e.lk.or (PE.lks as))
  | .mcall _ _ as => PE.lks as

inductive Eff where
  | skip
  | r (t : Nat) (d : D)
  | o (j : Nat) (d : D)
def Eff.app (ρ : Env) : Eff → Env
  | .skip => ρ
  | .r t d => ρ.setR t d
  | .o j d => ρ.setO j d
def PI.eff (Φ : Funs) (ρ : Env) : PI → Option Eff
  | .setR t e => some (.r t (e.ev ρ))
  | .setO j e => some (.o j (e.ev ρ))
  | .chk e => bif (e.ev ρ).b then some .skip else none
  | .call gs dst f args => bif holds gs ρ then (Φ f (PE.evs ρ args)).map (.r dst) else some .skip
  | .callc gs dst e args => bif holds gs ρ then (match e.ev ρ with | .clo f caps => (Φ f (PE.evs ρ args ++ caps)).map (.r dst) | _ => none) else some .skip
  | .mcall j f args => (Φ f (PE.evs ρ args)).map (.o j)

theorem PI.run_eff (Φ : Funs) (ρ : Env) (p : PI) : p.run Φ ρ = (p.eff Φ ρ).map (Eff.app ρ) := by
  cases p with
  | setR t e => rfl
  | setO t e => rfl
  | chk e => simp only [PI.run, PI.eff]; cases (e.ev ρ).b <;> rfl
  | call gs d f as =>
    simp only [PI.run, PI.eff]
    cases holds gs ρ
    · rfl
    · simp only [cond_true, Option.map_map]; rfl
  | callc gs d e as =>
    simp only [PI.run, PI.eff]
    cases holds gs ρ
    · rfl
    · simp only [cond_true]
      cases e.ev ρ <;> first | rfl | (simp only [Option.map_map]; rfl)
  | mcall j f as => simp only [PI.run, PI.eff, Option.map_map]; rfl

theorem PI.eff_alike {Φ : Funs} {ρ ρ' : Env} (p : PI) (h : Alike p.lk ρ ρ') : p.eff Φ ρ' = p.eff Φ ρ := by
  cases p with
  | setR t e => simp only [PI.eff, PE.ev_alike e h]
  | setO t e => simp only [PI.eff, PE.ev_alike e h]
  | chk e => simp only [PI.eff, PE.ev_alike e h]
  | call gs d f as => simp only [PI.eff, holds_alike h.left, PE.evs_alike as h.right]
  | callc gs d e as => simp only [PI.eff, holds_alike h.left, PE.ev_alike e h.right.left, PE.evs_alike as h.right.right]
  | mcall j f as => simp only [PI.eff, PE.evs_alike as h]

def PI.wo : PI → List Nat
  | .setO j _ | .mcall j _ _ => [j]
  | _ => []

def Eff.within (m : Nat) (l : List Nat) : Eff → Prop
  | .skip => True
  | .r t _ => bitB m t = true
  | .o j _ => j ∈ l
theorem PI.eff_within {Φ : Funs} {ρ : Env} {p : PI} {x : Eff} (h : p.eff Φ ρ = some x) : x.within p.mask p.wo := by
  cases p with
  | setR t e => simp only [PI.eff, Option.some.injEq] at h; subst h; exact bit1_self t
  | setO t e => simp only [PI.eff, Option.some.injEq] at h; subst h; simp [Eff.within, PI.wo]
  | chk e => simp only [PI.eff] at h; cases hb : (e.ev ρ).b <;> rw [hb] at h <;> cases h; trivial
  | call gs d f as =>
    simp only [PI.eff] at h
    cases hb : holds gs ρ <;> simp only [hb, cond_true, cond_false, Option.some.injEq, Option.map_eq_some_iff] at h
    · subst h; trivial
    · obtain ⟨d, _, rfl⟩ := h; exact bit1_self _
  | callc gs d e as =>
    simp only [PI.eff] at h
    cases hb : holds gs ρ <;> simp only [hb, cond_true, cond_false, Option.some.injEq] at h
    · subst h; trivial
    · split at h
      · simp only [Option.map_eq_some_iff] at h; obtain ⟨d, _, rfl⟩ := h; exact bit1_self _
      · cases h
  | mcall j f as => simp only [PI.eff, Option.map_eq_some_iff] at h; obtain ⟨d, _, rfl⟩ := h; simp [Eff.within, PI.wo]

def apartB (a b : List Nat) : Bool := a.all fun x => !memB b x
/-- a piece: what it sets, what it looks at -/
structure Foot where
  wr : Nat
  wo : List Nat
  k : Lk
def footOf : List PI → Foot
  | [] => ⟨0, [], .none⟩
  | p :: l => ⟨Nat.lor p.mask (footOf l).wr, p.wo ++ (footOf l).wo, p.lk.or (footOf l).k⟩
/-- they may change places -/
def Foot.comm (a b : Foot) : Bool :=
  Nat.beq (Nat.land a.wr b.wr) 0 && (Nat.beq (Nat.land a.wr b.k.r) 0 && (Nat.beq (Nat.land b.wr a.k.r) 0 &&
    (apartB a.wo b.wo && (apartB a.wo b.k.o && apartB b.wo a.k.o))))

theorem land0 {a b t : Nat} (h : Nat.beq (Nat.land a b) 0 = true) (ha : bitB a t = true) (hb : bitB b t = true) : False := by
  have h1 := nbeq h
  have h2 : (a &&& b).testBit t = true := by rw [Nat.testBit_and, ← bitB_eq, ← bitB_eq, ha, hb]; rfl
  have h3 : (a &&& b) = 0 := h1
  rw [h3] at h2; simp at h2
theorem apartB_ok {a b : List Nat} (h : apartB a b = true) {x : Nat} (ha : x ∈ a) (hb : x ∈ b) : False := by
  have := List.all_eq_true.1 h x ha
  rw [(memB_eq b x).2 hb] at this
  cases this

structure Comm (p q : PI) : Prop where
  ww : ∀ t, bitB p.mask t = true → bitB q.mask t = true → False
  wr : ∀ t, bitB p.mask t = true → bitB q.lk.r t = true → False
  rw : ∀ t, bitB q.mask t = true → bitB p.lk.r t = true → False
  oww : ∀ t, t ∈ p.wo → t ∈ q.wo → False
  owr : ∀ t, t ∈ p.wo → t ∈ q.lk.o → False
  orw : ∀ t, t ∈ q.wo → t ∈ p.lk.o → False

theorem Eff.alike {x : Eff} {m : Nat} {l : List Nat} {k : Lk} {ρ : Env} (h : x.within m l) (h1 : ∀ t, bitB m t = true → bitB k.r t = true → False) (h2 : ∀ t, t ∈ l → t ∈ k.o → False) : Alike k ρ (x.app ρ) := by
  cases x with
  | skip => exact ⟨fun _ _ => rfl, fun _ _ => rfl⟩
  | r t d => exact ⟨fun u hu => upd_ne _ _ (fun e => h1 t h (e ▸ hu)), fun _ _ => rfl⟩
  | o t d => exact ⟨fun _ _ => rfl, fun u hu => upd_ne _ _ (fun e => h2 t h (e ▸ hu))⟩

theorem upd_comm {α : Type} (f : Nat → α) {i j : Nat} (x y : α) (h : i ≠ j) : upd (upd f i x) j y = upd (upd f j y) i x := by
  funext t
  simp only [upd_apply]
  by_cases h1 : t = i
  · subst h1; simp [h]
  · simp [h1]

theorem Eff.comm {x y : Eff} {m m' : Nat} {l l' : List Nat} {ρ : Env} (hx : x.within m l) (hy : y.within m' l') (h1 : ∀ t, bitB m t = true → bitB m' t = true → False) (h2 : ∀ t, t ∈ l → t ∈ l' → False) :
    y.app (x.app ρ) = x.app (y.app ρ) := by
  cases x with
  | skip => rfl
  | r t d =>
    cases y with
    | skip => rfl
    | r u e =>
      have hne : t ≠ u := fun e => h1 t hx (by subst e; exact hy)
      show Env.setR (Env.setR ρ t d) u e = Env.setR (Env.setR ρ u e) t d
      simp only [Env.setR]; rw [upd_comm _ _ _ hne]
    | o u e => rfl
  | o t d =>
    cases y with
    | skip => rfl
    | r u e => rfl
    | o u e =>
      have hne : t ≠ u := fun e => h2 t hx (by subst e; exact hy)
      show Env.setO (Env.setO ρ t d) u e = Env.setO (Env.setO ρ u e) t d
      simp only [Env.setO]; rw [upd_comm _ _ _ hne]

theorem PI.comm {Φ : Funs} {p q : PI} (h : Comm p q) (ρ : Env) : (p.run Φ ρ).bind (q.run Φ) = (q.run Φ ρ).bind (p.run Φ) := by
  simp only [PI.run_eff]
  cases hp : p.eff Φ ρ with
  | none =>
    cases hq : q.eff Φ ρ with
    | none => rfl
    | some y =>
      have := PI.eff_alike (Φ := Φ) p (Eff.alike (ρ := ρ) (PI.eff_within hq) h.rw h.orw)
      simp [PI.run_eff, this, hp]
  | some x =>
    have hx := PI.eff_within hp
    have e1 := PI.eff_alike (Φ := Φ) q (Eff.alike (ρ := ρ) hx h.wr h.owr)
    cases hq : q.eff Φ ρ with
    | none => simp [PI.run_eff, e1, hq]
    | some y =>
      have hy := PI.eff_within hq
      have e2 := PI.eff_alike (Φ := Φ) p (Eff.alike (ρ := ρ) hy h.rw h.orw)
      simp only [Option.map_some, Option.bind_some, PI.run_eff, e1, e2, hp, hq]
      rw [Eff.comm hx hy h.ww h.oww]

theorem PI.comm1 {Φ : Funs} {p : PI} : ∀ (l : List PI), (∀ q, q ∈ l → Comm p q) → ∀ ρ, (p.run Φ ρ).bind (PI.runs Φ l) = (PI.runs Φ l ρ).bind (p.run Φ)
  | [], _, ρ => by simp only [PI.runs]; cases h : p.run Φ ρ <;> simp [h]
  | q :: l, h, ρ => by
    have ih := PI.comm1 (Φ := Φ) l fun q hq => h q (List.mem_cons_of_mem _ hq)
    have hc := PI.comm (Φ := Φ) (h q (List.mem_cons_self ..)) ρ
    simp only [PI.runs]
    have e1 : ((p.run Φ ρ).bind fun ρ1 => (q.run Φ ρ1).bind (PI.runs Φ l)) = ((p.run Φ ρ).bind (q.run Φ)).bind (PI.runs Φ l) := by cases p.run Φ ρ <;> rfl
    show ((p.run Φ ρ).bind fun ρ1 => (q.run Φ ρ1).bind (PI.runs Φ l)) = _
    rw [e1, hc]
    cases q.run Φ ρ with
    | none => rfl
    | some ρ1 => simp only [Option.bind_some]; exact ih ρ1

theorem PI.comms {Φ : Funs} : ∀ (a b : List PI), (∀ p q, p ∈ a → q ∈ b → Comm p q) → ∀ ρ, PI.runs Φ (a ++ b) ρ = PI.runs Φ (b ++ a) ρ
  | [], b, _, ρ => by simp
  | p :: a, b, h, ρ => by
    have ih := PI.comms (Φ := Φ) a b fun p q hp hq => h p q (List.mem_cons_of_mem _ hp) hq
    have h1 := PI.comm1 (Φ := Φ) b (fun q hq => h p q (List.mem_cons_self ..) hq)
    simp only [List.cons_append, PI.runs, runs_append]
    have e1 : ((p.run Φ ρ).bind (PI.runs Φ (a ++ b))) = (p.run Φ ρ).bind (PI.runs Φ (b ++ a)) := by
      cases p.run Φ ρ with
      | none => rfl
      | some ρ1 => exact ih ρ1
    rw [e1]
    have e2 : PI.runs Φ (b ++ a) = fun ρ => (PI.runs Φ b ρ).bind (PI.runs Φ a) := funext fun ρ => runs_append
    rw [e2]
    have e3 : ((p.run Φ ρ).bind fun ρ => (PI.runs Φ b ρ).bind (PI.runs Φ a)) = ((p.run Φ ρ).bind (PI.runs Φ b)).bind (PI.runs Φ a) := by cases p.run Φ ρ <;> rfl
    rw [e3, h1 ρ]
    cases PI.runs Φ b ρ with
    | none => rfl
    | some ρ1 => rfl

theorem footOf_mem {l : List PI} {p : PI} (h : p ∈ l) : (∀ t, bitB p.mask t = true → bitB (footOf l).wr t = true) ∧ (∀ t, t ∈ p.wo → t ∈ (footOf l).wo) ∧ (∀ t, bitB p.lk.r t = true → bitB (footOf l).k.r t = true) ∧ ∀ t, t ∈ p.lk.o → t ∈ (footOf l).k.o := by
  induction l with
  | nil => cases h
  | cons q l ih =>
    rcases List.mem_cons.1 h with e | h
    · subst e
      refine ⟨fun t ht => ?_, fun t ht => List.mem_append_left _ ht, fun t ht => ?_, fun t ht => List.mem_append_left _ ht⟩
      · simp only [footOf, bitB_or, ht, Bool.true_or]
      · simp only [footOf, Lk.or, bitB_or, ht, Bool.true_or]
    · obtain ⟨h1, h2, h3, h4⟩ := ih h
      refine ⟨fun t ht => ?_, fun t ht => List.mem_append_right _ (h2 t ht), fun t ht => ?_, fun t ht => List.mem_append_right _ (h4 t ht)⟩
      · simp only [footOf, bitB_or, h1 t ht, Bool.or_true]
      · simp only [footOf, Lk.or, bitB_or, h3 t ht, Bool.or_true]

theorem Foot.comm_ok {Φ : Funs} {a b : List PI} (h : (footOf a).comm (footOf b) = true) (ρ : Env) : PI.runs Φ (a ++ b) ρ = PI.runs Φ (b ++ a) ρ := by
  simp only [Foot.comm, Bool.and_eq_true] at h
  obtain ⟨h1, h2, h3, h4, h5, h6⟩ := h
  refine PI.comms a b (fun p q hp hq => ?_) ρ
  obtain ⟨p1, p2, p3, p4⟩ := footOf_mem hp
  obtain ⟨q1, q2, q3, q4⟩ := footOf_mem hq
  exact ⟨fun t x y => land0 h1 (p1 t x) (q1 t y), fun t x y => land0 h2 (p1 t x) (q3 t y), fun t x y => land0 h3 (q1 t x) (p3 t y), fun t x y => apartB_ok h4 (p2 t x) (q2 t y), fun t x y => apartB_ok h5 (p2 t x) (q4 t y), fun t x y => apartB_ok h6 (q2 t x) (p4 t y)⟩

/-! an operation turns the shape of its own register alone -/
def Only (S : St) (dst : Nat) (S' : St) : Prop := ∀ t, t ≠ dst → S'.r t = S.r t
section
variable {C : Ctx} {S : St} {gs : List (Nat × Bool)} {dst : Nat} {r : St × List PI}
theorem only_setR {X : St} {s : Sh} (h : X.r = S.r) : Only S dst (X.setR dst s) := fun t ht => by simp only [St.setR, upd_ne _ _ ht, h]
theorem fz_r (S : St) (j : Nat) : (S.fz j).r = S.r := (fz_ver S j).2

theorem eNil_only {T : TypeId} {x : Operand} (h : eNil C S dst T x = some r) : Only S dst r.1 := by
  unfold eNil at h; split at h
  · simp only [Option.map_eq_some_iff] at h; obtain ⟨e, _, rfl⟩ := h; exact only_setR rfl
  · cases h
theorem eZero_only {T : TypeId} {x : Operand} (h : eZero C S dst T x = some r) : Only S dst r.1 := by
  unfold eZero at h; split at h
  · rename_i v
    simp only [Option.bind_eq_some_iff] at h; obtain ⟨e, _, z, _, h⟩ := h
    cases hc : zeroOk e v <;> simp only [hc, cond_true, cond_false] at h <;> cases h
    exact only_setR rfl
  · cases h
theorem eAlloc_only {T : TypeId} (h : eAlloc C S dst T = some r) : Only S dst r.1 := by
  unfold eAlloc at h; split at h
  · rename_i t inf ag _ _ _
    cases hc : (zeroIs inf t && (t.rowT || t.one)) <;> simp only [hc, cond_true, cond_false] at h
    · cases h
    · simp only [Option.map_eq_some_iff] at h; obtain ⟨e, _, rfl⟩ := h; exact only_setR rfl
  · cases h
theorem eBox_only {T : TypeId} {x : Operand} (h : eBox C S dst T x = some r) : Only S dst r.1 := by
  unfold eBox at h; split at h
  · rename_i t e ag _ _
    cases hc : (t.rowT || t.one) <;> simp only [hc, cond_true, cond_false] at h <;> cases h
    exact only_setR rfl
  · cases h
theorem eMakeMap_only {T : TypeId} {x : Option Operand} (h : eMakeMap C S dst T x = some r) : Only S dst r.1 := by
  unfold eMakeMap at h; split at h
  · simp only [Option.bind_eq_some_iff, Option.map_eq_some_iff] at h; obtain ⟨e, _, z, _, rfl⟩ := h; exact only_setR rfl
  · cases h
theorem eMakeSlice_only {T : TypeId} {x y : Operand} (h : eMakeSlice C S dst T x y = some r) : Only S dst r.1 := by
  unfold eMakeSlice at h; split at h
  · rename_i E _ n _ m _ _ _
    simp only [Option.bind_eq_some_iff] at h; obtain ⟨e, _, h⟩ := h
    cases hc : elemFact C.P E e <;> simp only [hc, cond_true, cond_false] at h
    · cases h
    · simp only [Option.bind_eq_some_iff] at h; obtain ⟨z, _, h⟩ := h
      cases hc2 : Ty.sub z.1 e <;> simp only [hc2, cond_true, cond_false] at h <;> cases h
      exact only_setR rfl
  · cases h
theorem eBuildSlice_only {T : TypeId} {n : Nat} {ps : List (Nat × Operand)} (h : eBuildSlice C S gs dst T n ps = some r) : Only S dst r.1 := by
  unfold eBuildSlice at h; split at h
  · simp only [Option.bind_eq_some_iff] at h; obtain ⟨e, _, z, _, h⟩ := h
    revert h
    generalize (_ && _ : Bool) = b
    intro h
    cases b <;> simp only [cond_true, cond_false] at h
    · cases h
    · simp only [Option.map_eq_some_iff] at h; obtain ⟨es, _, rfl⟩ := h; exact only_setR rfl
  · cases h
theorem eLit_only {T : TypeId} {n : Nat} {ps : List (Nat × Operand)} (h : eLit C S gs dst T n ps = some r) : Only S dst r.1 := by
  unfold eLit at h; split at h
  · simp only [Option.bind_eq_some_iff] at h; obtain ⟨e, _, h⟩ := h
    split at h
    · cases h; exact only_setR rfl
    · cases h
  · cases h
theorem eAppend_only {T : TypeId} {x y : Operand} (h : eAppend C S dst T x y = some r) : Only S dst r.1 := by
  unfold eAppend at h; split at h
  · rename_i E _
    simp only [Option.bind_eq_some_iff] at h; obtain ⟨e, _, h⟩ := h
    split at h
    · rename_i tx ex _
      cases hc : (elemFact C.P E e && srcTy tx e) <;> simp only [hc, cond_true, cond_false] at h
      · cases h
      · split at h
        · cases h; exact only_setR rfl
        · cases h
        · split at h
          · rename_i j ver _
            cases hc : Nat.beq ver (S.ver j) <;> simp only [hc, cond_true, cond_false] at h
            · cases h
            · split at h
              · rename_i E' e' _
                cases hc : (Nat.beq E' E && Ty.beq e' e) <;> simp only [hc, cond_true, cond_false] at h <;> cases h
                exact only_setR rfl
              · cases h
          · cases h
    · cases h
  · cases h
theorem eCallRow_only {f : Nat} {xs : List Operand} (h : eCallRow C S dst f xs = some r) : Only S dst r.1 := by
  simp only [eCallRow, Option.bind_eq_some_iff] at h
  obtain ⟨s, _, h⟩ := h
  split at h
  · rename_i T e _
    simp only [Option.bind_eq_some_iff] at h; obtain ⟨u, _, h⟩ := h
    cases hc : Ty.subs u.1 s.args <;> simp only [hc, cond_true, cond_false] at h <;> cases h
    refine only_setR (X := (bif e.pure then S else S.fzs (objsOf S [] xs)).newO dst (.row T e)) ?_
    cases e.pure
    · exact (fzs_ver _ S).2
    · rfl
  · cases h
theorem eCall_r {f : Nat} {xs : List Operand} {q : St × Sh × List PI} (h : eCall C S gs dst f xs = some q) : q.1.r = S.r := by
  simp only [eCall, Option.bind_eq_some_iff] at h
  obtain ⟨s, _, h⟩ := h
  split at h
  · simp only [Option.bind_eq_some_iff] at h; obtain ⟨u, _, h⟩ := h
    cases hc : Ty.subs u.1 s.args <;> simp only [hc, cond_true, cond_false] at h <;> cases h
    cases s.res.pure
    · exact (fzs_ver _ S).2
    · rfl
  · cases h
theorem eCallC_r {x : Operand} {xs : List Operand} {q : St × Sh × List PI} (h : eCallC C S gs dst x xs = some q) : q.1.r = S.r := by
  unfold eCallC at h
  split at h
  · rename_i as r0 _ _
    split at h
    case h_1 => cases h
    simp only [Option.bind_eq_some_iff] at h; obtain ⟨u, _, h⟩ := h
    cases hc : Ty.subs u.1 as <;> simp only [hc, cond_true, cond_false] at h <;> cases h
    cases r0.pure
    · exact (fzs_ver _ S).2
    · rfl
  · cases h
theorem eStore_r {T : TypeId} {x v : Operand} (h : eStore C S T x v = some r) : r.1.r = S.r := by
  unfold eStore at h
  split at h
  case h_2 => cases h
  rename_i inf _
  split at h
  · rename_i j ver off _
    cases hc : Nat.beq ver (S.ver j) <;> simp only [hc, cond_true, cond_false] at h
    · cases h
    split at h
    case h_2 => cases h
    rename_i ag shs _
    split at h
    · revert h
      generalize (_ && _ : Bool) = b
      intro h
      cases b <;> simp only [cond_true, cond_false] at h <;> cases h
      rfl
    · split at h
      · revert h
        generalize (_ && _ : Bool) = b
        intro h
        cases b <;> simp only [cond_true, cond_false] at h <;> cases h
        rfl
      · cases h
  · rename_i j ver size off _
    cases hc : Nat.beq ver (S.ver j) <;> simp only [hc, cond_true, cond_false] at h
    · cases h
    split at h
    · revert h
      generalize (_ && _ : Bool) = b
      intro h
      cases b <;> simp only [cond_true, cond_false] at h <;> cases h
      rfl
    · revert h
      generalize (_ && _ : Bool) = b
      intro h
      cases b <;> simp only [cond_true, cond_false] at h <;> cases h
      rfl
    · cases h
  · cases h
theorem eMapUpdate_r {T : TypeId} {m k v : Operand} (h : eMapUpdate C S T m k v = some r) : r.1.r = S.r := by
  unfold eMapUpdate at h
  split at h
  · rename_i K _ j ver _ _
    cases hc : Nat.beq ver (S.ver j) <;> simp only [hc, cond_true, cond_false] at h
    · cases h
    split at h
    · revert h
      generalize (_ && _ : Bool) = b
      intro h
      cases b <;> simp only [cond_true, cond_false] at h <;> cases h
      rfl
    · cases h
  · cases h

theorem eCallOb_r {f : Nat} {xs : List Operand} {cs : List (Nat × Nat)} {q : St × Ty × List PI} (h : eCallOb C S f xs cs = some q) : q.1.r = S.r := by
  simp only [eCallOb, Option.bind_eq_some_iff] at h
  obtain ⟨s, _, h⟩ := h
  split at h
  · rename_i shs obs _
    unfold eCallOb2 eCallOb1 at h
    simp only [Option.bind_eq_some_iff] at h
    obtain ⟨u, _, h⟩ := h
    revert h
    generalize (_ && _ : Bool) = b
    intro h
    cases b <;> simp only [cond_true, cond_false] at h <;> cases h
    exact (fzs_ver _ S).2
  · cases h
theorem eCallObC_r {t : Nat} {xs : List Operand} {q : St × Ty × List PI} (h : eCallObC C S t xs = some q) : q.1.r = S.r := by
  unfold eCallObC at h
  split at h
  · rename_i f caps _
    cases hc : capsOK S caps <;> simp only [hc, cond_true, cond_false] at h
    · cases h
    · exact eCallOb_r h
  · cases h
theorem obRes_only {dst : Nat} {q : St × Ty × List PI} (h : q.1.r = S.r) : Only S dst (obRes S (some dst) q).1 := only_setR h
theorem eMkClo_only {fn : Fn} {a b : Array Operand} (h : eMkClo C S dst fn a b = some r) : Only S dst r.1 := by
  unfold eMkClo at h
  split at h
  case h_2 => cases h
  split at h
  case h_2 => cases h
  rename_i s _
  cases hb : isOb s.mode <;> simp only [hb, cond_true, cond_false] at h
  · cases h
  simp only [Option.map_eq_some_iff] at h
  obtain ⟨c, _, rfl⟩ := h
  exact only_setR rfl

theorem core_only {o : Oper} (hr : core C S gs o = some r) : ∀ t, o.dst ≠ some t → r.1.r t = S.r t := by
  unfold core at hr
  split at hr
  · rename_i dst hd
    suffices h : Only S dst r.1 by
      intro t ht
      exact h t (fun e => ht (by rw [hd, e]))
    split at hr
    · rename_i q hq
      cases hno : notOpt q.1 <;> simp only [hno, cond_true, cond_false] at hr <;> cases hr
      exact only_setR rfl
    · split at hr
      · rename_i x e _
        have mv : ∀ r, (match opMove C S [] dst x with | some r => some (S.setR dst r.1, r.2) | none => eZero C S dst o.type x) = some r → Only S dst r.1 := by
          intro r hr
          split at hr
          · cases hr; exact only_setR rfl
          · exact eZero_only hr
        cases hfr : C.fr.any (Nat.beq dst) <;> simp only [hfr, cond_true, cond_false] at hr
        · split at hr
          · rename_i q hq; cases hr; exact eNil_only hq
          · exact mv r hr
        · exact mv r hr
      · exact eAlloc_only hr
      · exact eBox_only hr
      · split at hr
        · exact eBuildSlice_only hr
        · exact eLit_only hr
      · exact eMakeSlice_only hr
      · exact eMakeMap_only hr
      · rename_i c e
        split at hr
        · split at hr
          · rename_i s x T T' _ _
            cases hT : Nat.beq T T' <;> simp only [hT, cond_true, cond_false] at hr
            · cases hr
            · exact eAppend_only hr
          · cases hr
        · split at hr
          · rename_i q hq; cases hr; exact only_setR (eCall_r hq)
          · split at hr
            · split at hr
              · rename_i q hq; cases hr; exact eCallRow_only hq
              · simp only [Option.map_eq_some_iff] at hr
                obtain ⟨q, hq, rfl⟩ := hr
                exact obRes_only (eCallOb_r hq)
            · cases hr
        · split at hr
          · rename_i q hq; cases hr; exact only_setR (eCallC_r hq)
          · split at hr
            · simp only [Option.map_eq_some_iff] at hr
              obtain ⟨q, hq, rfl⟩ := hr
              exact obRes_only (eCallObC_r hq)
            · cases hr
        · cases hr
      · exact eMkClo_only hr
      · cases hr
  · split at hr
    · intro t _; rw [eStore_r hr]
    · intro t _; rw [eMapUpdate_r hr]
    · intro t _; rw [eMapUpdate_r hr]
    · cases hr; intro t _; rfl
    · intro t _
      split at hr
      · simp only [Option.map_eq_some_iff] at hr
        obtain ⟨q, hq, rfl⟩ := hr
        simp only [obRes, eCallOb_r hq]
      · simp only [Option.map_eq_some_iff] at hr
        obtain ⟨q, hq, rfl⟩ := hr
        simp only [obRes, eCallObC_r hq]
      · cases hr
    · cases hr

theorem ghost_only {g : Gh} (hr : g.run C S = some r) : ∀ t, (∀ u j, g = .rereg u j → t ≠ u) → r.1.r t = S.r t := by
  intro t ht
  cases g with
  | fz j => simp only [Gh.run, Option.some.injEq] at hr; subst hr; rw [fz_r]
  | fbox b =>
    simp only [Gh.run, freezeBox] at hr
    split at hr
    case h_2 => cases hr
    rename_i ag shs _
    simp only [Option.bind_eq_some_iff] at hr
    obtain ⟨x, _, hr⟩ := hr
    cases ag <;> simp only [cond_true, cond_false] at hr
    · split at hr
      · cases hr; rfl
      · cases hr
    · cases hr; rfl
  | rereg u j =>
    simp only [Gh.run, rehomeReg] at hr
    split at hr
    · revert hr
      generalize (_ && _ : Bool) = b
      intro hr
      cases b <;> simp only [cond_true, cond_false] at hr <;> cases hr
      · rfl
      · simp only [St.setR, upd_ne _ _ (ht u j rfl)]; rfl
    · cases hr; rfl
  | recell b i j =>
    simp only [Gh.run, rehomeCell] at hr
    split at hr
    · split at hr
      · revert hr
        generalize (_ && _ : Bool) = b
        intro hr
        cases b <;> simp only [cond_true, cond_false] at hr <;> cases hr <;> rfl
      · cases hr; rfl
    · cases hr; rfl
  | home b i j T =>
    simp only [Gh.run, homeCell] at hr
    split at hr
    · split at hr
      · revert hr
        generalize (!_ : Bool) = b
        intro hr
        cases b <;> simp only [cond_true, cond_false] at hr <;> cases hr <;> rfl
      · cases hr; rfl
    · cases hr; rfl

theorem ghosts_only : ∀ (l : List Gh) {S : St} {r : St × List PI}, ghosts C l S = some r → ∀ t, (∀ g u j, g ∈ l → g = .rereg u j → t ≠ u) → r.1.r t = S.r t
  | [], S, r, hr, t, _ => by simp only [ghosts, Option.some.injEq] at hr; subst hr; rfl
  | g :: l, S, r, hr, t, ht => by
    simp only [ghosts, Option.bind_eq_some_iff, Option.map_eq_some_iff] at hr
    obtain ⟨q, hq, q2, hq2, rfl⟩ := hr
    have h1 := ghosts_only l hq2 t (fun g u j hg => ht g u j (List.mem_cons_of_mem _ hg))
    have h2 := ghost_only hq t (fun u j e => ht g u j (List.mem_cons_self ..) e)
    exact h1.trans h2

theorem pre_noreg (S : St) (gs : List (Nat × Bool)) (o : Oper) : ∀ g u j, g ∈ pre C S gs o.op ++ preFr C S gs o → g ≠ .rereg u j := by
  intro g u j hg e
  subst e
  rw [List.mem_append] at hg
  rcases hg with hg | hg
  · unfold pre at hg
    split at hg
    · rename_i fn _ _ _
      cases ho : obFn C fn <;> simp only [ho, cond_true, cond_false] at hg
      case true => cases hg
      obtain ⟨b, _, hb⟩ := List.mem_flatMap.1 hg
      rw [List.mem_append] at hb
      rcases hb with hb | hb
      · split at hb
        · obtain ⟨_, _, h⟩ := List.mem_map.1 hb; cases h
        · cases hb
      · simp at hb
    · split at hg
      · split at hg
        · obtain ⟨_, _, h⟩ := List.mem_map.1 hg; cases h
        · cases hg
      · cases hg
    · obtain ⟨_, _, h⟩ := List.mem_map.1 hg; cases h
  · unfold preFr at hg
    split at hg
    · rename_i x t _ _
      cases hc : C.fr.any (Nat.beq t) <;> simp only [hc, cond_true, cond_false] at hg
      · cases hg
      · obtain ⟨_, _, h⟩ := List.mem_map.1 hg; cases h
    · cases hg

theorem post_reg (S : St) (o : Oper) : ∀ g u j, g ∈ post C S o → g = .rereg u j → o.dst = some u := by
  intro g u j hg e
  subst e
  unfold post at hg
  split at hg
  · rename_i t _ hd
    simp at hg
    rw [hd, hg.1]
  · unfold keptHomes homes at hg
    have := (List.mem_filter.1 hg).1
    obtain ⟨x, _, hx⟩ := List.mem_filterMap.1 this
    cases hx1 : x.1 <;> rw [hx1] at hx <;> simp at hx
  · split at hg
    · rw [List.mem_append] at hg
      rcases hg with hg | hg
      · unfold keptHomes homes at hg
        have := (List.mem_filter.1 hg).1
        obtain ⟨x, _, hx⟩ := List.mem_filterMap.1 this
        cases hx1 : x.1 <;> rw [hx1] at hx <;> simp at hx
      · unfold rehomes at hg
        obtain ⟨_, _, h⟩ := List.mem_map.1 hg; cases h
    · cases hg
  · cases hg

theorem compOpB_only {ops : Array Oper} {o : Oper} (hr : compOpB C S ops o = some r) : ∀ t, o.dst ≠ some t → r.1.r t = S.r t := by
  intro t ht
  unfold compOpB at hr
  split at hr
  · rename_i q hq
    cases hr
    simp only [compOp0, Option.bind_eq_some_iff] at hq
    obtain ⟨gs, _, r1, h1, r2, h2, r3, h3, hq⟩ := hq
    revert hq
    generalize guardOK gs o.dst r2.2 = b
    intro hq
    cases b <;> simp only [cond_true, cond_false] at hq <;> cases hq
    have e1 := ghosts_only _ h1 t (fun g u j hg e => absurd e (pre_noreg S gs o g u j hg))
    have e2 := core_only h2 t ht
    have e3 := ghosts_only _ h3 t (fun g u j hg e => by
      have := post_reg r2.1 o g u j hg e
      intro e'; subst e'; exact ht this)
    exact e3.trans (e2.trans e1)
  · cases hr
    split
    · rename_i d hd
      simp only [St.setR]
      rw [upd_ne]
      intro e; subst e; exact ht hd
    · rfl
theorem compOp_only {ops : Array Oper} {o : Oper} (hr : compOp C S ops o = some r) : ∀ t, o.dst ≠ some t → r.1.r t = S.r t := by
  intro t ht
  unfold compOp at hr
  split at hr
  · rename_i q hq
    cases hr
    unfold compY at hq
    split at hq
    case h_2 => cases hq
    rename_i dst _ args _ _ _ hd _ _
    simp only [Option.bind_eq_some_iff] at hq
    obtain ⟨gs, _, hq⟩ := hq
    split at hq
    case h_2 => cases hq
    split at hq
    case h_2 => cases hq
    simp only [Option.bind_eq_some_iff] at hq
    obtain ⟨u, _, hq⟩ := hq
    rw [Bool.cond_eq_ite] at hq
    split at hq <;> cases hq
    simp only [St.setR]
    rw [upd_ne, (fzs_ver _ S).2]
    intro e; subst e; exact ht hd
  · exact compOpB_only hr t ht
theorem compSeq_only {ops : Array Oper} : ∀ {l : List Nat} {S : St} {r : St × List PI}, compSeq C ops l S = some r → ∀ t, (∀ i o, i ∈ l → ops[i]? = some o → o.dst ≠ some t) → r.1.r t = S.r t
  | [], S, r, h, t, _ => by simp only [compSeq, Option.some.injEq] at h; subst h; rfl
  | i :: l, S, r, h, t, ht => by
    simp only [compSeq] at h
    split at h
    · rename_i o ho
      simp only [Option.bind_eq_some_iff, Option.map_eq_some_iff] at h
      obtain ⟨q, hq, q2, hq2, rfl⟩ := h
      exact (compSeq_only hq2 t fun j o hj => ht j o (List.mem_cons_of_mem _ hj)).trans (compOp_only hq t (ht i o (List.mem_cons_self ..) ho))
    · cases h
end
end Cx
