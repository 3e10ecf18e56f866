/-
  Symbolic execution: code without loops as a tree over the registers at its entry.
-/
import Derived.Test.YtaihcmbfhgmjgaaCyG
set_option linter.unusedSimpArgs false
set_option linter.unusedVariables false
namespace Cx
open Go Go.RowKit

structure SE where
  r : List (Nat × PE)
  o : List (Nat × PE)
def SE.getR (s : SE) (t : Nat) : PE := match lookL s.r t with | some e => e | none => .r t
def SE.getO (s : SE) (t : Nat) : PE := match lookL s.o t with | some e => e | none => .o t
def SE.setR (s : SE) (t : Nat) (e : PE) : SE := ⟨(t, e) :: s.r, s.o⟩
def SE.setO (s : SE) (t : Nat) (e : PE) : SE := ⟨s.r, (t, e) :: s.o⟩
def SE.id : SE := ⟨[], []⟩
def SE.ev (s : SE) (ρ : Env) : Env := ⟨fun t => (s.getR t).ev ρ, fun t => (s.getO t).ev ρ⟩
def SE.join (s : SE) (lr lo : List Nat) (s' : SE) : SE := ⟨lr.map (fun t => (t, s'.getR t)) ++ s.r, lo.map (fun t => (t, s'.getO t)) ++ s.o⟩

theorem SE.id_ev (ρ : Env) : SE.id.ev ρ = ρ := rfl
theorem SE.setR_ev (s : SE) (t : Nat) (e : PE) (ρ : Env) : (s.setR t e).ev ρ = (s.ev ρ).setR t (e.ev ρ) := by
  have h : (fun u => ((s.setR t e).getR u).ev ρ) = upd (fun u => (s.getR u).ev ρ) t (e.ev ρ) := by
    funext u
    simp only [SE.getR, SE.setR, lookL, upd_apply]
    by_cases h : t = u
    · subst h; simp
    · have h' : ¬ u = t := fun e => h e.symm
      simp [beq_ne h, h']
  simp only [SE.ev, Env.setR]; rw [h]; rfl
theorem SE.setO_ev (s : SE) (t : Nat) (e : PE) (ρ : Env) : (s.setO t e).ev ρ = (s.ev ρ).setO t (e.ev ρ) := by
  have h : (fun u => ((s.setO t e).getO u).ev ρ) = upd (fun u => (s.getO u).ev ρ) t (e.ev ρ) := by
    funext u
    simp only [SE.getO, SE.setO, lookL, upd_apply]
    by_cases h : t = u
    · subst h; simp
    · have h' : ¬ u = t := fun e => h e.symm
      simp [beq_ne h, h']
  simp only [SE.ev, Env.setO]; rw [h]; rfl
theorem lookL_join {f : Nat → PE} {l : List (Nat × PE)} {u : Nat} : ∀ (lr : List Nat), lookL (lr.map (fun t => (t, f t)) ++ l) u = if u ∈ lr then some (f u) else lookL l u
  | [] => by simp
  | t :: lr => by
    simp only [List.map_cons, List.cons_append, lookL, lookL_join lr, List.mem_cons]
    by_cases h : t = u
    · subst h; simp
    · have h' : ¬ u = t := fun e => h e.symm
      simp [beq_ne h, h']
theorem SE.join_ev (s s' : SE) (lr lo : List Nat) (ρ : Env) : (s.join lr lo s').ev ρ = (s.ev ρ).join lr lo (s'.ev ρ) := by
  have h1 : ∀ u, ((s.join lr lo s').getR u).ev ρ = ((s.ev ρ).join lr lo (s'.ev ρ)).r u := by
    intro u
    rw [Env.join_r]
    have e : lookL (s.join lr lo s').r u = if u ∈ lr then some (s'.getR u) else lookL s.r u := lookL_join lr
    unfold SE.getR
    rw [e]
    by_cases h : u ∈ lr
    · simp only [h, if_true]; rfl
    · simp only [h, if_false]; rfl
  have h2 : ∀ u, ((s.join lr lo s').getO u).ev ρ = ((s.ev ρ).join lr lo (s'.ev ρ)).o u := by
    intro u
    rw [Env.join_o]
    have e : lookL (s.join lr lo s').o u = if u ∈ lo then some (s'.getO u) else lookL s.o u := lookL_join lo
    unfold SE.getO
    rw [e]
    by_cases h : u ∈ lo
    · simp only [h, if_true]; rfl
    · simp only [h, if_false]; rfl
  have e1 : (fun u => ((s.join lr lo s').getR u).ev ρ) = ((s.ev ρ).join lr lo (s'.ev ρ)).r := funext h1
  have e2 : (fun u => ((s.join lr lo s').getO u).ev ρ) = ((s.ev ρ).join lr lo (s'.ev ρ)).o := funext h2
  show Env.mk _ _ = _
  rw [e1, e2]

/-- what is known on a way -/
abbrev Asm := List (PE × Bool)
def Asm.ok (asm : Asm) (ρ : Env) : Prop := ∀ x, x ∈ asm → (x.1.ev ρ).b = x.2
def asmLook (e : PE) : Asm → Option Bool
  | [] => none
  | x :: l => bif PE.beq x.1 e then some x.2 else asmLook e l
theorem asmLook_ok {e : PE} {ρ : Env} {b : Bool} : ∀ {asm : Asm}, asm.ok ρ → asmLook e asm = some b → (e.ev ρ).b = b
  | [], _, h => by cases h
  | x :: l, hok, h => by
    simp only [asmLook] at h
    cases hb : PE.beq x.1 e <;> simp only [hb, cond_true, cond_false] at h
    · exact asmLook_ok (fun y hy => hok y (List.mem_cons_of_mem _ hy)) h
    · cases h; rw [← PE.beq_eq _ _ hb]; exact hok x (List.mem_cons_self ..)
def truth (asm : Asm) : PE → Option Bool
  | .con (.v (.bool b)) => some b
  | .nt x => (truth asm x).map (!·)
  | e => asmLook e asm
theorem truth_ok {asm : Asm} {ρ : Env} (h : asm.ok ρ) : ∀ {e : PE} {b : Bool}, truth asm e = some b → (e.ev ρ).b = b
  | .con (.v (.bool b)), b', he => by simp only [truth, Option.some.injEq] at he; subst he; rfl
  | .nt x, b', he => by
    simp only [truth, Option.map_eq_some_iff] at he
    obtain ⟨c, hc, rfl⟩ := he
    simp only [PE.ev, D.b_bool, truth_ok h hc]
  | e, b', he => by
    unfold truth at he
    split at he
    · cases he; rfl
    · rename_i x
      simp only [Option.map_eq_some_iff] at he
      obtain ⟨c, hc, rfl⟩ := he
      simp only [PE.ev, D.b_bool, truth_ok h hc]
    · exact asmLook_ok h he

def pickE (asm : Asm) (c a b : PE) : PE := match truth asm c with | some true => a | some false => b | none => .pick c a b
theorem pickE_ev {asm : Asm} {ρ : Env} (h : asm.ok ρ) (c a b : PE) : (pickE asm c a b).ev ρ = (PE.pick c a b).ev ρ := by
  unfold pickE
  split
  · rename_i ht; simp [PE.ev, truth_ok h ht]
  · rename_i ht; simp [PE.ev, truth_ok h ht]
  · rfl
def derefE : PE → PE
  | .ref x => x
  | x => .deref x
theorem derefE_ev (x : PE) (ρ : Env) : (derefE x).ev ρ = (PE.deref x).ev ρ := by unfold derefE; split <;> rfl
def tgetE : PE → Nat → PE
  | .tup es, i => es.getD i (.con .none)
  | x, i => .tget x i
theorem tgetE_ev (x : PE) (i : Nat) (ρ : Env) : (tgetE x i).ev ρ = (PE.tget x i).ev ρ := by
  unfold tgetE
  split
  · rename_i es
    simp only [PE.ev, D.tget_tup, PE.evs_eq, List.getD_eq_getElem?_getD, List.getElem?_map]
    cases es[i]? <;> rfl
  · rfl
/-- values of one cell -/
def oneE1 : PE → Bool
  | .ai .. | .ci .. | .cb .. | .cs .. | .sadd .. | .nt _ | .conv .. | .llen _ | .slen _ | .mlen _ | .idx .. | .sidx .. | .sok .. | .slok .. | .lst _ | .app .. | .setn .. | .rep .. | .slc .. | .ref _ | .has .. | .put .. | .an .. | .imp .. | .tup _ | .clo .. => true
  | .con (.v _) | .con (.list _) | .con (.map _) => true
  | _ => false
theorem oneE1_ev {e : PE} (h : oneE1 e = true) (ρ : Env) : (e.ev ρ).cells = [e.ev ρ] := by
  unfold oneE1 at h
  split at h <;> first | rfl | cases h
def cellE : PE → Nat → PE
  | .mk es, i => bif es.all oneE1 then es.getD i (.con .none) else .cell (.mk es) i
  | x, i => .cell x i
theorem evc_one {ρ : Env} : ∀ {es : List PE}, es.all oneE1 = true → PE.evc ρ es = PE.evs ρ es
  | [], _ => rfl
  | e :: es, h => by
    simp only [List.all_cons, Bool.and_eq_true] at h
    simp only [PE.evc, PE.evs, oneE1_ev h.1, evc_one h.2]; rfl
theorem cellE_ev (x : PE) (i : Nat) (ρ : Env) : (cellE x i).ev ρ = (PE.cell x i).ev ρ := by
  unfold cellE
  split
  · rename_i es
    cases hc : es.all oneE1
    · rfl
    · simp only [cond_true, PE.ev, evc_one hc, D.c_agg, PE.evs_eq, List.getD_eq_getElem?_getD, List.getElem?_map]
      cases es[i]? <;> rfl
  · rfl
/-- the guards as an expression -/
def gsE (s : SE) : List (Nat × Bool) → PE
  | [] => .con (.v (.bool true))
  | g :: gs => .an (bif g.2 then s.getR g.1 else .nt (s.getR g.1)) (gsE s gs)
theorem gsE_ev (s : SE) (ρ : Env) : ∀ gs, ((gsE s gs).ev ρ).b = holds gs (s.ev ρ)
  | [] => rfl
  | g :: gs => by
    have ih := gsE_ev s ρ gs
    rw [holds_cons, ← ih]
    have e : ((s.ev ρ).r g.1) = (s.getR g.1).ev ρ := rfl
    rw [e]
    cases hg : g.2
    · simp only [gsE, hg, cond_false, PE.ev, D.b_bool]; cases ((s.getR g.1).ev ρ).b <;> rfl
    · simp only [gsE, hg, cond_true, PE.ev, D.b_bool]; cases ((s.getR g.1).ev ρ).b <;> rfl

mutual
def PE.sub' (asm : Asm) (s : SE) : PE → PE
  | .r t => s.getR t
  | .o j => s.getO j
  | .con d => .con d
  | .cell e i => cellE (PE.sub' asm s e) i
  | .sub e a b => .sub (PE.sub' asm s e) a b
  | .setc e q x => .setc (PE.sub' asm s e) q (PE.sub' asm s x)
  | .mk es => .mk (PE.subs' asm s es)
  | .ai op k x y => .ai op k (PE.sub' asm s x) (PE.sub' asm s y)
  | .ci op x y => .ci op (PE.sub' asm s x) (PE.sub' asm s y)
  | .cb op x y => .cb op (PE.sub' asm s x) (PE.sub' asm s y)
  | .cs op x y => .cs op (PE.sub' asm s x) (PE.sub' asm s y)
  | .sadd x y => .sadd (PE.sub' asm s x) (PE.sub' asm s y)
  | .nt x => .nt (PE.sub' asm s x)
  | .conv k x => .conv k (PE.sub' asm s x)
  | .pick c a b => pickE asm (PE.sub' asm s c) (PE.sub' asm s a) (PE.sub' asm s b)
  | .llen x => .llen (PE.sub' asm s x)
  | .slen x => .slen (PE.sub' asm s x)
  | .mlen x => .mlen (PE.sub' asm s x)
  | .nth x y => .nth (PE.sub' asm s x) (PE.sub' asm s y)
  | .idx x y => .idx (PE.sub' asm s x) (PE.sub' asm s y)
  | .sidx x y => .sidx (PE.sub' asm s x) (PE.sub' asm s y)
  | .sok x y => .sok (PE.sub' asm s x) (PE.sub' asm s y)
  | .setn x y n z => .setn (PE.sub' asm s x) (PE.sub' asm s y) n (PE.sub' asm s z)
  | .app x y => .app (PE.sub' asm s x) (PE.sub' asm s y)
  | .lst es => .lst (PE.subs' asm s es)
  | .rep x y => .rep (PE.sub' asm s x) (PE.sub' asm s y)
  | .slc x y z => .slc (PE.sub' asm s x) (PE.sub' asm s y) (PE.sub' asm s z)
  | .slok x y z => .slok (PE.sub' asm s x) (PE.sub' asm s y) (PE.sub' asm s z)
  | .ref x => .ref (PE.sub' asm s x)
  | .deref x => derefE (PE.sub' asm s x)
  | .look x y z => .look (PE.sub' asm s x) (PE.sub' asm s y) (PE.sub' asm s z)
  | .has x y => .has (PE.sub' asm s x) (PE.sub' asm s y)
  | .put x y z => .put (PE.sub' asm s x) (PE.sub' asm s y) (PE.sub' asm s z)
  | .mn x y => .mn (PE.sub' asm s x) (PE.sub' asm s y)
  | .mx x y => .mx (PE.sub' asm s x) (PE.sub' asm s y)
  | .tup es => .tup (PE.subs' asm s es)
  | .tget x i => tgetE (PE.sub' asm s x) i
  | .clo f es => .clo f (PE.subs' asm s es)
  | .an x y => .an (PE.sub' asm s x) (PE.sub' asm s y)
  | .imp c x => .nt (.an (gsE s c) (.nt (PE.sub' asm s x)))
def PE.subs' (asm : Asm) (s : SE) : List PE → List PE
  | [] => []
  | e :: es => PE.sub' asm s e :: PE.subs' asm s es
end
mutual
theorem PE.sub_ev {asm : Asm} {ρ : Env} (h : asm.ok ρ) (s : SE) : ∀ (e : PE), (PE.sub' asm s e).ev ρ = e.ev (s.ev ρ)
  | .r t => rfl
  | .o j => rfl
  | .con d => rfl
  | .cell e i => by simp only [PE.sub', cellE_ev, PE.ev, PE.sub_ev h s e]
  | .sub e a b => by simp only [PE.sub', PE.ev, PE.sub_ev h s e]
  | .setc e q x => by simp only [PE.sub', PE.ev, PE.sub_ev h s e, PE.sub_ev h s x]
  | .mk es => by simp only [PE.sub', PE.ev, PE.subc_ev h s es]
  | .ai op k x y => by simp only [PE.sub', PE.ev, PE.sub_ev h s x, PE.sub_ev h s y]
  | .ci op x y => by simp only [PE.sub', PE.ev, PE.sub_ev h s x, PE.sub_ev h s y]
  | .cb op x y => by simp only [PE.sub', PE.ev, PE.sub_ev h s x, PE.sub_ev h s y]
  | .cs op x y => by simp only [PE.sub', PE.ev, PE.sub_ev h s x, PE.sub_ev h s y]
  | .sadd x y => by simp only [PE.sub', PE.ev, PE.sub_ev h s x, PE.sub_ev h s y]
  | .nt x => by simp only [PE.sub', PE.ev, PE.sub_ev h s x]
  | .conv k x => by simp only [PE.sub', PE.ev, PE.sub_ev h s x]
  | .pick c a b => by simp only [PE.sub', pickE_ev h, PE.ev, PE.sub_ev h s c, PE.sub_ev h s a, PE.sub_ev h s b]
  | .llen x => by simp only [PE.sub', PE.ev, PE.sub_ev h s x]
  | .slen x => by simp only [PE.sub', PE.ev, PE.sub_ev h s x]
  | .mlen x => by simp only [PE.sub', PE.ev, PE.sub_ev h s x]
  | .nth x y => by simp only [PE.sub', PE.ev, PE.sub_ev h s x, PE.sub_ev h s y]
  | .idx x y => by simp only [PE.sub', PE.ev, PE.sub_ev h s x, PE.sub_ev h s y]
  | .sidx x y => by simp only [PE.sub', PE.ev, PE.sub_ev h s x, PE.sub_ev h s y]
  | .sok x y => by simp only [PE.sub', PE.ev, PE.sub_ev h s x, PE.sub_ev h s y]
  | .setn x y n z => by simp only [PE.sub', PE.ev, PE.sub_ev h s x, PE.sub_ev h s y, PE.sub_ev h s z]
  | .app x y => by simp only [PE.sub', PE.ev, PE.sub_ev h s x, PE.sub_ev h s y]
  | .lst es => by simp only [PE.sub', PE.ev, PE.subs_ev h s es]
  | .rep x y => by simp only [PE.sub', PE.ev, PE.sub_ev h s x, PE.sub_ev h s y]
  | .slc x y z => by simp only [PE.sub', PE.ev, PE.sub_ev h s x, PE.sub_ev h s y, PE.sub_ev h s z]
  | .slok x y z => by simp only [PE.sub', PE.ev, PE.sub_ev h s x, PE.sub_ev h s y, PE.sub_ev h s z]
  | .ref x => by simp only [PE.sub', PE.ev, PE.sub_ev h s x]
  | .deref x => by simp only [PE.sub', derefE_ev, PE.ev, PE.sub_ev h s x]
  | .look x y z => by simp only [PE.sub', PE.ev, PE.sub_ev h s x, PE.sub_ev h s y, PE.sub_ev h s z]
  | .has x y => by simp only [PE.sub', PE.ev, PE.sub_ev h s x, PE.sub_ev h s y]
  | .put x y z => by simp only [PE.sub', PE.ev, PE.sub_ev h s x, PE.sub_ev h s y, PE.sub_ev h s z]
  | .mn x y => by simp only [PE.sub', PE.ev, PE.sub_ev h s x, PE.sub_ev h s y]
  | .mx x y => by simp only [PE.sub', PE.ev, PE.sub_ev h s x, PE.sub_ev h s y]
  | .tup es => by simp only [PE.sub', PE.ev, PE.subs_ev h s es]
  | .tget x i => by simp only [PE.sub', tgetE_ev, PE.ev, PE.sub_ev h s x]
  | .clo f es => by simp only [PE.sub', PE.ev, PE.subs_ev h s es]
  | .an x y => by simp only [PE.sub', PE.ev, PE.sub_ev h s x, PE.sub_ev h s y]
  | .imp c x => by
    simp only [PE.sub', PE.ev, D.b_bool, gsE_ev, PE.sub_ev h s x]
    cases holds c (s.ev ρ) <;> cases (x.ev (s.ev ρ)).b <;> rfl
theorem PE.subs_ev {asm : Asm} {ρ : Env} (h : asm.ok ρ) (s : SE) : ∀ (es : List PE), PE.evs ρ (PE.subs' asm s es) = PE.evs (s.ev ρ) es
  | [] => rfl
  | e :: es => by simp only [PE.subs', PE.evs, PE.sub_ev h s e, PE.subs_ev h s es]
theorem PE.subc_ev {asm : Asm} {ρ : Env} (h : asm.ok ρ) (s : SE) : ∀ (es : List PE), PE.evc ρ (PE.subs' asm s es) = PE.evc (s.ev ρ) es
  | [] => rfl
  | e :: es => by simp only [PE.subs', PE.evc, PE.sub_ev h s e, PE.subc_ev h s es]
end

/-- A tree: pure pieces are told over the registers at their entry; behind a call, a loop or a piece with such the registers are as they are then. -/
inductive PT where
  | next (s : SE)
  | exit (id : Nat) (s : SE)
  | ret (e : PE)
  | chk (e : PE) (k : PT)
  | ite (c : PE) (a b : PT)
  | call (s : SE) (gs : List (Nat × Bool)) (dst f : Nat) (args : List PE) (k : PT)
  | callc (s : SE) (gs : List (Nat × Bool)) (dst : Nat) (e : PE) (args : List PE) (k : PT)
  | mcall (s : SE) (j f : Nat) (args : List PE) (k : PT)
  | iteS (s : SE) (c : PE) (lr lo : List Nat) (a b k : PT)
  | blockS (s : SE) (id : Nat) (lr lo : List Nat) (a k : PT)
  | brk (s : SE) (c : PC) (k : PT)

def PTwp (T : Funs') : PT → Env → (Out → Prop) → Prop
  | .next s, ρ, Q => Q (.next (s.ev ρ))
  | .exit id s, ρ, Q => Q (.exit id (s.ev ρ))
  | .ret e, ρ, Q => Q (.ret (e.ev ρ))
  | .chk e k, ρ, Q => (e.ev ρ).b = true ∧ PTwp T k ρ Q
  | .ite c a b, ρ, Q => if (c.ev ρ).b = true then PTwp T a ρ Q else PTwp T b ρ Q
  | .call s gs dst f args k, ρ, Q => if holds gs (s.ev ρ) = true then ∃ d, Runs T f (PE.evs (s.ev ρ) args) d ∧ PTwp T k ((s.ev ρ).setR dst d) Q else PTwp T k (s.ev ρ) Q
  | .callc s gs dst e args k, ρ, Q => if holds gs (s.ev ρ) = true then ∃ f caps d, e.ev (s.ev ρ) = .clo f caps ∧ Runs T f (PE.evs (s.ev ρ) args ++ caps) d ∧ PTwp T k ((s.ev ρ).setR dst d) Q else PTwp T k (s.ev ρ) Q
  | .mcall s j f args k, ρ, Q => ∃ d, Runs T f (PE.evs (s.ev ρ) args) d ∧ PTwp T k ((s.ev ρ).setO j d) Q
  | .iteS s c lr lo a b k, ρ, Q => if (c.ev (s.ev ρ)).b = true then PTwp T a (s.ev ρ) (joinQ (s.ev ρ) lr lo (seqQ (fun ρ' => PTwp T k ρ' Q) Q)) else PTwp T b (s.ev ρ) (joinQ (s.ev ρ) lr lo (seqQ (fun ρ' => PTwp T k ρ' Q) Q))
  | .blockS s id lr lo a k, ρ, Q => PTwp T a (s.ev ρ) (blockQ (s.ev ρ) id lr lo (seqQ (fun ρ' => PTwp T k ρ' Q) Q))
  | .brk s c k, ρ, Q => EvP T c (s.ev ρ) (seqQ (fun ρ' => PTwp T k ρ' Q) Q)

def pureI : PI → Bool
  | .setR .. | .setO .. | .chk _ => true
  | _ => false
def pureC : PC → Bool
  | .loop .. => false
  | .each .. => false
  | .seq a b => pureC a && pureC b
  | .ite _ _ _ a b => pureC a && pureC b
  | .block _ _ _ a => pureC a
  | .is l => l.all pureI
  | _ => true

abbrev Kn := Asm → SE → PT
abbrev Kx := Asm → Nat → SE → PT

def sxI : List PI → Asm → SE → Kn → PT
  | [], asm, s, k => k asm s
  | .setR t e :: l, asm, s, k => sxI l asm (s.setR t (e.sub' asm s)) k
  | .setO t e :: l, asm, s, k => sxI l asm (s.setO t (e.sub' asm s)) k
  | .chk e :: l, asm, s, k =>
    match truth asm (e.sub' asm s) with
    | some true => sxI l asm s k
    | _ => .chk (e.sub' asm s) (sxI l ((e.sub' asm s, true) :: asm) s k)
  | .call gs dst f args :: l, _, s, k => .call s gs dst f args (sxI l [] .id k)
  | .callc gs dst e args :: l, _, s, k => .callc s gs dst e args (sxI l [] .id k)
  | .mcall j f args :: l, _, s, k => .mcall s j f args (sxI l [] .id k)

/-- both ways go on: their registers are picked -/
def SE.merge (s : SE) (asm : Asm) (lr lo : List Nat) (c : PE) (a b : SE) : SE := ⟨lr.map (fun t => (t, pickE asm c (a.getR t) (b.getR t))) ++ s.r, lo.map (fun t => (t, pickE asm c (a.getO t) (b.getO t))) ++ s.o⟩
def plainI : List PI → Asm → SE → Option SE
  | [], _, s => some s
  | .setR t e :: l, asm, s => plainI l asm (s.setR t (e.sub' asm s))
  | .setO t e :: l, asm, s => plainI l asm (s.setO t (e.sub' asm s))
  | _ :: _, _, _ => none
def plain : PC → Asm → SE → Option SE
  | .skip, _, s => some s
  | .is l, asm, s => plainI l asm s
  | .seq a b, asm, s => (plain a asm s).bind fun s => plain b asm s
  | .ite c lr lo a b, asm, s => (plain a asm s).bind fun sa => (plain b asm s).map fun sb => s.merge asm lr lo (c.sub' asm s) sa sb
  | _, _, _ => none
def isLoop : PC → Bool
  | .loop .. => true
  | _ => false

def sx : PC → Asm → SE → Kn → Kx → PT
  | .skip, asm, s, k, _ => k asm s
  | .is l, asm, s, k, _ => sxI l asm s k
  | .seq a b, asm, s, k, kx => sx a asm s (fun asm s => sx b asm s k kx) kx
  | .ite c lr lo a b, asm, s, k, kx =>
    match truth asm (c.sub' asm s) with
    | some true => bif pureC a then sx a asm s (fun asm s' => k asm (s.join lr lo s')) kx else .iteS s c lr lo (sx a [] .id (fun _ s => .next s) (fun _ id s => .exit id s)) (sx b [] .id (fun _ s => .next s) (fun _ id s => .exit id s)) (k [] .id)
    | some false => bif pureC b then sx b asm s (fun asm s' => k asm (s.join lr lo s')) kx else .iteS s c lr lo (sx a [] .id (fun _ s => .next s) (fun _ id s => .exit id s)) (sx b [] .id (fun _ s => .next s) (fun _ id s => .exit id s)) (k [] .id)
    | none =>
      match plain a asm s, plain b asm s with
      | some sa, some sb => k asm (s.merge asm lr lo (c.sub' asm s) sa sb)
      | _, _ =>
      bif pureC a && pureC b then
        .ite (c.sub' asm s) (sx a ((c.sub' asm s, true) :: asm) s (fun asm s' => k asm (s.join lr lo s')) kx) (sx b ((c.sub' asm s, false) :: asm) s (fun asm s' => k asm (s.join lr lo s')) kx)
      else .iteS s c lr lo (sx a [] .id (fun _ s => .next s) (fun _ id s => .exit id s)) (sx b [] .id (fun _ s => .next s) (fun _ id s => .exit id s)) (k [] .id)
  | .block id lr lo a, asm, s, k, kx =>
    bif pureC a then sx a asm s (fun asm s' => k asm (s.join lr lo s')) (fun asm id' s' => bif Nat.beq id' id then k asm (s.join lr lo s') else kx asm id' s')
    else bif isLoop a then .brk s (.block id lr lo a) (k [] .id)
    else .blockS s id lr lo (sx a [] .id (fun _ s => .next s) (fun _ id s => .exit id s)) (k [] .id)
  | .loop lr lo a, _, s, k, _ => .brk s (.loop lr lo a) (k [] .id)
  | .each e ps lo rt a, _, s, k, _ => .brk s (.each e ps lo rt a) (k [] .id)
  | .exit id, asm, s, _, kx => kx asm id s
  | .ret e, asm, s, _, _ => .ret (e.sub' asm s)

theorem Asm.ok_nil (ρ : Env) : Asm.ok [] ρ := fun _ h => nomatch h
theorem Asm.ok_cons {asm : Asm} {ρ : Env} {e : PE} {b : Bool} (h : asm.ok ρ) (he : (e.ev ρ).b = b) : Asm.ok ((e, b) :: asm) ρ := fun x hx => by
  rcases List.mem_cons.1 hx with e' | hx
  · rw [e']; exact he
  · exact h x hx

theorem sxI_ok {T : Funs'} {Q : Out → Prop} {K : Env → Prop} {k : Kn} : ∀ {l : List PI} {asm : Asm} {s : SE} {ρ : Env}, asm.ok ρ → PTwp T (sxI l asm s k) ρ Q →
    (∀ ρ' asm s, (l.all pureI = true → ρ' = ρ) → asm.ok ρ' → PTwp T (k asm s) ρ' Q → K (s.ev ρ')) → wpI T l (s.ev ρ) K
  | [], asm, s, ρ, ha, h, hk => hk ρ asm s (fun _ => rfl) ha h
  | .setR t e :: l, asm, s, ρ, ha, h, hk => by
    simp only [wpI]
    rw [← PE.sub_ev ha s e, ← SE.setR_ev]
    exact sxI_ok ha h fun ρ' asm s hp => hk ρ' asm s fun hl => hp (by simpa [pureI] using hl)
  | .setO t e :: l, asm, s, ρ, ha, h, hk => by
    simp only [wpI]
    rw [← PE.sub_ev ha s e, ← SE.setO_ev]
    exact sxI_ok ha h fun ρ' asm s hp => hk ρ' asm s fun hl => hp (by simpa [pureI] using hl)
  | .chk e :: l, asm, s, ρ, ha, h, hk => by
    simp only [wpI]
    rw [← PE.sub_ev ha s e]
    simp only [sxI] at h
    split at h
    · rename_i ht
      exact ⟨truth_ok ha ht, sxI_ok ha h fun ρ' asm s hp => hk ρ' asm s fun hl => hp (by simpa [pureI] using hl)⟩
    · exact ⟨h.1, sxI_ok (Asm.ok_cons ha h.1) h.2 fun ρ' asm s hp => hk ρ' asm s fun hl => hp (by simpa [pureI] using hl)⟩
  | .call gs dst f args :: l, asm, s, ρ, ha, h, hk => by
    simp only [wpI]
    simp only [sxI, PTwp] at h
    have hk' : ∀ {ρ0 : Env}, ∀ ρ' asm s, (l.all pureI = true → ρ' = ρ0) → asm.ok ρ' → PTwp T (k asm s) ρ' Q → K (s.ev ρ') := fun ρ' asm s _ => hk ρ' asm s fun hl => by simp [pureI] at hl
    split at h
    · rename_i hg
      rw [if_pos hg]
      obtain ⟨d, hd, h⟩ := h
      exact ⟨d, hd, sxI_ok (s := .id) (Asm.ok_nil _) h hk'⟩
    · rename_i hg
      rw [if_neg hg]
      exact sxI_ok (s := .id) (Asm.ok_nil _) h hk'
  | .callc gs dst e args :: l, asm, s, ρ, ha, h, hk => by
    simp only [wpI]
    simp only [sxI, PTwp] at h
    have hk' : ∀ {ρ0 : Env}, ∀ ρ' asm s, (l.all pureI = true → ρ' = ρ0) → asm.ok ρ' → PTwp T (k asm s) ρ' Q → K (s.ev ρ') := fun ρ' asm s _ => hk ρ' asm s fun hl => by simp [pureI] at hl
    split at h
    · rename_i hg
      rw [if_pos hg]
      obtain ⟨f, caps, d, he, hd, h⟩ := h
      exact ⟨f, caps, d, he, hd, sxI_ok (s := .id) (Asm.ok_nil _) h hk'⟩
    · rename_i hg
      rw [if_neg hg]
      exact sxI_ok (s := .id) (Asm.ok_nil _) h hk'
  | .mcall j f args :: l, asm, s, ρ, ha, h, hk => by
    simp only [wpI]
    simp only [sxI, PTwp] at h
    have hk' : ∀ {ρ0 : Env}, ∀ ρ' asm s, (l.all pureI = true → ρ' = ρ0) → asm.ok ρ' → PTwp T (k asm s) ρ' Q → K (s.ev ρ') := fun ρ' asm s _ => hk ρ' asm s fun hl => by simp [pureI] at hl
    obtain ⟨d, hd, h⟩ := h
    exact ⟨d, hd, sxI_ok (s := .id) (Asm.ok_nil _) h hk'⟩

theorem SE.merge_ev {asm : Asm} {ρ : Env} (h : asm.ok ρ) (s a b : SE) (lr lo : List Nat) (c : PE) : (s.merge asm lr lo c a b).ev ρ = (s.ev ρ).join lr lo (if (c.ev ρ).b = true then a.ev ρ else b.ev ρ) := by
  have h1 : ∀ u, ((s.merge asm lr lo c a b).getR u).ev ρ = ((s.ev ρ).join lr lo (if (c.ev ρ).b = true then a.ev ρ else b.ev ρ)).r u := by
    intro u
    rw [Env.join_r]
    have e : lookL (s.merge asm lr lo c a b).r u = if u ∈ lr then some (pickE asm c (a.getR u) (b.getR u)) else lookL s.r u := lookL_join lr
    have e2 : (s.merge asm lr lo c a b).getR u = if u ∈ lr then pickE asm c (a.getR u) (b.getR u) else s.getR u := by
      unfold SE.getR; rw [e]; by_cases h : u ∈ lr <;> simp [h, SE.getR]
    rw [e2]
    by_cases hu : u ∈ lr
    · simp only [hu, if_true, pickE_ev h, PE.ev]
      cases hc : (c.ev ρ).b <;> simp [SE.ev]
    · simp only [hu, if_false]; rfl
  have h2 : ∀ u, ((s.merge asm lr lo c a b).getO u).ev ρ = ((s.ev ρ).join lr lo (if (c.ev ρ).b = true then a.ev ρ else b.ev ρ)).o u := by
    intro u
    rw [Env.join_o]
    have e : lookL (s.merge asm lr lo c a b).o u = if u ∈ lo then some (pickE asm c (a.getO u) (b.getO u)) else lookL s.o u := lookL_join lo
    have e2 : (s.merge asm lr lo c a b).getO u = if u ∈ lo then pickE asm c (a.getO u) (b.getO u) else s.getO u := by
      unfold SE.getO; rw [e]; by_cases h : u ∈ lo <;> simp [h, SE.getO]
    rw [e2]
    by_cases hu : u ∈ lo
    · simp only [hu, if_true, pickE_ev h, PE.ev]
      cases hc : (c.ev ρ).b <;> simp [SE.ev]
    · simp only [hu, if_false]; rfl
  have e1 : (fun u => ((s.merge asm lr lo c a b).getR u).ev ρ) = ((s.ev ρ).join lr lo (if (c.ev ρ).b = true then a.ev ρ else b.ev ρ)).r := funext h1
  have e2 : (fun u => ((s.merge asm lr lo c a b).getO u).ev ρ) = ((s.ev ρ).join lr lo (if (c.ev ρ).b = true then a.ev ρ else b.ev ρ)).o := funext h2
  show Env.mk _ _ = _
  rw [e1, e2]

theorem plainI_ok {T : Funs'} {asm : Asm} {ρ : Env} (ha : asm.ok ρ) : ∀ {l : List PI} {s s' : SE}, plainI l asm s = some s' → ∀ {K : Env → Prop}, K (s'.ev ρ) → wpI T l (s.ev ρ) K
  | [], s, s', h, K, hk => by simp only [plainI, Option.some.injEq] at h; subst h; exact hk
  | .setR t e :: l, s, s', h, K, hk => by simp only [wpI]; rw [← PE.sub_ev ha s e, ← SE.setR_ev]; exact plainI_ok (l := l) ha (show plainI l asm _ = some s' from h) hk
  | .setO t e :: l, s, s', h, K, hk => by simp only [wpI]; rw [← PE.sub_ev ha s e, ← SE.setO_ev]; exact plainI_ok (l := l) ha (show plainI l asm _ = some s' from h) hk
  | .chk _ :: _, _, _, h, _, _ => by simp [plainI] at h
  | .call .. :: _, _, _, h, _, _ => by simp [plainI] at h
  | .callc .. :: _, _, _, h, _, _ => by simp [plainI] at h
  | .mcall .. :: _, _, _, h, _, _ => by simp [plainI] at h
theorem plain_ok {T : Funs'} {asm : Asm} {ρ : Env} (ha : asm.ok ρ) : ∀ (c : PC) {s s' : SE}, plain c asm s = some s' → ∀ {Q : Out → Prop}, Q (.next (s'.ev ρ)) → EvP T c (s.ev ρ) Q := by
  intro c
  induction c with
  | skip => intro s s' h Q hq; simp only [plain, Option.some.injEq] at h; subst h; exact .skip hq
  | is l => intro s s' h Q hq; exact .is (plainI_ok ha h hq)
  | seq a b iha ihb =>
    intro s s' h Q hq
    simp only [plain, Option.bind_eq_some_iff] at h
    obtain ⟨s1, h1, h2⟩ := h
    exact .seq (iha h1 (ihb h2 hq))
  | ite c lr lo a b iha ihb =>
    intro s s' h Q hq
    simp only [plain, Option.bind_eq_some_iff, Option.map_eq_some_iff] at h
    obtain ⟨sa, h1, sb, h2, rfl⟩ := h
    rw [SE.merge_ev ha, PE.sub_ev ha] at hq
    refine .ite ?_
    split
    · rename_i hc; rw [if_pos hc] at hq; exact iha h1 hq
    · rename_i hc; rw [if_neg hc] at hq; exact ihb h2 hq
  | _ => intro s s' h; simp [plain] at h

theorem sx_ok {T : Funs'} : ∀ (c : PC) {asm : Asm} {s : SE} {k : Kn} {kx : Kx} {ρ : Env} {Q Q' : Out → Prop}, asm.ok ρ → PTwp T (sx c asm s k kx) ρ Q →
    (∀ ρ' asm s, (pureC c = true → ρ' = ρ) → asm.ok ρ' → PTwp T (k asm s) ρ' Q → Q' (.next (s.ev ρ'))) →
    (∀ ρ' asm id s, (pureC c = true → ρ' = ρ) → asm.ok ρ' → PTwp T (kx asm id s) ρ' Q → Q' (.exit id (s.ev ρ'))) → (pureC c = false → ∀ id ρ', Q (.exit id ρ') → Q' (.exit id ρ')) → (∀ d, Q (.ret d) → Q' (.ret d)) → EvP T c (s.ev ρ) Q' := by
  intro c
  -- a piece by itself
  have alone : ∀ (a : PC), (∀ {asm : Asm} {s : SE} {k : Kn} {kx : Kx} {ρ : Env} {Q Q' : Out → Prop}, asm.ok ρ → PTwp T (sx a asm s k kx) ρ Q →
      (∀ ρ' asm s, (pureC a = true → ρ' = ρ) → asm.ok ρ' → PTwp T (k asm s) ρ' Q → Q' (.next (s.ev ρ'))) →
      (∀ ρ' asm id s, (pureC a = true → ρ' = ρ) → asm.ok ρ' → PTwp T (kx asm id s) ρ' Q → Q' (.exit id (s.ev ρ'))) → (pureC a = false → ∀ id ρ', Q (.exit id ρ') → Q' (.exit id ρ')) → (∀ d, Q (.ret d) → Q' (.ret d)) → EvP T a (s.ev ρ) Q') →
      ∀ {ρ : Env} {Q : Out → Prop}, PTwp T (sx a [] .id (fun _ s => .next s) (fun _ id s => .exit id s)) ρ Q → EvP T a ρ Q := by
    intro a ih ρ Q h
    exact ih (s := .id) (Asm.ok_nil _) h (fun ρ' asm s _ _ h => h) (fun ρ' asm id s _ _ h => h) (fun _ _ _ h => h) (fun _ h => h)
  induction c with
  | skip => intro asm s k kx ρ Q Q' ha h hk _ _ _; exact .skip (hk ρ asm s (fun _ => rfl) ha h)
  | is l => intro asm s k kx ρ Q Q' ha h hk _ _ _; exact .is (sxI_ok (K := fun ρ' => Q' (.next ρ')) ha h hk)
  | seq a b iha ihb =>
    intro asm s k kx ρ Q Q' ha h hk hx hxx hr
    refine .seq (iha ha h (Q' := seqQ (fun ρ' => EvP T b ρ' Q') Q') (fun ρ' asm s hp ha' h' => ?_) (fun ρ' asm id s hp ha' h' => ?_) (fun hp => ?_) hr)
    · refine ihb ha' h' (fun ρ2 asm s hp2 => hk ρ2 asm s fun hl => ?_) (fun ρ2 asm id s hp2 => hx ρ2 asm id s fun hl => ?_) (fun hp2 => ?_) hr
      · simp only [pureC, Bool.and_eq_true] at hl; rw [hp2 hl.2, hp hl.1]
      · simp only [pureC, Bool.and_eq_true] at hl; rw [hp2 hl.2, hp hl.1]
      · exact hxx (by simp [pureC, hp2])
    · exact hx ρ' asm id s (fun hl => by simp only [pureC, Bool.and_eq_true] at hl; exact hp hl.1) ha' h'
    · exact hxx (by simp [pureC, hp])
  | ite c lr lo a b iha ihb =>
    intro asm s k kx ρ Q Q' ha h hk hx hxx hr
    have hev : ((c.sub' asm s).ev ρ).b = (c.ev (s.ev ρ)).b := by rw [PE.sub_ev ha]
    have struct : (pureC a && pureC b) = false → PTwp T (.iteS s c lr lo (sx a [] .id (fun _ s => .next s) (fun _ id s => .exit id s)) (sx b [] .id (fun _ s => .next s) (fun _ id s => .exit id s)) (k [] .id)) ρ Q → EvP T (.ite c lr lo a b) (s.ev ρ) Q' := by
      intro hpure h
      have hnp : pureC (.ite c lr lo a b) = false := hpure
      simp only [PTwp] at h
      have conv : ∀ x, joinQ (s.ev ρ) lr lo (seqQ (fun ρ' => PTwp T (k [] .id) ρ' Q) Q) x → joinQ (s.ev ρ) lr lo Q' x := by
        intro x hx'
        cases x with
        | next ρ' => exact hk _ [] .id (fun hl => by rw [hnp] at hl; cases hl) (Asm.ok_nil _) hx'
        | exit id ρ' => exact hxx hnp id ρ' hx'
        | ret d => exact hr d hx'
      refine .ite ?_
      split at h
      · rename_i hc; rw [if_pos hc]; exact (alone a iha h).mono conv
      · rename_i hc; rw [if_neg hc]; exact (alone b ihb h).mono conv
    have inA : ∀ asm', asm'.ok ρ → pureC a = true → PTwp T (sx a asm' s (fun asm s' => k asm (s.join lr lo s')) kx) ρ Q → EvP T a (s.ev ρ) (joinQ (s.ev ρ) lr lo Q') := by
      intro asm' ha' hpa h'
      refine iha ha' h' (fun ρ' asm s' hp ha'' h'' => ?_) (fun ρ' asm id s' hp ha'' h'' => ?_) (fun hp => by rw [hpa] at hp; cases hp) hr
      · have e := hp hpa
        subst e
        show Q' (.next _)
        rw [← SE.join_ev]
        exact hk ρ' asm _ (fun _ => rfl) ha'' h''
      · have e := hp hpa
        subst e
        exact hx ρ' asm id s' (fun _ => rfl) ha'' h''
    have inB : ∀ asm', asm'.ok ρ → pureC b = true → PTwp T (sx b asm' s (fun asm s' => k asm (s.join lr lo s')) kx) ρ Q → EvP T b (s.ev ρ) (joinQ (s.ev ρ) lr lo Q') := by
      intro asm' ha' hpa h'
      refine ihb ha' h' (fun ρ' asm s' hp ha'' h'' => ?_) (fun ρ' asm id s' hp ha'' h'' => ?_) (fun hp => by rw [hpa] at hp; cases hp) hr
      · have e := hp hpa
        subst e
        show Q' (.next _)
        rw [← SE.join_ev]
        exact hk ρ' asm _ (fun _ => rfl) ha'' h''
      · have e := hp hpa
        subst e
        exact hx ρ' asm id s' (fun _ => rfl) ha'' h''
    simp only [sx] at h
    split at h
    · rename_i ht
      cases hpa : pureC a <;> simp only [hpa, cond_true, cond_false] at h
      · exact struct (by simp [hpa]) h
      · refine .ite ?_
        rw [if_pos (by rw [← hev]; exact truth_ok ha ht)]
        exact inA asm ha hpa h
    · rename_i ht
      cases hpa : pureC b <;> simp only [hpa, cond_true, cond_false] at h
      · exact struct (by simp [hpa]) h
      · refine .ite ?_
        rw [if_neg (by rw [← hev, truth_ok ha ht]; simp)]
        exact inB asm ha hpa h
    · split at h
      · rename_i sa sb hsa hsb
        have hpl : plain (.ite c lr lo a b) asm s = some (s.merge asm lr lo (c.sub' asm s) sa sb) := by simp [plain, hsa, hsb]
        exact plain_ok ha _ hpl (hk ρ asm _ (fun _ => rfl) ha h)
      cases hpa : (pureC a && pureC b) <;> simp only [hpa, cond_true, cond_false] at h
      · exact struct hpa h
      · simp only [Bool.and_eq_true] at hpa
        simp only [PTwp] at h
        refine .ite ?_
        rw [← hev]
        split at h
        · rename_i hc; rw [if_pos hc]; exact inA _ (Asm.ok_cons ha hc) hpa.1 h
        · rename_i hc; rw [if_neg hc]; exact inB _ (Asm.ok_cons ha (by simpa using hc)) hpa.2 h
  | block id lr lo a iha =>
    intro asm s k kx ρ Q Q' ha h hk hx hxx hr
    simp only [sx] at h
    cases hpa : pureC a <;> simp only [hpa, cond_true, cond_false] at h
    · have hnp : pureC (.block id lr lo a) = false := hpa
      cases hl : isLoop a <;> simp only [hl, cond_true, cond_false] at h
      case true =>
        simp only [PTwp] at h
        refine EvP.mono h fun x hx' => ?_
        cases x with
        | next ρ' => exact hk _ [] .id (fun hl => by rw [hnp] at hl; cases hl) (Asm.ok_nil _) hx'
        | exit id ρ' => exact hxx hnp id ρ' hx'
        | ret d => exact hr d hx'
      simp only [PTwp] at h
      refine .block ((alone a iha h).mono fun x hx' => ?_)
      cases x with
      | next ρ' => exact hk _ [] .id (fun hl => by rw [hnp] at hl; cases hl) (Asm.ok_nil _) hx'
      | exit id' ρ' =>
        simp only [blockQ] at hx' ⊢
        split
        · rename_i e; rw [if_pos e] at hx'; exact hk _ [] .id (fun hl => by rw [hnp] at hl; cases hl) (Asm.ok_nil _) hx'
        · rename_i e; rw [if_neg e] at hx'; exact hxx hnp id' ρ' hx'
      | ret d => exact hr d hx'
    · refine .block (iha ha h (fun ρ' asm s' hp ha'' h'' => ?_) (fun ρ' asm id' s' hp ha'' h'' => ?_) (fun hp => by rw [hpa] at hp; cases hp) hr)
      · have e := hp hpa
        subst e
        show Q' (.next _)
        rw [← SE.join_ev]
        exact hk ρ' asm _ (fun _ => rfl) ha'' h''
      · have e := hp hpa
        subst e
        simp only [blockQ]
        by_cases hid : id' = id
        · subst hid
          simp only [Nat.beq_refl, cond_true] at h''
          rw [if_pos rfl, ← SE.join_ev]
          exact hk ρ' asm _ (fun _ => rfl) ha'' h''
        · rw [beq_ne hid, cond_false] at h''
          rw [if_neg hid]
          exact hx ρ' asm id' s' (fun _ => rfl) ha'' h''
  | loop lr lo a iha =>
    intro asm s k kx ρ Q Q' ha h hk hx hxx hr
    simp only [sx, PTwp] at h
    refine EvP.mono h fun x hx' => ?_
    cases x with
    | next ρ' => exact hk _ [] .id (fun hl => by cases hl) (Asm.ok_nil _) hx'
    | exit id ρ' => exact hxx rfl id ρ' hx'
    | ret d => exact hr d hx'
  | each e ps lo rt a iha =>
    intro asm s k kx ρ Q Q' ha h hk hx hxx hr
    simp only [sx, PTwp] at h
    refine EvP.mono h fun x hx' => ?_
    cases x with
    | next ρ' => exact hk _ [] .id (fun hl => by cases hl) (Asm.ok_nil _) hx'
    | exit id ρ' => exact hxx rfl id ρ' hx'
    | ret d => exact hr d hx'
  | exit id => intro asm s k kx ρ Q Q' ha h _ hx _ _; exact .exit (hx ρ asm id s (fun _ => rfl) ha h)
  | ret e =>
    intro asm s k kx ρ Q Q' ha h _ _ _ hr
    simp only [sx, PTwp] at h
    refine .ret (hr _ ?_)
    rw [PE.sub_ev ha] at h; exact h

/-- code as a tree -/
def tree (c : PC) : PT := sx c [] .id (fun _ s => .next s) (fun _ id s => .exit id s)
theorem tree_ok {T : Funs'} {c : PC} {ρ : Env} {Q : Out → Prop} (h : PTwp T (tree c) ρ Q) : EvP T c ρ Q :=
  sx_ok (s := .id) c (Asm.ok_nil _) h (fun ρ' asm s _ _ h => h) (fun ρ' asm id s _ _ h => h) (fun _ _ _ h => h) (fun _ h => h)

/-- some places alone -/
def SE.keep (s : SE) (lr lo : List Nat) : SE := ⟨lr.map fun t => (t, s.getR t), lo.map fun t => (t, s.getO t)⟩
theorem SE.keep_r (s : SE) (lr lo : List Nat) (ρ : Env) : lr.map ((s.keep lr lo).ev ρ).r = lr.map (s.ev ρ).r := by
  apply List.map_congr_left
  intro t ht
  show ((s.keep lr lo).getR t).ev ρ = (s.getR t).ev ρ
  have := lookL_join (f := fun t => s.getR t) (l := []) (u := t) lr
  rw [List.append_nil, if_pos ht] at this
  have e : (s.keep lr lo).getR t = s.getR t := by unfold SE.getR SE.keep; simp only []; rw [this]; rfl
  rw [e]
theorem SE.keep_o (s : SE) (lr lo : List Nat) (ρ : Env) : lo.map ((s.keep lr lo).ev ρ).o = lo.map (s.ev ρ).o := by
  apply List.map_congr_left
  intro t ht
  show ((s.keep lr lo).getO t).ev ρ = (s.getO t).ev ρ
  have := lookL_join (f := fun t => s.getO t) (l := []) (u := t) lo
  rw [List.append_nil, if_pos ht] at this
  have e : (s.keep lr lo).getO t = s.getO t := by unfold SE.getO SE.keep; simp only []; rw [this]; rfl
  rw [e]

/-- A round of a loop that a block holds: what it leaves in the loop's places, and, at the exit, in the block's. -/
def round (id : Nat) (lrb lob lr lo : List Nat) (a : PC) : PT :=
  sx a [] .id (fun _ s => .next (s.keep lr lo)) (fun _ id' s => bif Nat.beq id' id then .exit id (s.keep lrb lob) else .exit id' s)
def roundQ (ρ : Env) (id : Nat) (lrb lob lr lo : List Nat) (K : List D → List D → Prop) (Q : Out → Prop) : Out → Prop
  | .next ρ' => K (lr.map ρ'.r) (lo.map ρ'.o)
  | .exit id' ρ' => if id' = id then Q (.next (ρ.put lrb (lrb.map ρ'.r) lob (lob.map ρ'.o))) else Q (.exit id' ρ')
  | .ret d => Q (.ret d)
theorem joinQ_loop {lr lo : List Nat} {ρ : Env} : ρ.put lr (lr.map ρ.r) lo (lo.map ρ.o) = ρ := by
  have h1 : ∀ u, putL ρ.r lr (lr.map ρ.r) u = ρ.r u := fun u => by rw [putL_map]; split <;> rfl
  have h2 : ∀ u, putL ρ.o lo (lo.map ρ.o) u = ρ.o u := fun u => by rw [putL_map]; split <;> rfl
  unfold Env.put
  rw [funext h1, funext h2]
/-- A loop in its block. -/
theorem EvP.forLoop {T : Funs'} {id : Nat} {lrb lob lr lo : List Nat} {a : PC} {ρ : Env} {Q : Out → Prop} {α : Type} (inv : α → List D → List D → Prop) (meas : α → Nat) (s0 : α) (h0 : inv s0 (lr.map ρ.r) (lo.map ρ.o))
    (step : ∀ s vr vo, inv s vr vo → PTwp T (round id lrb lob lr lo a) (ρ.put lr vr lo vo) (roundQ ρ id lrb lob lr lo (fun vr vo => ∃ s', meas s' < meas s ∧ inv s' vr vo) Q)) : EvP T (.block id lrb lob (.loop lr lo a)) ρ Q := by
  refine .block (.loop inv meas s0 h0 fun s vr vo hi => ?_)
  have h := step s vr vo hi
  refine sx_ok (s := .id) a (Asm.ok_nil _) h (fun ρ' asm s' _ _ h => ?_) (fun ρ' asm id' s' _ _ h => ?_) (fun _ id' ρ' h => ?_) (fun d h => h)
  · simp only [PTwp, roundQ] at h
    rw [SE.keep_r, SE.keep_o] at h
    exact h
  · simp only [seqQ, blockQ]
    by_cases hid : id' = id
    · subst hid
      simp only [Nat.beq_refl, cond_true, PTwp, roundQ, if_true] at h
      rw [SE.keep_r, SE.keep_o] at h
      rw [if_pos rfl]; exact h
    · rw [beq_ne hid, cond_false] at h
      simp only [PTwp, roundQ] at h
      rw [if_neg hid] at h ⊢; exact h
  · simp only [seqQ, blockQ]
    simp only [roundQ] at h
    split
    · rename_i e; rw [if_pos e] at h; exact h
    · rename_i e; rw [if_neg e] at h; exact h
/-- A round of a loop over a list. -/
def roundE (lo : List Nat) (a : PC) : PT := sx a [] .id (fun _ s => .next (s.keep [] lo)) (fun _ id s => .exit id (s.keep [] lo))
theorem EvP.eachR {T : Funs'} {e : PE} {ps lo : List Nat} {rt : Option PE} {a : PC} {ρ : Env} {Q : Out → Prop} (xs : List D) (he : (e.ev ρ).l = xs) (inv : Nat → List D → Prop) (h0 : inv 0 (lo.map ρ.o))
    (step : ∀ k x vo, xs[k]? = some x → inv k vo → PTwp T (roundE lo a) (ρ.put ps (partsOf ps x) lo vo) (eachQ ρ lo rt (inv (k + 1)) Q)) (done : ∀ vo, inv xs.length vo → Q (.next (ρ.put [] [] lo vo))) : EvP T (.each e ps lo rt a) ρ Q := by
  refine .each xs he inv h0 (fun k x vo hx hi => ?_) done
  have h := step k x vo hx hi
  refine sx_ok (s := .id) a (Asm.ok_nil _) h (fun ρ' asm s' _ _ h => ?_) (fun ρ' asm id' s' _ _ h => ?_) (fun _ id' ρ' h => h) (fun d h => h)
  · simp only [PTwp, eachQ] at h
    rw [SE.keep_o] at h
    exact h
  · simp only [PTwp, eachQ] at h
    rw [SE.keep_o] at h
    exact h
theorem PTwp_mono {T : Funs'} : ∀ (t : PT) {ρ : Env} {Q Q' : Out → Prop}, (∀ x, Q x → Q' x) → PTwp T t ρ Q → PTwp T t ρ Q' := by
  intro t
  induction t with
  | next s => intro ρ Q Q' h hx; exact h _ hx
  | exit id s => intro ρ Q Q' h hx; exact h _ hx
  | ret e => intro ρ Q Q' h hx; exact h _ hx
  | chk e k ih => intro ρ Q Q' h hx; exact ⟨hx.1, ih h hx.2⟩
  | ite c a b iha ihb =>
    intro ρ Q Q' h hx
    simp only [PTwp] at hx ⊢
    split
    · rename_i hc; rw [if_pos hc] at hx; exact iha h hx
    · rename_i hc; rw [if_neg hc] at hx; exact ihb h hx
  | call s gs dst f args k ih =>
    intro ρ Q Q' h hx
    simp only [PTwp] at hx ⊢
    split
    · rename_i hc; rw [if_pos hc] at hx; obtain ⟨d, hd, hx⟩ := hx; exact ⟨d, hd, ih h hx⟩
    · rename_i hc; rw [if_neg hc] at hx; exact ih h hx
  | callc s gs dst e args k ih =>
    intro ρ Q Q' h hx
    simp only [PTwp] at hx ⊢
    split
    · rename_i hc; rw [if_pos hc] at hx; obtain ⟨f, c, d, he, hd, hx⟩ := hx; exact ⟨f, c, d, he, hd, ih h hx⟩
    · rename_i hc; rw [if_neg hc] at hx; exact ih h hx
  | mcall s j f args k ih => intro ρ Q Q' h hx; obtain ⟨d, hd, hx⟩ := hx; exact ⟨d, hd, ih h hx⟩
  | iteS s c lr lo a b k iha ihb ihk =>
    intro ρ Q Q' h hx
    have hq : ∀ x, joinQ (s.ev ρ) lr lo (seqQ (fun ρ' => PTwp T k ρ' Q) Q) x → joinQ (s.ev ρ) lr lo (seqQ (fun ρ' => PTwp T k ρ' Q') Q') x := by
      intro x hx
      cases x with
      | next ρ' => exact ihk h hx
      | exit id ρ' => exact h _ hx
      | ret d => exact h _ hx
    simp only [PTwp] at hx ⊢
    split
    · rename_i hc; rw [if_pos hc] at hx; exact iha hq hx
    · rename_i hc; rw [if_neg hc] at hx; exact ihb hq hx
  | blockS s id lr lo a k iha ihk =>
    intro ρ Q Q' h hx
    refine iha (fun x hx => ?_) hx
    cases x with
    | next ρ' => exact ihk h hx
    | exit id' ρ' =>
      simp only [blockQ] at hx ⊢
      split
      · rename_i e; rw [if_pos e] at hx; exact ihk h hx
      · rename_i e; rw [if_neg e] at hx; exact h _ hx
    | ret d => exact h _ hx
  | brk s c k ih =>
    intro ρ Q Q' h hx
    refine EvP.mono hx fun x hx => ?_
    cases x with
    | next ρ' => exact ih h hx
    | exit id ρ' => exact h _ hx
    | ret d => exact h _ hx
theorem EvP.forRounds {T : Funs'} {id : Nat} {lrb lob lr lo : List Nat} {a : PC} {ρ : Env} {Q : Out → Prop} (N : Nat) (str sto : Nat → List D) (h0 : lr.map ρ.r = str 0 ∧ lo.map ρ.o = sto 0)
    (step : ∀ k, k < N → PTwp T (round id lrb lob lr lo a) (ρ.put lr (str k) lo (sto k)) (roundQ ρ id lrb lob lr lo (fun vr vo => vr = str (k + 1) ∧ vo = sto (k + 1)) Q))
    (last : PTwp T (round id lrb lob lr lo a) (ρ.put lr (str N) lo (sto N)) (roundQ ρ id lrb lob lr lo (fun _ _ => False) Q)) : EvP T (.block id lrb lob (.loop lr lo a)) ρ Q := by
  refine .forLoop (α := Nat) (fun k vr vo => k ≤ N ∧ vr = str k ∧ vo = sto k) (fun k => N - k) 0 ⟨Nat.zero_le _, h0.1, h0.2⟩ ?_
  rintro k vr vo ⟨hk, rfl, rfl⟩
  have mono : ∀ {K K' : List D → List D → Prop}, (∀ a b, K a b → K' a b) → ∀ x, roundQ ρ id lrb lob lr lo K Q x → roundQ ρ id lrb lob lr lo K' Q x := by
    intro K K' h x hx
    cases x with
    | next ρ' => exact h _ _ hx
    | exit id' ρ' => exact hx
    | ret d => exact hx
  by_cases hlt : k < N
  · exact PTwp_mono _ (mono fun a b ⟨h1, h2⟩ => ⟨k + 1, by omega, by omega, h1, h2⟩) (step k hlt)
  · obtain rfl : k = N := by omega
    exact PTwp_mono _ (mono fun a b h => h.elim) last

theorem roundQ_mono {ρ : Env} {id : Nat} {lrb lob lr lo : List Nat} {K K' : List D → List D → Prop} {Q : Out → Prop} (h : ∀ a b, K a b → K' a b) : ∀ x, roundQ ρ id lrb lob lr lo K Q x → roundQ ρ id lrb lob lr lo K' Q x := by
  intro x hx
  cases x with
  | next ρ' => exact h _ _ hx
  | exit id' ρ' => exact hx
  | ret d => exact hx
/-- A loop that looks for the first that is not well: 'str k' at the head of round k. -/
theorem EvP.scan {T : Funs'} {id : Nat} {lrb lob lr lo : List Nat} {a : PC} {ρ : Env} {Q : Out → Prop} (N : Nat) (ok : Nat → Prop) (str sto : Nat → List D) (h0 : lr.map ρ.r = str 0 ∧ lo.map ρ.o = sto 0)
    (step : ∀ k, k < N → (∀ j, j < k → ok j) → ok k → PTwp T (round id lrb lob lr lo a) (ρ.put lr (str k) lo (sto k)) (roundQ ρ id lrb lob lr lo (fun vr vo => vr = str (k + 1) ∧ vo = sto (k + 1)) Q))
    (bad : ∀ k, k < N → (∀ j, j < k → ok j) → ¬ ok k → PTwp T (round id lrb lob lr lo a) (ρ.put lr (str k) lo (sto k)) (roundQ ρ id lrb lob lr lo (fun _ _ => False) Q))
    (last : (∀ j, j < N → ok j) → PTwp T (round id lrb lob lr lo a) (ρ.put lr (str N) lo (sto N)) (roundQ ρ id lrb lob lr lo (fun _ _ => False) Q)) : EvP T (.block id lrb lob (.loop lr lo a)) ρ Q := by
  refine .forLoop (α := Nat) (fun k vr vo => k ≤ N ∧ (∀ j, j < k → ok j) ∧ vr = str k ∧ vo = sto k) (fun k => N - k) 0 ⟨Nat.zero_le _, fun j hj => by omega, h0.1, h0.2⟩ ?_
  rintro k vr vo ⟨hk, hj, rfl, rfl⟩
  by_cases hlt : k < N
  · by_cases hok : ok k
    · refine PTwp_mono _ (roundQ_mono fun a b ⟨h1, h2⟩ => ⟨k + 1, by omega, by omega, fun j hjk => ?_, h1, h2⟩) (step k hlt hj hok)
      by_cases e : j = k
      · subst e; exact hok
      · exact hj j (by omega)
    · exact PTwp_mono _ (roundQ_mono fun a b h => h.elim) (bad k hlt hj hok)
  · obtain rfl : k = N := by omega
    exact PTwp_mono _ (roundQ_mono fun a b h => h.elim) (last hj)

/-- all cells of a row -/
def mkA (n : Nat) (e : PE) : PE := .mk ((List.range n).map fun i => .cell e i)
def allc (n : Nat) (d : D) : D := .agg ((List.range n).flatMap fun i => (d.c i).cells)
theorem ev_mkA (ρ : Env) (n : Nat) (e : PE) : (mkA n e).ev ρ = allc n (e.ev ρ) := by
  have key : ∀ l : List Nat, PE.evc ρ (l.map fun i => .cell e i) = l.flatMap fun i => ((e.ev ρ).c i).cells := by
    intro l
    induction l with
    | nil => rfl
    | cons i l ih => simp only [List.map_cons, PE.evc, PE.ev, List.flatMap_cons, ih]
  show D.agg _ = _
  rw [key]; rfl
end Cx
