/-
  Objects: boxes frozen, names moved, nil cells made rows.
-/
import Derived.Test.YtaihcmbfhgmjgaaCxM
set_option linter.unusedSimpArgs false
set_option linter.unusedVariables false
namespace Cx
open Go Go.RowKit

section
variable {C : Ctx} {S : St} {ρ : Env} {σ : Im} {own : Nat → Option Nat} {hv : Nat → Value} {w0 : World} {σ0 : Base} {A : Nat → Prop} {a : Act} {w : World} {gs : List (Nat × Bool)} {Φ : Funs} {dst : Nat}

theorem runsO {j : Nat} {e : PE} {ρ' : Env} (h : PI.runs Φ [.setO j e] ρ = some ρ') : ρ' = ρ.setO j (e.ev ρ) := by
  simp [PI.runs, PI.run] at h; exact h.symm
theorem runs0 {ρ' : Env} (h : PI.runs Φ [] ρ = some ρ') : ρ' = ρ := by
  simp [PI.runs] at h; exact h.symm

def GOK (C : Ctx) (w0 : World) (σ0 : Base) (Φ : Funs) (S : St) (ρ : Env) (A : Nat → Prop) (a : Act) (w : World) (r : St × List PI) : Prop :=
  ∀ ρ', PI.runs Φ r.2 ρ = some ρ' → Good C w0 σ0 r.1 ρ' A a w

theorem freezeBox_sound (h : Inv C S ρ σ own hv w0 σ0 A a w) {b : Nat} {r : St × List PI} (hr : freezeBox S b = some r) : GOK C w0 σ0 Φ S ρ A a w r := by
  unfold freezeBox at hr
  split at hr
  case h_2 => cases hr
  rename_i ag shs eo
  simp only [Option.bind_eq_some_iff] at hr
  obtain ⟨x, hx, hr⟩ := hr
  have hobj := h.objs b
  rw [eo] at hobj
  obtain ⟨k, cs, T, ds, h1, h2, h3, h4, h5, h6, h7⟩ := hobj
  obtain ⟨l1, es, ⟨he, he'⟩, l2, hrep⟩ := cellPEs_sound h (cs := cs.toList) h5 shs 0 x (fun m s hm => by rw [getD_toList, Nat.zero_add]; exact (h7 m s hm).2) hx
  -- the new immutable cells
  let σ' : Im := { c := fun k' o => if k' = k then cs[o]? else σ.c k' o, m := σ.m }
  have hle : σ.le σ' := by
    refine ⟨fun k' o v hc => ?_, fun k es hc => hc⟩
    have : k' ≠ k := fun e => by subst e; rw [(h.owns k' b h2).2.2.1 o] at hc; cases hc
    simp [σ', this, hc]
  have key : ∀ (t : Ty) (v : Value) (d : D), Rep C.cap σ' t v d → (∀ (i : Nat) (u : Value), v.cells[i]? = some u → cs[i]? = some u) →
      Inv C (S.setO b (.fbox t)) (ρ.setO b d) σ' (fun k' => if k' = k then none else own k') hv w0 σ0 A a w := by
    intro t v d hrv hcl
    refine h.step (fun i => i = b) rfl hle ?_ (fun k' o x hx => ?_) (fun _ _ hx => .inl hx) (.refl _ _) ⟨fun _ => Nat.le_refl _, fun _ _ => rfl⟩ (fun i hi => ⟨?_, ?_, rfl, fun k' hk => ⟨?_, rfl⟩⟩) (fun i hi => ?_) (fun k' i hk => ?_) (fun _ => id) (fun t => .inl ⟨rfl, rfl, rfl⟩) (fun _ _ => rfl) (fun _ _ _ => rfl) (fun k' i hk => by
        split at hk
        · cases hk
        · exact .inl ⟨i, hk⟩) (fun i hi => by subst hi; simp [St.setO, upd_same])
    · refine ⟨fun k' o v hc => ?_, h.ok.m⟩
      simp only [σ'] at hc
      split at hc
      · rename_i e; subst e
        simp [World.cell?, h3, hc]
      · exact h.ok.c k' o v hc
    · simp only [σ'] at hx
      split at hx
      · rename_i e; subst e; exact .inr ⟨(h.owns k' b h2).1, .inl ⟨b, h2⟩⟩
      · exact .inl hx
    · simp [St.setO, upd_ne _ _ hi]
    · simp [Env.setO, upd_ne _ _ hi]
    · have : k' ≠ k := fun e => by subst e; rw [h2] at hk; simp at hk; exact hi hk.symm
      simp [this, hk]
    · subst hi
      simp only [St.setO, upd_same]
      exact ⟨k, v, h1, by simp only [Env.setO, upd_same]; exact hrv, fun i u hu => by simp [σ', hcl i u hu]⟩
    · split at hk
      · cases hk
      · rename_i hn
        obtain ⟨g1, g2, g3, g4⟩ := h.owns k' i hk
        exact ⟨g1, g2, fun o => by simp [σ', hn, g3 o], g4⟩
  have hcells : ∀ (m : Nat) (t : Ty), x.1[m]? = some t → t.one = true ∧ Rep C.cap σ' t (cs.toList.getD m undef) (es.getD m .none) := fun m t hm => by
    obtain ⟨g1, g2⟩ := hrep m t hm
    rw [Nat.zero_add] at g2
    exact ⟨g1, g2.mono hle⟩
  intro ρ' hrun
  cases ag with
  | true =>
    simp only [cond_true] at hr
    cases hr
    have := runsO hrun
    subst this
    refine ⟨_, _, _, key (.agg x.1) (.agg cs.toList.toArray) _ ?_ (fun i u hu => by simpa [Value.cells] using hu)⟩
    simp only [PE.ev, he]
    exact .agg _ _ _ (by simp; omega) (by omega) (fun m t hm => (hcells m t hm).2) (fun m t hm => (hcells m t hm).1)
  | false =>
    simp only [cond_false] at hr
    split at hr
    · rename_i t e et ee
      cases hr
      have := runsO hrun
      subst this
      obtain ⟨g1, g2⟩ := hcells 0 t (by rw [et]; rfl)
      have hes : es = [e.ev ρ] := by rw [← he', ee]; rfl
      subst hes
      refine ⟨_, _, _, key t (cs.toList.getD 0 undef) _ (by simpa using g2) (fun i u hu => ?_)⟩
      rw [(g2.oneCell g1).1] at hu
      have hi : i = 0 := by
        have := (Array.getElem?_eq_some_iff.1 hu).1; simpa using this
      subst hi
      simp at hu
      subst hu
      have : 0 < cs.size := by rw [h4]; rw [et] at l1; simp at l1; omega
      rw [Array.getElem?_eq_getElem this]
      simp [List.getD_eq_getElem?_getD, Array.getElem?_eq_getElem this]
    · cases hr

/-- THE NAME OF A ROW OR A MAP MOVED. -/
theorem Inv.mv (h : Inv C S ρ σ own hv w0 σ0 A a w) {j j' : Nat} (hne : j ≠ j') (hk : isRowOrMp (S.o j) = true) :
    Inv C (S.mv j j') (ρ.setO j' (ρ.o j)) σ (fun k => if own k = some j then some j' else if own k = some j' then none else own k) (upd hv j' (hv j)) w0 σ0 A a w := by
  have hobj := h.objs j
  refine h.step (fun i => i = j ∨ i = j') rfl (.refl σ) h.ok (fun _ _ _ hx => .inl hx) (fun _ _ hx => .inl hx) (.refl _ _) ⟨fun i => ?_, fun i e => ?_⟩ (fun i hi => ?_) (fun i hi => ?_) (fun k i hk => ?_) (fun _ => id) (fun t => .inl ⟨rfl, rfl, rfl⟩) (fun _ _ => rfl) (fun _ _ _ => rfl) (fun k i hk => by
        split at hk
        · rename_i e; exact .inl ⟨j, e⟩
        · split at hk
          · cases hk
          · exact .inl ⟨i, hk⟩) (fun i hi => by
        rcases hi with rfl | rfl
        · simp [St.mv, upd_same]
        · simp only [St.mv, upd_ne _ _ (Ne.symm hne), upd_same]; intro e; rw [e] at hk; cases hk)
  · simp only [St.mv, upd_apply]
    split
    · rename_i e; subst e; omega
    · split
      · rename_i e; subst e; omega
      · omega
  · simp only [St.mv, upd_apply] at e
    split at e
    · rename_i e'; subst e'; omega
    · split at e
      · rename_i e'; subst e'; omega
      · rename_i hne2; exact upd_ne _ _ hne2
  · simp only [not_or] at hi
    refine ⟨by simp [St.mv, upd_ne _ _ hi.1, upd_ne _ _ hi.2], by simp [Env.setO, upd_ne _ _ hi.2], upd_ne _ _ hi.2, fun k hk => ⟨?_, rfl⟩⟩
    have e1 : i ≠ j := hi.1
    have e2 : i ≠ j' := hi.2
    simp [hk, e1, e2]
  · rcases hi with rfl | rfl
    · simp only [St.mv, upd_same]; trivial
    · simp only [St.mv, upd_ne _ _ (Ne.symm hne), upd_same]
      cases hob : S.o j with
      | row T e =>
        rw [hob] at hobj
        obtain ⟨cells, xs, h1, h2, h3, h4⟩ := hobj
        refine ⟨cells, xs, by simp only [Env.setO, upd_same]; exact h1, by rw [upd_same]; exact h2, h3, fun k hk => ?_⟩
        rw [upd_same] at hk
        simp [h4 k hk]
      | mp kt et =>
        rw [hob] at hobj
        obtain ⟨k0, arr, clock, es, h1, h2, h3, h4, h5, h6⟩ := hobj
        exact ⟨k0, arr, clock, es, by rw [upd_same]; exact h1, by simp [h2], h3, by simp only [Env.setO, upd_same]; exact h4, h5, h6⟩
      | _ => rw [hob] at hk; simp [isRowOrMp] at hk
  · split at hk
    · rename_i e; exact h.owns k j e
    · split at hk
      · cases hk
      · exact h.owns k i hk

theorem rehomeReg_sound (h : Inv C S ρ σ own hv w0 σ0 A a w) {t j' : Nat} {r : St × List PI} (hr : rehomeReg S t j' = some r) : GOK C w0 σ0 Φ S ρ A a w r := by
  intro ρ' hrun
  unfold rehomeReg at hr
  split at hr
  · rename_i j ver es
    cases hb : (Nat.beq ver (S.ver j) && isRowOrMp (S.o j) && !Nat.beq j j') <;> simp only [hb, cond_true, cond_false] at hr
    · cases hr; rw [runs0 hrun]; exact ⟨_, _, _, h⟩
    · cases hr
      simp only [Bool.and_eq_true, Bool.not_eq_true'] at hb
      have hver := Nat.eq_of_beq_eq_true hb.1.1
      have hne : j ≠ j' := fun e => by subst e; simp at hb
      have hmv := h.mv hne hb.1.2
      have hreg := h.regs t
      rw [es] at hreg
      have hval := hreg.2 hver
      rw [runsO hrun]
      refine ⟨_, _, _, hmv.step (S' := (S.mv j j').setR t (.obj j' (S.ver j' + 1))) (fun _ => False) rfl (.refl σ) hmv.ok (fun _ _ _ hx => .inl hx) (fun _ _ hx => .inl hx) (.refl _ _) ⟨fun _ => Nat.le_refl _, fun _ _ => rfl⟩ (fun i _ => ⟨rfl, rfl, rfl, fun k hk => ⟨hk, rfl⟩⟩) (fun _ hf => hf.elim) hmv.owns (fun _ => id) (fun u => ?_) (fun _ _ => rfl) (fun _ _ _ => rfl) (fun k i hk => .inl ⟨i, hk⟩) (fun _ hf => hf.elim)⟩
      by_cases hu : u = t
      · subst hu
        refine .inr ⟨?_, fun gs s e => by simp [St.setR, upd_same] at e⟩
        simp only [St.setR, upd_same]
        refine ⟨?_, fun _ => ?_⟩
        · simp [St.mv, upd_ne _ _ (Ne.symm hne), upd_same]
        · rw [upd_same]; exact hval
      · exact .inl ⟨by simp [St.setR, upd_ne _ _ hu], rfl, rfl⟩
  · cases hr; rw [runs0 hrun]; exact ⟨_, _, _, h⟩

/-- A cell of a box seen otherwise: its value is what it was. -/
theorem Inv.setCellSh (h : Inv C S ρ σ own hv w0 σ0 A a w) {b : Nat} {ag : Bool} {shs : List Sh} (eo : S.o b = .box ag shs) {i : Nat} {s s' : Sh} (hi : shs[i]? = some s) (hn : ∀ gs x, s' ≠ .opt gs x)
    (hs : ∀ v d, CellOK C S ρ σ hv s v d → CellOK C (S.setO b (.box ag (shs.set i s'))) ρ σ hv s' v d) : Inv C (S.setO b (.box ag (shs.set i s'))) ρ σ own hv w0 σ0 A a w := by
  have hobj := h.objs b
  rw [eo] at hobj
  obtain ⟨k, cs, T, ds, h1, h2, h3, h4, h5, h6, h7⟩ := hobj
  refine h.step (fun j => j = b) rfl (.refl σ) h.ok (fun _ _ _ hx => .inl hx) (fun _ _ hx => .inl hx) (.refl _ _) ⟨fun _ => Nat.le_refl _, fun _ _ => rfl⟩ (fun j hj => ⟨by simp [St.setO, upd_ne _ _ hj], rfl, rfl, fun k hk => ⟨hk, rfl⟩⟩) (fun j hj => ?_) h.owns (fun _ => id) (fun t => .inl ⟨rfl, rfl, rfl⟩) (fun _ _ => rfl) (fun _ _ _ => rfl) (fun k i hk => .inl ⟨i, hk⟩) (fun j hj => by subst hj; simp [St.setO, upd_same])
  subst hj
  rw [St.setO_o]
  refine ⟨k, cs, T, ds, h1, h2, h3, by simpa using h4, h5, by simpa using h6, fun m x hm => ?_⟩
  rw [List.getElem?_set] at hm
  split at hm
  · rename_i e; subst e
    split at hm
    · cases hm; exact ⟨hn, hs _ _ (h7 i s hi).2⟩
    · cases hm
  · obtain ⟨g1, g2⟩ := h7 m x hm
    exact ⟨g1, g2.mono' (.refl σ) (Compat.setO _ _ _ _) g1⟩

theorem rehomeCell_sound (h : Inv C S ρ σ own hv w0 σ0 A a w) {b i j' : Nat} {r : St × List PI} (hr : rehomeCell S b i j' = some r) : GOK C w0 σ0 Φ S ρ A a w r := by
  intro ρ' hrun
  unfold rehomeCell at hr
  split at hr
  · rename_i ag shs eo
    split at hr
    · rename_i j ver es
      cases hb : (Nat.beq ver (S.ver j) && isRowOrMp (S.o j) && !Nat.beq j j' && !Nat.beq b j' && !Nat.beq b j) <;> simp only [hb, cond_true, cond_false] at hr
      · cases hr; rw [runs0 hrun]; exact ⟨_, _, _, h⟩
      · cases hr
        simp only [Bool.and_eq_true, Bool.not_eq_true'] at hb
        have hver := Nat.eq_of_beq_eq_true hb.1.1.1.1
        have hne : j ≠ j' := fun e => by subst e; simp at hb
        have hb1 : b ≠ j' := fun e => by subst e; simp at hb
        have hb2 : b ≠ j := fun e => by subst e; simp at hb
        have hobj := h.objs b
        rw [eo] at hobj
        obtain ⟨k, cs, T, ds, h1, h2, h3, h4, h5, h6, h7⟩ := hobj
        have hval := (h7 i _ es).2.2 hver
        have hmv := h.mv hne hb.1.1.1.2
        rw [runsO hrun]
        have eo' : (S.mv j j').o b = .box ag shs := by simp [St.mv, upd_ne _ _ hb1, upd_ne _ _ hb2, eo]
        -- direct: the cell's value is the row's
        have hobj' := hmv.objs b
        rw [eo'] at hobj'
        refine ⟨_, _, _, hmv.step (S' := (S.mv j j').setO b (.box ag (shs.set i (.obj j' (S.ver j' + 1))))) (fun m => m = b) rfl (.refl σ) hmv.ok (fun _ _ _ hx => .inl hx) (fun _ _ hx => .inl hx) (.refl _ _) ⟨fun _ => Nat.le_refl _, fun _ _ => rfl⟩ (fun m hm => ⟨by simp [St.setO, upd_ne _ _ hm], rfl, rfl, fun k hk => ⟨hk, rfl⟩⟩) (fun m hm => ?_) hmv.owns (fun _ => id) (fun t => .inl ⟨rfl, rfl, rfl⟩) (fun _ _ => rfl) (fun _ _ _ => rfl) (fun k i hk => .inl ⟨i, hk⟩) (fun m hm => by subst hm; simp [St.setO, upd_same])⟩
        subst hm
        rw [St.setO_o]
        obtain ⟨k1, cs1, T1, ds1, g1, g2, g3, g4, g5, g6, g7⟩ := hobj'
        have e1 : cs1 = cs := by
          rw [upd_ne _ _ hb1, h1] at g1
          cases g1
          rw [h3] at g3; cases g3; rfl
        refine ⟨k1, cs1, T1, ds1, g1, g2, g3, by simpa using g4, g5, by simpa using g6, fun q x hq => ?_⟩
        rw [List.getElem?_set] at hq
        split at hq
        · rename_i e; subst e
          split at hq
          · cases hq
            refine ⟨(fun _ _ e => by cases e), ?_, fun _ => ?_⟩
            · simp [St.setO, St.mv, upd_ne _ _ (Ne.symm hne), upd_same]
            · rw [upd_same, e1]; exact hval
          · cases hq
        · obtain ⟨f1, f2⟩ := g7 q x hq
          exact ⟨f1, f2.mono' (.refl σ) (Compat.setO _ _ _ _) f1⟩
    · cases hr; rw [runs0 hrun]; exact ⟨_, _, _, h⟩
  · cases hr; rw [runs0 hrun]; exact ⟨_, _, _, h⟩

theorem homeCell_sound (h : Inv C S ρ σ own hv w0 σ0 A a w) {b i j : Nat} {T : TypeId} {r : St × List PI} (hr : homeCell C S b i j T = some r) : GOK C w0 σ0 Φ S ρ A a w r := by
  intro ρ' hrun
  unfold homeCell at hr
  split at hr
  · rename_i ag shs eo
    split at hr
    · rename_i e0 e es et
      cases hb : (!Nat.beq b j) <;> simp only [hb, cond_true, cond_false] at hr
      · cases hr; rw [runs0 hrun]; exact ⟨_, _, _, h⟩
      · cases hr
        have hne : b ≠ j := fun e => by subst e; simp at hb
        have hobj := h.objs b
        rw [eo] at hobj
        obtain ⟨k, cs, T0, ds, h1, h2, h3, h4, h5, h6, h7⟩ := hobj
        have hval : cs.getD i undef = .slice none 0 0 := by
          have := (h7 i _ es).2
          generalize cs.getD i undef = v at this
          generalize ds.getD i .none = d at this
          cases this; rfl
        have hnew := h.newO j (.row T e) (.list []) (.slice none 0 0) (fun _ => false) (.refl _ _) (by simp) ⟨[], [], by simp [Env.setO, upd_same], by rw [upd_same]; exact World.ownsRow_nil _ _ _ _, ⟨fun _ => undef, by simp, by simp⟩, by rw [upd_same]; simp [Value.ownBlock]⟩
        rw [runsO hrun]
        have eo' : (S.newO j (.row T e)).o b = .box ag shs := by simp [St.newO, upd_ne _ _ hne, eo]
        have hobj' := hnew.objs b
        rw [eo'] at hobj'
        refine ⟨_, _, _, hnew.step (S' := (S.newO j (.row T e)).setO b (.box ag (shs.set i (.obj j (S.ver j + 1))))) (fun m => m = b) rfl (.refl σ) hnew.ok (fun _ _ _ hx => .inl hx) (fun _ _ hx => .inl hx) (.refl _ _) ⟨fun _ => Nat.le_refl _, fun _ _ => rfl⟩ (fun m hm => ⟨by simp [St.setO, upd_ne _ _ hm], rfl, rfl, fun k hk => ⟨hk, rfl⟩⟩) (fun m hm => ?_) hnew.owns (fun _ => id) (fun t => .inl ⟨rfl, rfl, rfl⟩) (fun _ _ => rfl) (fun _ _ _ => rfl) (fun k i hk => .inl ⟨i, hk⟩) (fun m hm => by subst hm; simp [St.setO, upd_same])⟩
        subst hm
        rw [St.setO_o]
        obtain ⟨k1, cs1, T1, ds1, g1, g2, g3, g4, g5, g6, g7⟩ := hobj'
        have e1 : cs1 = cs := by
          rw [upd_ne _ _ hne, h1] at g1
          cases g1
          rw [h3] at g3; cases g3; rfl
        refine ⟨k1, cs1, T1, ds1, g1, g2, g3, by simpa using g4, g5, by simpa using g6, fun q x hq => ?_⟩
        rw [List.getElem?_set] at hq
        split at hq
        · rename_i e'; subst e'
          split at hq
          · cases hq
            refine ⟨(fun _ _ e => by cases e), ?_, fun _ => ?_⟩
            · simp [St.setO, St.newO, upd_same]
            · rw [upd_same, e1]; exact hval
          · cases hq
        · obtain ⟨f1, f2⟩ := g7 q x hq
          exact ⟨f1, f2.mono' (.refl σ) (Compat.setO _ _ _ _) f1⟩
    · cases hr; rw [runs0 hrun]; exact ⟨_, _, _, h⟩
  · cases hr; rw [runs0 hrun]; exact ⟨_, _, _, h⟩
end
end Cx
