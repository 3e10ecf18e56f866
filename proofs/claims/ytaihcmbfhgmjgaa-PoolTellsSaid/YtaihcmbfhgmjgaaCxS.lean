/-
  Slice literals; calls.
-/
import Derived.Test.YtaihcmbfhgmjgaaCxR
set_option linter.unusedSimpArgs false
set_option linter.unusedVariables false
namespace Cx
open Go Go.RowKit

section
variable {C : Ctx} {S : St} {ρ : Env} {σ : Im} {own : Nat → Option Nat} {hv : Nat → Value} {w0 : World} {σ0 : Base} {A : Nat → Prop} {a : Act} {w : World} {gs : List (Nat × Bool)} {Φ : Funs} {dst : Nat}

theorem evs_get {ρ : Env} {es : List PE} {i : Nat} {e : PE} (h : es[i]? = some e) : (PE.evs ρ es)[i]? = some (e.ev ρ) := by
  rw [PE.evs_eq, List.getElem?_map, h]; rfl

theorem eBuildSlice_core (h : Inv C S ρ σ own hv w0 σ0 A a w) (hC : CtxOK C σ0) (hg : holds gs ρ = true) {T : TypeId} {len : Nat} {ps : Array (Nat × Operand)} {r : St × List PI} (hr : eBuildSlice C S gs dst T len ps.toList = some r) {o : Oper}
    (ho : o.op = .buildSlice T len ps) : ∃ (E : TypeId) (e : Ty) (es : List PE) (v : Value) (w' : World), C.P.underlying T = some (.slice E) ∧ tyD C.P E = some e ∧ r = (mkObj S dst (.row E e), [.setO dst (.lst es), .setR dst (.con .none)]) ∧
      (execOp a.eval o).run C.P w = .ok (.value v) w' ∧ Below w.heap.size w w' ∧ (∀ k, Nat.beq k w.heap.size = true → w.heap.size ≤ k ∧ k < w'.heap.size) ∧
      ObjOK C (S.newO dst (.row E e)) (ρ.setO dst (.list (PE.evs ρ es))) σ (ownNew own dst (fun k => Nat.beq k w.heap.size)) (upd hv dst v) w' w0.heap.size dst (.row E e) := by
  unfold eBuildSlice at hr
  split at hr
  case h_2 => cases hr
  rename_i E hT
  simp only [Option.bind_eq_some_iff] at hr
  obtain ⟨e, he, z, hz, hr⟩ := hr
  cases hc : (elemFact C.P E e && Ty.sub z.1 e && nodupB (ps.toList.map (·.1)) && ps.toList.all (fun p => Nat.blt p.1 len) && Nat.ble (len * e.size) 16777216) <;> simp only [hc, cond_true, cond_false] at hr
  · cases hr
  simp only [Bool.and_eq_true] at hc
  obtain ⟨⟨⟨⟨hef, hsub⟩, hnd⟩, hpl⟩, hle⟩ := hc
  have hle := Nat.le_of_ble_eq_true hle
  obtain ⟨inf, zv, hi, hs, hby, h1, hzv, hzo⟩ := elemFact_info hef
  have hzs := zeroOk_size hzo
  have hnd' := nodupB_sound hnd
  have hzr := ((zeroTy_sound (cap := C.cap) (σ := σ) hz hzo).1).sub hsub
  simp only [Option.map_eq_some_iff] at hr
  obtain ⟨es, hes, rfl⟩ := hr
  obtain ⟨el1, el2⟩ := mapM_some _ _ _ hes
  simp only [List.length_range] at el1
  -- each element
  have helem : ∀ i, i < len → ∃ pe, es[i]? = some pe ∧ elemPE C S gs e z.2 ps.toList i = some pe := by
    intro i hi
    obtain ⟨y, hy1, hy2⟩ := el2 i i (by rw [List.getElem?_range hi])
    exact ⟨y, hy1, hy2⟩
  have hpart : ∀ x, x ∈ ps.toList → x.1 < len ∧ ∃ t pe, use C S gs x.2 = some (t, pe) ∧ Ty.sub t e = true ∧ es[x.1]? = some pe := by
    intro x hx
    have hxl : x.1 < len := by
      have := List.all_eq_true.1 hpl x hx
      simpa [Nat.blt_eq] using this
    refine ⟨hxl, ?_⟩
    obtain ⟨pe, hp1, hp2⟩ := helem x.1 hxl
    have hfind := find_parts hnd' (i := x.1) (x := x.2) hx
    simp only [elemPE, hfind, Option.bind_eq_some_iff] at hp2
    obtain ⟨y, hy, hp2⟩ := hp2
    cases hs : Ty.sub y.1 e <;> simp only [hs, cond_true, cond_false] at hp2
    · cases hp2
    cases hp2
    exact ⟨y.1, y.2, hy, hs, hp1⟩
  let c0 : Array Value := madeCells zv.cells (len * e.size)
  have hc0 : c0.size = len * e.size := size_madeCells _ _
  have hvals : ∀ p, p ∈ (ps.toList.map fun (x : Nat × Operand) => (x.1, a.eval x.2)) → ∃ o, (fun i => some (i * e.size, e.size)) p.1 = some (o, p.2.cells.size) ∧ o + p.2.cells.size ≤ c0.size := by
    intro p hp
    obtain ⟨x, hx, rfl⟩ := List.mem_map.1 hp
    obtain ⟨hxl, t, pe, hu, hst, _⟩ := hpart x hx
    have hsize := ((use_sound h hC hg hu).sub hst).size
    simp only
    refine ⟨x.1 * e.size, by rw [hsize], ?_⟩
    rw [hsize, hc0]
    have : (x.1 + 1) * e.size ≤ len * e.size := Nat.mul_le_mul_right _ hxl
    rw [Nat.add_mul] at this; omega
  have hdis : ∀ (i j oi si oj sj : Nat), i ≠ j → (fun i => some (i * e.size, e.size)) i = some (oi, si) → (fun i => some (i * e.size, e.size)) j = some (oj, sj) → oi + si ≤ oj ∨ oj + sj ≤ oi := by
    intro i j oi si oj sj hne hi hj
    simp only [Option.some.injEq, Prod.mk.injEq] at hi hj
    obtain ⟨rfl, rfl⟩ := hi
    obtain ⟨rfl, rfl⟩ := hj
    rcases Nat.lt_or_ge i j with hlt | hge
    · left
      have : (i + 1) * e.size ≤ j * e.size := Nat.mul_le_mul_right _ hlt
      rw [Nat.add_mul] at this; omega
    · right
      have : (j + 1) * e.size ≤ i * e.size := Nat.mul_le_mul_right _ (by omega)
      rw [Nat.add_mul] at this; omega
  obtain ⟨cells', f1, f2, f3, f4⟩ := fill_spec (fun i => some (i * e.size, e.size)) (ps.toList.map fun (x : Nat × Operand) => (x.1, a.eval x.2)) c0 hvals hdis (by simpa [Function.comp_def] using hnd')
  have hrun : (execOp a.eval o).run C.P w = .ok (.value (.slice (some ⟨w.heap.size, 0, none⟩) len len)) (w.alloc (.cells cells' E)) := by
    have n1 : ¬ (len * inf.size > 2 ^ 24) := by rw [hs]; omega
    have f1' : Instr.fill (fun i => some (i * inf.size, inf.size)) c0 (ps.toList.map fun (x : Nat × Operand) => (x.1, a.eval x.2)) = some cells' := by rw [hs]; exact f1
    by_cases h0 : len * inf.size = 0
    · have hce : c0 = #[] := by
        apply Array.eq_empty_of_size_eq_zero; rw [hc0, ← hs]; exact h0
      rw [hce] at f1'
      have f1'' : Instr.fill (fun i => some (i * inf.size, inf.size)) (Array.map (fun _ => default) (Array.range 0)) (ps.toList.map fun (x : Nat × Operand) => (x.1, a.eval x.2)) = some cells' := by
        have : (Array.map (fun _ => (default : Value)) (Array.range 0)) = #[] := by simp
        rw [this]; exact f1'
      simp [execOp, ho, Instr.buildSlice, run_underlying hT, Go.sizeOf, run_typeInfo w hi, n1, h0, f1'', newRow]
    · have hce : c0 = (Array.range (len * inf.size)).map (fun x => zv.cells[x % zv.cells.size]!) := by simp only [c0, madeCells, hs]
      rw [hce] at f1'
      have h00 : ¬ (len = 0 ∨ inf.size = 0) := by rw [← Nat.mul_eq_zero]; exact h0
      simp [execOp, ho, Instr.buildSlice, run_underlying hT, Go.sizeOf, run_typeInfo w hi, n1, h0, h00, zeroValue, hzv, f1', newRow]
  refine ⟨E, e, es, _, _, hT, he, rfl, hrun, (Below.refl _ _).alloc (Nat.le_refl _) _, fun k hk => by simp at hk; simp; omega, ?_⟩
  have hel : (PE.evs ρ es).length = len := by rw [PE.evs_eq, List.length_map, el1]
  have hgetel : ∀ (i : Nat) (x : D), (PE.evs ρ es)[i]? = some x → ∃ v, Rep C.cap σ e v x ∧ ∀ q u, v.cells[q]? = some u → cells'.toList[i * e.size + q]? = some u := by
    intro i x hx
    have hil : i < len := by have := (List.getElem?_eq_some_iff.1 hx).1; omega
    obtain ⟨pe, hp1, hp2⟩ := helem i hil
    rw [evs_get hp1] at hx
    cases hx
    unfold elemPE at hp2
    split at hp2
    · rename_i p hp
      have hpm := List.mem_of_find?_eq_some hp
      have hpi : p.1 = i := by have := List.find?_some hp; simpa using this
      obtain ⟨_, t, pe', hu, hst, hpe⟩ := hpart p hpm
      rw [hpi, hp1] at hpe
      cases hpe
      have hrep := (use_sound h hC hg hu).sub hst
      refine ⟨_, hrep, fun q u hq => ?_⟩
      have hql : q < (a.eval p.2).cells.size := (Array.getElem?_eq_some_iff.1 hq).1
      have := f3 p.1 (a.eval p.2) (p.1 * e.size) (List.mem_map.2 ⟨p, hpm, rfl⟩) (by simp [hrep.size]) q hql
      rw [hpi] at this
      simp [this, hq]
    · rename_i hp
      cases hp2
      refine ⟨zv, hzr, fun q u hq => ?_⟩
      have hql : q < zv.cells.size := (Array.getElem?_eq_some_iff.1 hq).1
      have hni : i ∉ (ps.toList.map fun (x : Nat × Operand) => (x.1, a.eval x.2)).map (·.1) := by
        intro hmem
        simp only [List.map_map, List.mem_map, Function.comp_def] at hmem
        obtain ⟨x, hxm, e⟩ := hmem
        have := List.find?_eq_none.1 hp x hxm
        simp [e] at this
      have := f4 i (i * e.size) e.size hni rfl q (by omega)
      have h9 : c0[i * e.size + q]? = zv.cells[q]? := by
        simp only [c0]
        rw [← hzs]
        exact madeCells_get (by omega) hil hql
      simp [this, h9, hq]
  have hvs : ∃ vs : Nat → Value, ∀ (i : Nat) (x : D), (PE.evs ρ es)[i]? = some x → Rep C.cap σ e (vs i) x ∧ ∀ q u, (vs i).cells[q]? = some u → cells'.toList[i * e.size + q]? = some u := by
    have hch : ∀ i, ∃ v, ∀ x, (PE.evs ρ es)[i]? = some x → Rep C.cap σ e v x ∧ ∀ q u, v.cells[q]? = some u → cells'.toList[i * e.size + q]? = some u := by
      intro i
      cases hx : (PE.evs ρ es)[i]? with
      | none => exact ⟨undef, fun x hx' => by cases hx'⟩
      | some x =>
        obtain ⟨v, hv⟩ := hgetel i x hx
        exact ⟨v, fun y hy => by cases hy; exact hv⟩
    exact ⟨fun i => Classical.choose (hch i), fun i x hx => Classical.choose_spec (hch i) x hx⟩
  obtain ⟨vs, hvs⟩ := hvs
  have hcs : cells'.size = len * e.size := by rw [f2, hc0]
  refine ⟨cells'.toList, PE.evs ρ es, by simp [Env.setO, upd_same], ?_, ⟨vs, fun i x hx => (hvs i x hx).1, fun i j u hi hj => (hvs i _ (List.getElem?_eq_getElem hi)).2 j u hj⟩, fun k hk => by rw [upd_same] at hk; simp [Value.ownBlock] at hk; simp [ownNew, hk]⟩
  rw [upd_same, hel]
  have hll : len ≤ maxLen := by
    have : len * 1 ≤ len * e.size := Nat.mul_le_mul_left _ h1
    unfold maxLen; omega
  exact ⟨by simp [hcs], .inr ⟨w.heap.size, len, cells', rfl, h.below.size, heap_alloc_new w _, Nat.le_refl _, hll, hcs, by rw [List.take_of_length_le (by simp [hcs])]⟩⟩

theorem eBuildSlice_sound (h : Inv C S ρ σ own hv w0 σ0 A a w) (hC : CtxOK C σ0) (ht : ¬ A dst) (hlt : dst < a.tmps.size) {T : TypeId} {len : Nat} {ps : Array (Nat × Operand)} {r : St × List PI} (hr : eBuildSlice C S [] dst T len ps.toList = some r) {o : Oper} (hd : o.dst = some dst)
    (ho : o.op = .buildSlice T len ps) : EOK C w0 σ0 Φ S ρ A a w o r := by
  obtain ⟨E, e, es, v, w', _, _, rfl, hrun, hb, hnb, hob⟩ := eBuildSlice_core h hC rfl hr ho
  refine EOK.value hd fun ρ' hrun' => ⟨_, _, hrun, ?_⟩
  rw [runsOR hrun']
  exact h.mkObj ht hlt (.row E e) _ _ (fun k => Nat.beq k w.heap.size) hb hnb hob

/-- an object is dropped -/
theorem Inv.kill (h : Inv C S ρ σ own hv w0 σ0 A a w) (j : Nat) : Inv C (S.newO j .dead) ρ σ own hv w0 σ0 A a w := by
  have hver : ∀ i, S.ver i ≤ (S.newO j .dead).ver i := by
    intro i
    show S.ver i ≤ upd S.ver j (S.ver j + 1) i
    rw [upd_apply]
    by_cases e : i = j
    · subst e; simp
    · simp [e]
  have hc : Compat S hv (S.newO j .dead) hv := ⟨hver, fun _ _ => rfl⟩
  refine h.step (· = j) rfl (.refl σ) h.ok (fun _ _ _ hx => .inl hx) (fun _ _ hx => .inl hx) (.refl _ _) hc (fun i hi => ⟨by simp [St.newO, upd_ne _ _ hi], rfl, rfl, fun k hk => ⟨hk, rfl⟩⟩) (fun i hi => ?_) h.owns (fun _ => id) (fun t => .inl ⟨rfl, rfl, rfl⟩) (fun _ _ => rfl) (fun _ _ _ => rfl) (fun k i hk => .inl ⟨i, hk⟩) (fun i hi => by subst hi; simp [St.newO, upd_same])
  subst hi
  simp only [St.newO, upd_same]
  trivial

theorem eLit_sound (h : Inv C S ρ σ own hv w0 σ0 A a w) (hC : CtxOK C σ0) (ht : ¬ A dst) (hlt : dst < a.tmps.size) (hgs : ∀ g, g ∈ gs → A g.1) (hg : holds gs ρ = true) {T : TypeId} {len : Nat} {ps : Array (Nat × Operand)} {r : St × List PI} (hr : eLit C S gs dst T len ps.toList = some r) {o : Oper} (hd : o.dst = some dst)
    (ho : o.op = .buildSlice T len ps) : EOK C w0 σ0 Φ S ρ A a w o r := by
  unfold eLit at hr
  split at hr
  case h_2 => cases hr
  rename_i E q hT hq
  simp only [Option.bind_eq_some_iff] at hr
  obtain ⟨e, he, hr⟩ := hr
  obtain ⟨E', e', es, v, w', hT', he', rfl, hrun, hb, hnb, hob⟩ := eBuildSlice_core h hC hg hq ho
  rw [hT] at hT'; cases hT'
  rw [he] at he'; cases he'
  cases hr
  refine EOK.value hd fun ρ' hrun' => ⟨_, _, hrun, ?_⟩
  have hρ : ρ' = ρ.setR dst (.list (PE.evs ρ es)) := by simp [PI.runs, PI.run, PE.ev] at hrun'; exact hrun'.symm
  subst hρ
  have h1 := h.newO dst (.row E e) (.list (PE.evs ρ es)) v (fun k => Nat.beq k w.heap.size) hb hnb hob
  obtain ⟨σ2, own2, _, h2⟩ := h1.fz dst
  have hfz : (S.newO dst (.row E e)).fz dst = (S.newO dst (.row E e)).setO dst (.fz (.slice e.rol)) := by
    have : (S.newO dst (.row E e)).o dst = .row E e := upd_same _ _ _
    unfold St.fz; rw [this]
  rw [hfz] at h2
  have hobj := h2.objs dst
  have e1 : ((S.newO dst (.row E e)).setO dst (.fz (.slice e.rol))).o dst = .fz (.slice e.rol) := upd_same _ _ _
  rw [e1] at hobj
  have hrep : Rep C.cap σ2 (.slice e.rol) v (.list (PE.evs ρ es)) := by
    have := hobj.2
    rwa [upd_same, show (ρ.setO dst (.list (PE.evs ρ es))).o dst = .list (PE.evs ρ es) from upd_same _ _ _] at this
  -- the object is dropped: the place is as it was
  have h3 : Inv C (S.newO dst .dead) ρ σ2 own2 (upd hv dst v) w0 σ0 A a w' := by
    refine h2.step (· = dst) rfl (.refl σ2) h2.ok (fun _ _ _ hx => .inl hx) (fun _ _ hx => .inl hx) (.refl _ _) ⟨fun i => Nat.le_refl _, fun _ _ => rfl⟩ (fun i hi => ⟨?_, ?_, rfl, fun k hk => ⟨hk, rfl⟩⟩) (fun i hi => ?_) h2.owns (fun _ => id) (fun t => .inl ⟨rfl, rfl, rfl⟩) (fun _ _ => rfl) (fun _ _ _ => rfl) (fun k i hk => .inl ⟨i, hk⟩) (fun i hi => by subst hi; simp [St.newO, upd_same])
    · simp [St.newO, St.setO, upd_ne _ _ hi]
    · simp [Env.setO, upd_ne _ _ hi]
    · subst hi; simp only [St.newO, upd_same]; trivial
  have hh : holds gs (ρ.setR dst (.list (PE.evs ρ es))) = true := by rw [holds_setR (t := dst) fun g hm e => ht (by rw [← e]; exact hgs g hm)]; exact hg
  cases gs with
  | nil => exact ⟨_, _, _, h3.setReg ht (s := .dat (.slice e.rol)) hrep hlt (fun _ _ e => by cases e)⟩
  | cons g gs' =>
    refine ⟨_, _, _, h3.setReg ht (s := .opt (g :: gs') (.dat (.slice e.rol))) ⟨fun _ => hrep, fun e => absurd (hh.symm.trans e) (by decide)⟩ hlt (fun gs s e => ?_)⟩
    cases e
    exact ⟨hgs, fun _ _ e => by cases e⟩
end
end Cx
