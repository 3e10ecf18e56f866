/-
  The quiet operations (fourth part): loads, addresses of fields and elements, parts of rows.
-/
import Derived.Test.YtaihcmbfhgmjgaaCxG
import Derived.ChangeKeysEq
set_option linter.unusedSimpArgs false
set_option linter.unusedVariables false
namespace Cx
open Go Go.RowKit

theorem isAggD_run {P : Program} {T : TypeId} {ag : Bool} (h : isAggD P T = some ag) (w : World) : (isAgg T).run P w = .ok ag w := by
  unfold isAggD at h
  split at h
  · rename_i fs hu; cases h; simp [isAgg, run_underlying hu]
  · rename_i n e hu; cases h; simp [isAgg, run_underlying hu]
  · rename_i d h1 h2 hu
    cases h
    cases d <;> simp_all [isAgg, run_underlying hu]
  · cases h

theorem addr_add (k o n : Nat) : (⟨k, o, none⟩ : Addr).add n = ⟨k, o + n, none⟩ := by
  unfold Addr.add; split <;> simp_all

theorem run_loadVar_cells {P : Program} {T : TypeId} {inf : TypeInfo} {ag : Bool} {w : World} {k o : Nat} {cs : List Value} (hi : P.info? T = some inf) (ha : isAggD P T = some ag) (hl : cs.length = inf.size)
    (h1 : ag = false → cs.length = 1) (hc : ∀ j u, cs[j]? = some u → w.cell? ⟨k, o + j, none⟩ = some u) : (loadVar T ⟨k, o, none⟩).run P w = .ok (rowOf ag cs) w := by
  cases ag with
  | true =>
    have := run_loadCells_list (P := P) w ⟨k, o, none⟩ cs (fun j v hv => by rw [addr_add]; exact hc j v hv)
    rw [hl] at this
    simp [loadVar, isAggD_run ha, Go.sizeOf, run_typeInfo w hi, this, rowOf]
  | false =>
    obtain ⟨u, hu⟩ : ∃ u, cs = [u] := by
      have := h1 rfl
      match cs, this with
      | [u], _ => exact ⟨u, rfl⟩
    subst hu
    have h0 := hc 0 u rfl
    simp only [Nat.add_zero] at h0
    simp [loadVar, isAggD_run ha, rowOf, run_load, h0]

section
variable {C : Ctx} {S : St} {ρ : Env} {σ : Im} {own : Nat → Option Nat} {hv : Nat → Value} {w0 : World} {σ0 : Base} {A : Nat → Prop} {a : Act} {w : World} {gs : List (Nat × Bool)} {Φ : Funs} {dst : Nat}

theorem run_load_op {o : Oper} {T : TypeId} {x : Operand} {v : Value} {k off : Nat} (ho : o.op = .load T x) (hx : a.eval x = .pointer (some ⟨k, off, none⟩)) (hl : (loadVar T ⟨k, off, none⟩).run C.P w = .ok v w) :
    (execOp a.eval o).run C.P w = .ok (.value v) w := by
  simp [execOp, ho, Instr.loadAt, hx, Instr.sureAddr, hl]

theorem getD_of_some {α : Type} {l : List α} {i : Nat} {x d : α} (h : l[i]? = some x) : l.getD i d = x := by
  rw [List.getD_eq_getElem?_getD, h]; rfl

/-- A part of a row that represents a row of data. -/
theorem part_rep {cap : Nat → Option CSig} {ts : List Ty} {vs : List Value} {ds : List D} {ag : Bool} {n off : Nat} {ty : Ty} (hp : partTy ag n ts off = some ty)
    (h1 : vs.length = ts.length) (h2 : ds.length = ts.length) (hr : ∀ (i : Nat) (t : Ty), ts[i]? = some t → Rep cap σ t (vs.getD i undef) (ds.getD i .none)) (ho : ∀ (i : Nat) (t : Ty), ts[i]? = some t → t.one = true) :
    Rep cap σ ty (rowOf ag ((vs.drop off).take n)) (bif ag then .agg ((ds.drop off).take n) else ds.getD off .none) ∧ ((vs.drop off).take n).length = n ∧ (ag = false → n = 1) := by
  unfold partTy at hp
  cases hle : Nat.ble (off + n) ts.length <;> simp only [hle, cond_true, cond_false] at hp
  · cases hp
  · have hle' := Nat.le_of_ble_eq_true hle
    have hlen : ((vs.drop off).take n).length = n := by simp; omega
    cases ag with
    | true =>
      simp only [cond_true] at hp
      cases hp
      refine ⟨?_, hlen, fun e => by cases e⟩
      simp only [rowOf, if_true, cond_true]
      refine .agg _ _ _ (by simp; omega) (by simp; omega) (fun i t hi => ?_) (fun i t hi => ?_)
      · simp only [List.getElem?_take, List.getElem?_drop] at hi
        split at hi
        · rename_i hin
          have := hr (off + i) t hi
          simpa [List.getD_eq_getElem?_getD, List.getElem?_take, List.getElem?_drop, hin] using this
        · cases hi
      · simp only [List.getElem?_take, List.getElem?_drop] at hi
        split at hi
        · exact ho _ t hi
        · cases hi
    | false =>
      simp only [cond_false] at hp
      cases hn : Nat.beq n 1 <;> simp only [hn, cond_true, cond_false] at hp
      · cases hp
      · have hn1 := Nat.eq_of_beq_eq_true hn
        subst hn1
        refine ⟨?_, hlen, fun _ => rfl⟩
        have := hr off ty hp
        have hlt : off < vs.length := by omega
        simpa [rowOf, List.getD_eq_getElem?_getD, List.getElem?_take, List.getElem?_drop] using this

theorem partPE_ev {ag : Bool} {n : Nat} {e : PE} {off : Nat} {ds : List D} (h : e.ev ρ = .agg ds) : (partPE ag n e off).ev ρ = bif ag then .agg ((ds.drop off).take n) else ds.getD off .none := by
  cases ag <;> simp [partPE, PE.ev, h, D.cells, D.c]

/-- A cell that a representation lies in is there. -/
theorem Inv.cell (h : Inv C S ρ σ own hv w0 σ0 A a w) {k o : Nat} {u : Value} (hc : σ.c k o = some u) : w.cell? ⟨k, o, none⟩ = some u := h.ok.c _ _ _ hc

theorem Rep.rowOf {cap : Nat → Option CSig} {t : Ty} {v : Value} {d : D} (h : Rep cap σ t v d) : v = Cx.rowOf t.rowT v.cells.toList := by
  cases h <;> simp [Cx.rowOf, Ty.rowT, Value.cells]
theorem Rep.cells1 {cap : Nat → Option CSig} {t : Ty} {v : Value} {d : D} (h : Rep cap σ t v d) (ht : t.rowT = false) : v.cells = #[v] := by
  cases h <;> simp_all [Ty.rowT, Value.cells]

theorem opLoad_ref (h : Inv C S ρ σ own hv w0 σ0 A a w) {T : TypeId} {x : Operand} {inf : TypeInfo} {ag : Bool} (hi : C.P.info? T = some inf) (ha : isAggD C.P T = some ag) {o : Oper} (ho : o.op = .load T x)
    {ty : Ty} {e : PE} (hr : Rep C.cap σ (.ref ty) (a.eval x) (e.ev ρ)) (hs : Nat.beq inf.size ty.size = true) (hag : (ag == ty.rowT) = true) :
    QOK C S ρ σ hv Φ dst a w o (.dat ty, [.setR dst (.deref e)]) := by
  obtain ⟨k, off, v, y, hv1, hd1, hrep, hcells⟩ := hr.ref_inv
  have hs' := Nat.eq_of_beq_eq_true hs
  have hag' : ag = ty.rowT := by simpa using hag
  have hz := hrep.size
  have hrow := hrep.rowOf
  refine .dat (v := v) (run_load_op ho hv1 ?_) ?_
  · rw [hrow, ← hag']
    refine run_loadVar_cells hi ha (by simp [hz, hs']) (fun e => ?_) (fun j u hu => ?_)
    · subst e
      simp [hrep.cells1 hag'.symm]
    · exact h.cell (hcells j u (by simpa using hu))
  · simp only [PE.ev, hd1, D.deref]; exact hrep

theorem Rep.dcells {cap : Nat → Option CSig} {t : Ty} {v : Value} {d : D} (h : Rep cap σ t v d) (ht : t.one = true) : d.cells = [d] := by
  cases h <;> simp_all [Ty.one, D.cells]

theorem cellPEs_sound (h : Inv C S ρ σ own hv w0 σ0 A a w) {j : Nat} {cs : List Value} {ds : List D} (hd : ρ.o j = .agg ds) :
    ∀ (shs : List Sh) (i : Nat) (r : List Ty × List PE), (∀ m s, shs[m]? = some s → CellOK C S ρ σ hv s (cs.getD (i + m) undef) (ds.getD (i + m) .none)) → cellPEs S j shs i = some r →
      r.1.length = shs.length ∧ ∃ es, (PE.evc ρ r.2 = es ∧ PE.evs ρ r.2 = es) ∧ es.length = shs.length ∧ (∀ m t, r.1[m]? = some t → t.one = true ∧ Rep C.cap σ t (cs.getD (i + m) undef) (es.getD m .none)) := by
  intro shs
  induction shs with
  | nil => intro i r hall hr; simp [cellPEs] at hr; subst hr; exact ⟨rfl, [], ⟨rfl, rfl⟩, rfl, by simp⟩
  | cons s shs ih =>
    intro i r hall hr
    simp only [cellPEs, Option.bind_eq_some_iff] at hr
    obtain ⟨x, hx, hr⟩ := hr
    have hall' : ∀ m s, shs[m]? = some s → CellOK C S ρ σ hv s (cs.getD (i + 1 + m) undef) (ds.getD (i + 1 + m) .none) := fun m s hm => by
      have := hall (m + 1) s (by simpa using hm)
      rwa [show i + (m + 1) = i + 1 + m by omega] at this
    obtain ⟨l1, es, ⟨he, he'⟩, l2, hrep⟩ := ih (i + 1) x hall' hx
    have h0 := hall 0 s rfl
    simp only [Nat.add_zero] at h0
    split at hr
    · rename_i t
      cases hone : t.one <;> simp only [hone, cond_true, cond_false] at hr
      · cases hr
      · cases hr
        have h0' : Rep C.cap σ t (cs.getD i undef) (ds.getD i .none) := h0
        refine ⟨by simp [l1], ds.getD i .none :: es, ⟨?_, by simp only [PE.evs, PE.ev, hd, D.c, D.cells, he']⟩, by simp [l2], fun m t' hm => ?_⟩
        · simp only [PE.evc, PE.ev, hd, D.c, D.cells, he]
          have := h0'.dcells hone
          simp only [D.cells] at this
          rw [this]; rfl
        · cases m with
          | zero => simp at hm; subst hm; exact ⟨hone, h0'⟩
          | succ m => simp at hm; have := hrep m t' hm; rwa [show i + 1 + m = i + (m + 1) by omega] at this
    · rename_i j' ver
      cases hb : Nat.beq ver (S.ver j') <;> simp only [hb, cond_true, cond_false] at hr
      · cases hr
      · have hver := Nat.eq_of_beq_eq_true hb
        split at hr
        · rename_i t eo
          cases hr
          have ho := h.objs j'
          rw [eo] at ho
          have h0' : cs.getD i undef = hv j' := h0.2 hver
          refine ⟨by simp [l1], ρ.o j' :: es, ⟨?_, by simp only [PE.evs, PE.ev, he']⟩, by simp [l2], fun m t' hm => ?_⟩
          · simp only [PE.evc, PE.ev, he]
            rw [ho.2.dcells ho.1]; rfl
          · cases m with
            | zero => simp at hm; subst hm; exact ⟨ho.1, by rw [Nat.add_zero, h0']; exact ho.2⟩
            | succ m => simp at hm; have := hrep m t' hm; rwa [show i + 1 + m = i + (m + 1) by omega] at this
        · cases hr
    · cases hr

theorem box_cell {w : World} {k : Nat} {cs : Array Value} {T : TypeId} {fr : Nat × Nat} (hb : w.heap[k]? = some (.cells cs T fr)) {i : Nat} (hi : i < cs.size) : w.cell? ⟨k, i, none⟩ = some (cs.getD i undef) := by
  simp [World.cell?, hb, Array.getD_eq_getD_getElem?, Array.getElem?_eq_getElem hi]

theorem getD_toList (cs : Array Value) (i : Nat) : cs.toList.getD i undef = cs.getD i undef := by
  simp [List.getD_eq_getElem?_getD, Array.getD_eq_getD_getElem?]

theorem opLoad_sound (h : Inv C S ρ σ own hv w0 σ0 A a w) (hC : CtxOK C σ0) (hg : holds gs ρ = true) {T : TypeId} {x : Operand} {r : Sh × List PI} (hr : opLoad C S gs dst T x = some r) {o : Oper} (ho : o.op = .load T x) :
    QOK C S ρ σ hv Φ dst a w o r := by
  unfold opLoad at hr
  split at hr
  case h_2 => cases hr
  rename_i inf ag hi ha
  have hshx : CellOK C S ρ σ hv (shX S gs x) (a.eval x) ((regE x).ev ρ) := by
    cases x with
    | tmp t => exact (shR_sound h hg t).1
    | _ => trivial
  split at hr
  · -- a pointer to a box
    rename_i j ver off es
    rw [es] at hshx
    cases hb : Nat.beq ver (S.ver j) <;> simp only [hb, cond_true, cond_false] at hr
    · cases hr
    have hver := Nat.eq_of_beq_eq_true hb
    obtain ⟨k, hvj, hav⟩ := hshx.2 hver
    have hobj := h.objs j
    split at hr
    · rename_i bag shs eo
      rw [eo] at hobj
      obtain ⟨k', cs, T', ds, h1, h2, h3, h4, h5, h6, h7⟩ := hobj
      rw [hvj] at h1
      cases h1
      cases ag with
      | true =>
        simp only [cond_true] at hr
        cases hle : Nat.ble (off + inf.size) shs.length <;> simp only [hle, cond_true, cond_false] at hr
        · cases hr
        have hle' := Nat.le_of_ble_eq_true hle
        simp only [Option.map_eq_some_iff] at hr
        obtain ⟨p, hp, rfl⟩ := hr
        obtain ⟨l1, es, ⟨he, _⟩, l2, hrep⟩ := cellPEs_sound h (cs := cs.toList) h5 _ off p (fun m s hm => by
          simp only [List.getElem?_take, List.getElem?_drop] at hm
          split at hm
          · have := (h7 (off + m) s hm).2
            rw [getD_toList]; exact this
          · cases hm) hp
        have hlen : ((shs.drop off).take inf.size).length = inf.size := by simp; omega
        refine .dat (v := rowOf true ((cs.toList.drop off).take inf.size)) (run_load_op ho hav (run_loadVar_cells hi ha (by simp; omega) (fun e => by cases e) (fun m u hu => ?_))) ?_
        · simp only [List.getElem?_take, List.getElem?_drop] at hu
          split at hu
          · rename_i hm
            have := box_cell h3 (i := off + m) (by omega)
            rw [this, ← getD_toList]
            exact congrArg some (getD_of_some hu)
          · cases hu
        · simp only [PE.ev, rowOf, if_true, he]
          refine .agg _ _ _ (by simp; omega) (by omega) (fun m t hm => ?_) (fun m t hm => (hrep m t hm).1)
          have hml : m < inf.size := by have := (List.getElem?_eq_some_iff.1 hm).1; omega
          have := (hrep m t hm).2
          simpa [List.getD_eq_getElem?_getD, List.getElem?_take, List.getElem?_drop, hml] using this
      | false =>
        simp only [cond_false] at hr
        split at hr
        · rename_i ty hs
          cases hone : ty.one <;> simp only [hone, cond_true, cond_false] at hr
          · cases hr
          cases hr
          have hcell := (h7 off _ hs).2
          have hlt : off < shs.length := (List.getElem?_eq_some_iff.1 hs).1
          have hload : (loadVar T ⟨k, off, none⟩).run C.P w = .ok (cs.getD off undef) w := by
            simp [loadVar, isAggD_run ha, run_load, box_cell h3 (i := off) (by omega)]
          refine .dat (v := cs.getD off undef) (run_load_op ho hav hload) ?_
          simp only [PE.ev, h5, D.c, D.cells]
          exact hcell
        · rename_i j' ver' hs
          cases hr
          have hcell := (h7 off _ hs).2
          have hlt : off < shs.length := (List.getElem?_eq_some_iff.1 hs).1
          have hload : (loadVar T ⟨k, off, none⟩).run C.P w = .ok (cs.getD off undef) w := by
            simp [loadVar, isAggD_run ha, run_load, box_cell h3 (i := off) (by omega)]
          intro ρ' hrun
          exact ⟨_, _, runs1 hrun, run_load_op ho hav hload, hcell, fun _ _ e => by cases e⟩
        · cases hr
    · rename_i ts eo
      rw [eo] at hobj
      obtain ⟨k', v, h1, h2, h3⟩ := hobj
      rw [hvj] at h1
      cases h1
      simp only [Option.map_eq_some_iff] at hr
      obtain ⟨ty, hty, rfl⟩ := hr
      obtain ⟨vs, ds, rfl, hd, l1, l2, hall, hone⟩ := h2.agg_inv
      obtain ⟨hrep, hlen, hn1⟩ := part_rep hty l1 l2 hall hone
      refine .dat (run_load_op ho hav (run_loadVar_cells hi ha hlen (fun e => by rw [hlen]; exact hn1 e) (fun m u hu => h.cell ?_))) (by rw [partPE_ev (e := .o j) hd]; exact hrep)
      simp only [List.getElem?_take, List.getElem?_drop] at hu
      split at hu
      · exact h3 (off + m) u (by simpa [Value.cells] using hu)
      · cases hu
    · rename_i ty hne eo
      rw [eo] at hobj
      obtain ⟨k', v, h1, h2, h3⟩ := hobj
      rw [hvj] at h1
      cases h1
      cases hc : (!ag && ty.one && Nat.beq off 0) <;> simp only [hc, cond_true, cond_false] at hr
      · cases hr
      cases hr
      simp only [Bool.and_eq_true, Bool.not_eq_true'] at hc
      have hoff := Nat.eq_of_beq_eq_true hc.2
      subst hoff
      have hload : (loadVar T ⟨k, 0, none⟩).run C.P w = .ok v w := by
        have := h.cell (h3 0 v (by simp [(h2.oneCell hc.1.2).1]))
        rw [hc.1.1] at ha
        simp [loadVar, isAggD_run ha, run_load, this]
      exact .dat (run_load_op ho hav hload) h2
    · cases hr
  · -- a pointer to an element
    rename_i j ver size off es
    rw [es] at hshx
    cases hb : Nat.beq ver (S.ver j) <;> simp only [hb, cond_true, cond_false] at hr
    · cases hr
    have hver := Nat.eq_of_beq_eq_true hb
    obtain ⟨k, n, c, ik, i, hvj, hdi, hin, hav⟩ := hshx.2 hver
    have hobj := h.objs j
    split at hr
    · rename_i T' ts eo
      rw [eo] at hobj
      obtain ⟨cells, xs, h1, h2, ⟨vs, h3, h4⟩, h5⟩ := hobj
      cases hsz : Nat.beq size ts.length <;> simp only [hsz, cond_true, cond_false] at hr
      · cases hr
      have hsz' := Nat.eq_of_beq_eq_true hsz
      simp only [Option.map_eq_some_iff] at hr
      obtain ⟨ty, hty, rfl⟩ := hr
      rw [hvj] at h2
      have hcl := h2.cells (g := k) rfl
      obtain ⟨b, c', e1, hm1, hm2⟩ := ownsRow_slice h2
      cases e1
      obtain ⟨y, hy⟩ : ∃ y, xs[i]? = some y := ⟨_, List.getElem?_eq_getElem hin⟩
      have hrepy := h3 i y hy
      obtain ⟨us, ds, hvi, hd, l1, l2, hall, hone⟩ := hrepy.agg_inv
      obtain ⟨hrep, hlen, hn1⟩ := part_rep hty l1 l2 hall hone
      have hnth : (PE.nth (.o j) (regE x)).ev ρ = .agg ds := by
        simp only [PE.ev, h1, D.l_list, hdi, D.i_int, Int.toNat_natCast]
        rw [getD_of_some hy, hd]
      refine .dat (run_load_op ho hav (run_loadVar_cells hi ha hlen (fun e => by rw [hlen]; exact hn1 e) (fun m u hu => ?_))) (by rw [partPE_ev hnth]; exact hrep)
      simp only [List.getElem?_take, List.getElem?_drop] at hu
      split at hu
      · have := h4 i (off + m) u (by omega) (by rw [hvi]; simpa [Value.cells] using hu)
        have := hcl _ _ this
        rw [addr_add] at this
        simpa [Ty.size, hsz', Nat.add_assoc] using this
      · cases hu
    · rename_i T' e hne eo
      rw [eo] at hobj
      obtain ⟨cells, xs, h1, h2, ⟨vs, h3, h4⟩, h5⟩ := hobj
      cases hc : (!ag && e.one && Nat.beq off 0 && Nat.beq size 1) <;> simp only [hc, cond_true, cond_false] at hr
      · cases hr
      cases hr
      simp only [Bool.and_eq_true, Bool.not_eq_true'] at hc
      have hoff := Nat.eq_of_beq_eq_true hc.1.2
      have hsz := Nat.eq_of_beq_eq_true hc.2
      subst hoff
      subst hsz
      rw [hvj] at h2
      have hcl := h2.cells (g := k) rfl
      obtain ⟨b, c', e1, hm1, hm2⟩ := ownsRow_slice h2
      cases e1
      obtain ⟨y, hy⟩ : ∃ y, xs[i]? = some y := ⟨_, List.getElem?_eq_getElem hin⟩
      have hrepy := h3 i y hy
      have hload : (loadVar T ⟨k, i * 1 + 0, none⟩).run C.P w = .ok (vs i) w := by
        have h6 := h4 i 0 (vs i) hin (by simp [(hrepy.oneCell hc.1.1.2).1])
        have := hcl _ _ h6
        rw [addr_add] at this
        have hez : e.size = 1 := by cases e <;> simp_all [Ty.size, Ty.one]
        rw [hc.1.1.1] at ha
        rw [hez] at this
        simp only [Nat.zero_add, Nat.add_zero, Nat.mul_one] at this
        simp [loadVar, isAggD_run ha, run_load, this]
      refine .dat (run_load_op ho hav hload) ?_
      simp only [PE.ev, h1, D.l_list, hdi, D.i_int, Int.toNat_natCast]
      rw [getD_of_some hy]; exact hrepy
    · cases hr
  · simp only [Option.bind_eq_some_iff] at hr
    obtain ⟨p, hp, hr⟩ := hr
    have hp' := use_sound h hC hg hp
    split at hr
    · rename_i ty e1
      rw [e1] at hp'
      cases hc : (Nat.beq inf.size ty.size && (ag == ty.rowT)) <;> simp only [hc, cond_true, cond_false] at hr
      · cases hr
      cases hr
      simp only [Bool.and_eq_true] at hc
      exact opLoad_ref h hi ha ho hp' hc.1 hc.2
    · cases hr
end
end Cx
