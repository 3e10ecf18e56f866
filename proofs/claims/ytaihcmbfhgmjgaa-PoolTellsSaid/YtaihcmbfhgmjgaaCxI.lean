/-
  The quiet operations (fifth part): addresses of fields and elements, parts of rows, lookups, closures, literals.
-/
import Derived.Test.YtaihcmbfhgmjgaaCxH
set_option linter.unusedSimpArgs false
set_option linter.unusedVariables false
namespace Cx
open Go Go.RowKit

section
variable {C : Ctx} {S : St} {ρ : Env} {σ : Im} {own : Nat → Option Nat} {hv : Nat → Value} {w0 : World} {σ0 : Base} {A : Nat → Prop} {a : Act} {w : World} {gs : List (Nat × Bool)} {Φ : Funs} {dst : Nat}

theorem shX_sound (h : Inv C S ρ σ own hv w0 σ0 A a w) (hg : holds gs ρ = true) (x : Operand) : CellOK C S ρ σ hv (shX S gs x) (a.eval x) ((regE x).ev ρ) ∧ ∀ gs' s, shX S gs x ≠ .opt gs' s := by
  cases x with
  | tmp t => exact shR_sound h hg t
  | _ => exact ⟨trivial, fun _ _ e => by cases e⟩

theorem fieldOf_run {P : Program} {T : TypeId} {i : Nat} {f : Field} (h : fieldOf P T i = some f) : ∃ fs, P.underlying T = some (.struct fs) ∧ fs[i]? = some f := by
  unfold fieldOf at h
  split at h
  · rename_i fs hu; exact ⟨fs, hu, h⟩
  · cases h

theorem run_fieldAddr {o : Oper} {T : TypeId} {x : Operand} {i : Nat} {f : Field} {inf : TypeInfo} {k off : Nat} (ho : o.op = .fieldAddr T x i) (hf : fieldOf C.P T i = some f) (hi : C.P.info? f.type = some inf) (hn : Nat.beq inf.size 0 = false)
    (hx : a.eval x = .pointer (some ⟨k, off, none⟩)) : (execOp a.eval o).run C.P w = .ok (.value (.pointer (some ⟨k, off + f.offset, none⟩))) w := by
  obtain ⟨fs, hu, hfs⟩ := fieldOf_run hf
  have hn' : inf.size ≠ 0 := by intro e; simp [e] at hn
  simp [execOp, ho, Instr.fieldAt, run_underlying hu, hfs, hx, Instr.sureAddr, fieldPlace, Go.sizeOf, run_typeInfo w hi, hn', addr_add]

theorem opFieldAddr_sound (h : Inv C S ρ σ own hv w0 σ0 A a w) (hC : CtxOK C σ0) (hg : holds gs ρ = true) {T : TypeId} {x : Operand} {i : Nat} {r : Sh × List PI} (hr : opFieldAddr C S gs dst T x i = some r) {o : Oper} (ho : o.op = .fieldAddr T x i) :
    QOK C S ρ σ hv Φ dst a w o r := by
  simp only [opFieldAddr, Option.bind_eq_some_iff] at hr
  obtain ⟨f, hf, hr⟩ := hr
  obtain ⟨hshx, hno⟩ := shX_sound h hg x
  split at hr
  case h_2 => cases hr
  rename_i inf ag hi ha
  cases hn : Nat.beq inf.size 0 <;> simp only [hn, cond_true, cond_false] at hr
  case true => cases hr
  split at hr
  · rename_i j ver size off es
    cases hb : Nat.beq ver (S.ver j) <;> simp only [hb, cond_true, cond_false] at hr
    · cases hr
    cases hr
    rw [es] at hshx
    intro ρ' hrun
    obtain ⟨k, n, c, ik, idx, hvj, hdi, hin, hav⟩ := hshx.2 (Nat.eq_of_beq_eq_true hb)
    exact ⟨_, _, runs1 hrun, run_fieldAddr ho hf hi hn hav, ⟨hshx.1, fun _ => ⟨k, n, c, ik, idx, hvj, hdi, hin, by rw [Nat.add_assoc]⟩⟩, fun _ _ e => by cases e⟩
  · split at hr
    · rename_i ts e hu
      have hp' := use_sound h hC hg hu
      simp only [Option.map_eq_some_iff] at hr
      obtain ⟨ty, hty, rfl⟩ := hr
      obtain ⟨k, off, v, y, hv1, hd1, hrep, hcells⟩ := Rep.ref_inv hp'
      obtain ⟨vs, ds, rfl, rfl, l1, l2, hall, hone⟩ := hrep.agg_inv
      obtain ⟨hpart, hlen, hn1⟩ := part_rep hty l1 l2 hall hone
      refine .dat (run_fieldAddr ho hf hi hn hv1) ?_
      have hde : (PE.deref e).ev ρ = .agg ds := by simp only [PE.ev, hd1, D.deref]
      simp only [PE.ev]
      rw [partPE_ev hde]
      refine .ref ty k (off + f.offset) _ _ hpart (fun j u hu => ?_)
      have hu' : ((vs.drop f.offset).take inf.size)[j]? = some u := by
        cases ag with
        | true => simpa [rowOf, Value.cells] using hu
        | false =>
          have := hn1 rfl
          rw [this] at hlen ⊢
          obtain ⟨q, hq⟩ : ∃ q, (vs.drop f.offset).take 1 = [q] := by
            match (vs.drop f.offset).take 1, hlen with
            | [q], _ => exact ⟨q, rfl⟩
          rw [this] at hpart hu
          rw [hq] at hpart hu ⊢
          simp only [rowOf, List.getD_cons_zero] at hpart hu
          have hrt : ty.rowT = false := by
            unfold partTy at hty
            cases hle : Nat.ble (f.offset + inf.size) ts.length <;> simp only [hle, cond_true, cond_false] at hty
            · cases hty
            · cases hb : Nat.beq inf.size 1 <;> simp only [hb, cond_true, cond_false] at hty
              · cases hty
              · have := hone _ _ hty
                cases ty <;> simp_all [Ty.one, Ty.rowT]
          rw [hpart.cells1 hrt] at hu
          simpa using hu
      simp only [List.getElem?_take, List.getElem?_drop] at hu'
      split at hu'
      · have := hcells (f.offset + j) u (by simpa [Value.cells] using hu')
        rwa [← Nat.add_assoc] at this
      · cases hu'
    · split at hr
      · rename_i j ver off es
        cases hb : Nat.beq ver (S.ver j) <;> simp only [hb, cond_true, cond_false] at hr
        · cases hr
        cases hr
        rw [es] at hshx
        intro ρ' hrun
        obtain ⟨k, hvj, hav⟩ := hshx.2 (Nat.eq_of_beq_eq_true hb)
        exact ⟨_, _, runs1 hrun, run_fieldAddr ho hf hi hn hav, ⟨hshx.1, fun _ => ⟨k, hvj, rfl⟩⟩, fun _ _ e => by cases e⟩
      · cases hr

theorem opField_sound (h : Inv C S ρ σ own hv w0 σ0 A a w) (hC : CtxOK C σ0) (hg : holds gs ρ = true) {T : TypeId} {x : Operand} {i : Nat} {r : Sh × List PI} (hr : opField C S gs dst T x i = some r) {o : Oper} (ho : o.op = .field T x i) :
    QOK C S ρ σ hv Φ dst a w o r := by
  simp only [opField, Option.bind_eq_some_iff] at hr
  obtain ⟨f, hf, hr⟩ := hr
  split at hr
  case h_2 => cases hr
  rename_i inf ag hi ha
  split at hr
  case h_2 => cases hr
  rename_i ts e hu
  have hp' := use_sound h hC hg hu
  simp only [Option.map_eq_some_iff] at hr
  obtain ⟨ty, hty, rfl⟩ := hr
  obtain ⟨vs, ds, hv1, hd1, l1, l2, hall, hone⟩ := Rep.agg_inv hp'
  obtain ⟨hpart, hlen, hn1⟩ := part_rep hty l1 l2 hall hone
  obtain ⟨fs, hu', hfs⟩ := fieldOf_run hf
  have hle : f.offset + inf.size ≤ ts.length := by
    unfold partTy at hty
    cases hle : Nat.ble (f.offset + inf.size) ts.length <;> simp only [hle, cond_true, cond_false] at hty
    · cases hty
    · exact Nat.le_of_ble_eq_true hle
  refine .dat (v := rowOf ag ((vs.drop f.offset).take inf.size)) ?_ (by rw [partPE_ev hd1]; exact hpart)
  cases ag with
  | true =>
    simp only [execOp, ho, Instr.field, hv1, asAgg, part]
    simp [run_underlying hu', hfs, isAggD_run ha, Go.sizeOf, run_typeInfo w hi, rowOf]
  | false =>
    have hn := hn1 rfl
    have hlt : f.offset < vs.length := by omega
    simp only [execOp, ho, Instr.field, hv1, asAgg, part]
    simp [run_underlying hu', hfs, isAggD_run ha, rowOf, hn, List.getElem?_eq_getElem hlt, List.getD_eq_getElem?_getD, List.getElem?_take, List.getElem?_drop]

theorem run_indexAddr_some {o : Oper} {T e : TypeId} {x i : Operand} {inf : TypeInfo} {k off n c idx : Nat} {ik : IntKind} (ho : o.op = .indexAddr T x i) (hT : C.P.underlying T = some (.slice e)) (hi : C.P.info? e = some inf)
    (hx : a.eval x = .slice (some ⟨k, off, none⟩) n c) (hidx : a.eval i = .int ik idx) (hlt : idx < n) : (execOp a.eval o).run C.P w = .ok (.value (.pointer (some ⟨k, off + idx * inf.size, none⟩))) w := by
  simp [execOp, ho, Instr.indexAt, run_underlying hT, hx, hidx, asIntOf, hlt, Go.sizeOf, run_typeInfo w hi, addr_add]

theorem sizeFact_info {P : Program} {T : TypeId} {t : Ty} (h : sizeFact P T t = true) : ∃ inf, P.info? T = some inf ∧ inf.size = t.size := by
  unfold sizeFact at h
  split at h
  · rename_i i hi; exact ⟨i, hi, Nat.eq_of_beq_eq_true h⟩
  · cases h

theorem opIndexAddr_sound (h : Inv C S ρ σ own hv w0 σ0 A a w) (hC : CtxOK C σ0) (hg : holds gs ρ = true) {T : TypeId} {x i : Operand} {r : Sh × List PI} (hr : opIndexAddr C S gs dst T x i = some r) {o : Oper} (ho : o.op = .indexAddr T x i) :
    QOK C S ρ σ hv Φ dst a w o r := by
  unfold opIndexAddr at hr
  split at hr
  case h_2 => cases hr
  rename_i e hT
  simp only [Option.bind_eq_some_iff] at hr
  obtain ⟨p, hp, hr⟩ := hr
  have hp' := use_sound h hC hg hp
  split at hr
  case h_2 => cases hr
  rename_i ik e1
  rw [e1] at hp'
  obtain ⟨idx, hv1, hd1, b1, b2⟩ := hp'.int_inv
  split at hr
  · rename_i t pe hu
    have hx' := use_sound h hC hg hu
    cases hsz : sizeFact C.P e t <;> simp only [hsz, cond_true, cond_false] at hr
    · cases hr
    cases hr
    obtain ⟨inf, hi, hs⟩ := sizeFact_info hsz
    obtain ⟨xs, hd, hcase⟩ := Rep.slice_inv hx'
    refine .datc hg fun hc => ?_
    simp only [PE.ev, hd, hd1, D.l_list, D.i_int, D.b_bool, decide_eq_true_eq] at hc
    rcases hcase with ⟨_, rfl⟩ | ⟨k, off, c, hvx, h1, h2, vs, h3, h4⟩
    · simp at hc; omega
    · obtain ⟨m, rfl⟩ := Int.eq_ofNat_of_zero_le hc.1
      have hlt : m < xs.length := by omega
      refine ⟨_, run_indexAddr_some ho hT hi hvx hv1 hlt, ?_⟩
      obtain ⟨y, hy⟩ : ∃ y, xs[m]? = some y := ⟨_, List.getElem?_eq_getElem hlt⟩
      simp only [PE.ev, hd, hd1, D.l_list, D.i_int, Int.toNat_natCast, getD_of_some hy]
      exact .ref t.unf k _ (vs m) y (h3 m y hy) (fun j u hu => by rw [hs]; exact h4 m j u hlt hu)
  · cases hr
  · obtain ⟨hshx, hno⟩ := shX_sound h hg x
    split at hr
    · rename_i j ver es
      rw [es] at hshx
      cases hb : Nat.beq ver (S.ver j) <;> simp only [hb, cond_true, cond_false] at hr
      · cases hr
      have hver := Nat.eq_of_beq_eq_true hb
      have hobj := h.objs j
      have hval := hshx.2 hver
      split at hr
      · rename_i T' t eo
        rw [eo] at hobj
        cases hsz : sizeFact C.P e t <;> simp only [hsz, cond_true, cond_false] at hr
        · cases hr
        cases hr
        obtain ⟨inf, hi, hs⟩ := sizeFact_info hsz
        obtain ⟨cells, xs, h1, h2, ⟨vs, h3, h4⟩, h5⟩ := hobj
        intro ρ' hrun
        obtain ⟨hc, hρ⟩ := runs2 hg hrun
        simp only [PE.ev, h1, hd1, D.l_list, D.i_int, D.b_bool, decide_eq_true_eq] at hc
        obtain ⟨m, rfl⟩ := Int.eq_ofNat_of_zero_le hc.1
        have hlt : m < xs.length := by omega
        rcases h2.2 with ⟨_, e0⟩ | ⟨g, cap, cur, hvj, _⟩
        · omega
        · refine ⟨_, _, hρ, run_indexAddr_some ho hT hi (hval.trans hvj) hv1 hlt, ⟨by omega, fun _ => ⟨g, xs.length, cap, ik, m, hvj, hd1, hlt, ?_⟩⟩, fun _ _ e => by cases e⟩
          rw [hs]; simp
      · cases hr
    · cases hr

theorem opIndex_sound (h : Inv C S ρ σ own hv w0 σ0 A a w) (hC : CtxOK C σ0) (hg : holds gs ρ = true) {T : TypeId} {x i : Operand} {r : Sh × List PI} (hr : opIndex C S gs dst T x i = some r) {o : Oper} (ho : o.op = .index T x i) :
    QOK C S ρ σ hv Φ dst a w o r := by
  unfold opIndex at hr
  split at hr
  case h_2 => cases hr
  rename_i hT
  simp only [Option.bind_eq_some_iff] at hr
  obtain ⟨p, hp, q, hq, hr⟩ := hr
  have hp' := use_sound h hC hg hp
  have hq' := use_sound h hC hg hq
  split at hr
  case h_2 => cases hr
  rename_i ik e1 e2
  rw [e1] at hp'
  rw [e2] at hq'
  obtain ⟨idx, hv1, hd1, b1, b2⟩ := hp'.int_inv
  obtain ⟨s, hv2, hd2, _⟩ := hq'.str_inv
  cases hr
  refine .datc hg fun hc => ?_
  simp only [PE.ev, hd2, hd1, D.s_str, D.i_int, D.b_bool, decide_eq_true_eq] at hc
  obtain ⟨m, rfl⟩ := Int.eq_ofNat_of_zero_le hc.1
  have hlt : m < s.size := by omega
  refine ⟨.int .u8 (s.data.getD m 0).toNat, ?_, ?_⟩
  · have : s[m]? = some (s.data.getD m 0) := by
      rw [getElem?_pos s m hlt]
      simp [ByteArray.getElem_eq_getElem_data, Array.getD_eq_getD_getElem?, Array.getElem?_eq_getElem (show m < s.data.size from hlt)]
    simp [execOp, ho, Instr.index, run_underlying hT, hv1, hv2, asIntOf, this]
  · simp only [PE.ev, hd2, hd1, D.s_str, D.i_int, Int.toNat_natCast]
    refine .int _ _ ?_ ?_
    · simp only [IntKind.min, IntKind.signed]; simp
    · simp only [IntKind.max, IntKind.signed, IntKind.bits]; have := UInt8.toNat_lt (s.data.getD m 0); simp at this ⊢; omega
end
end Cx
