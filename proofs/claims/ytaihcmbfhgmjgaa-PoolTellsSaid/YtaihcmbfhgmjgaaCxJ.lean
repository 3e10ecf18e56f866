/-
  The quiet operations (last part): reslicing, closures, struct literals, lookups, nil checks; all of them together.
-/
import Derived.Test.YtaihcmbfhgmjgaaCxI
set_option linter.unusedSimpArgs false
set_option linter.unusedVariables false
namespace Cx
open Go Go.RowKit

section
variable {C : Ctx} {S : St} {ρ : Env} {σ : Im} {own : Nat → Option Nat} {hv : Nat → Value} {w0 : World} {σ0 : Base} {A : Nat → Prop} {a : Act} {w : World} {gs : List (Nat × Bool)} {Φ : Funs} {dst : Nat}

theorem useLo_sound (h : Inv C S ρ σ own hv w0 σ0 A a w) (hC : CtxOK C σ0) (hg : holds gs ρ = true) {lo : Option Operand} {l : Ty × PE} {k : IntKind} (hl : useLo C S gs lo = some l) (hk : l.1 = .int k) :
    ∃ n, l.2.ev ρ = .v (.int k n) ∧ ((lo = none ∧ n = 0) ∨ ∃ x, lo = some x ∧ a.eval x = .int k n) := by
  cases lo with
  | none => simp [useLo] at hl; subst hl; simp at hk; subst hk; exact ⟨0, rfl, .inl ⟨rfl, rfl⟩⟩
  | some x =>
    have := use_sound h hC hg hl
    rw [hk] at this
    obtain ⟨n, h1, h2, _⟩ := this.int_inv
    exact ⟨n, h2, .inr ⟨x, rfl, h1⟩⟩
theorem useHi_sound (h : Inv C S ρ σ own hv w0 σ0 A a w) (hC : CtxOK C σ0) (hg : holds gs ρ = true) {e : PE} {hi : Option Operand} {l : Ty × PE} {k : IntKind} (hl : useHi C S gs e hi = some l) (hk : l.1 = .int k) :
    ∃ n, l.2.ev ρ = .v (.int k n) ∧ ((hi = none ∧ n = (e.ev ρ).l.length) ∨ ∃ x, hi = some x ∧ a.eval x = .int k n) := by
  cases hi with
  | none => simp [useHi] at hl; subst hl; simp at hk; subst hk; exact ⟨_, rfl, .inl ⟨rfl, rfl⟩⟩
  | some x =>
    have := use_sound h hC hg hl
    rw [hk] at this
    obtain ⟨n, h1, h2, _⟩ := this.int_inv
    exact ⟨n, h2, .inr ⟨x, rfl, h1⟩⟩

theorem run_sliceBound {P : Program} {x : Value} {y i : Nat} {k : IntKind} {code : BoundsCode} {w : World} (hx : x = .int k i) (h : i ≤ y) : (Instr.sliceBound x y code).run P w = .ok i w := by
  subst hx
  simp [Instr.sliceBound, asIntOf, h]

theorem opSlice_sound (h : Inv C S ρ σ own hv w0 σ0 A a w) (hC : CtxOK C σ0) (hg : holds gs ρ = true) {T : TypeId} {x : Operand} {lo hi mx : Option Operand} {r : Sh × List PI} (hr : opSlice C S gs dst T x lo hi mx = some r) {o : Oper} (ho : o.op = .slice T x lo hi mx) :
    QOK C S ρ σ hv Φ dst a w o r := by
  unfold opSlice at hr
  split at hr
  case h_3 => cases hr
  case h_2 =>
    rename_i n e hT
    split at hr
    case h_2 => cases hr
    simp only [Option.bind_eq_some_iff] at hr
    obtain ⟨p, hp, hr⟩ := hr
    have hp' := use_sound h hC hg hp
    split at hr
    case h_2 => cases hr
    rename_i t ts e1
    cases hc : (Nat.beq n (ts.length + 1) && ts.all (Ty.beq t) && t.one && sizeFact C.P e t && Nat.ble n maxLen) <;> simp only [hc, cond_true, cond_false] at hr
    · cases hr
    cases hr
    simp only [Bool.and_eq_true] at hc
    obtain ⟨⟨⟨⟨c1, c2⟩, c3⟩, c4⟩, c5⟩ := hc
    have hn := Nat.eq_of_beq_eq_true c1
    have hm := Nat.le_of_ble_eq_true c5
    obtain ⟨inf, hinf, hs⟩ := sizeFact_info c4
    rw [e1] at hp'
    obtain ⟨k, off, x0, y, hvx, hd, hr0, hcells⟩ := hp'.ref_inv
    obtain ⟨vs, ds, rfl, rfl, l1, l2, hel, _⟩ := hr0.agg_inv
    have hall : ∀ (i : Nat), i < n → (t :: ts)[i]? = some t := fun i hi => by
      cases i with
      | zero => rfl
      | succ i =>
        have hlt : i < ts.length := by omega
        rw [List.getElem?_cons_succ, List.getElem?_eq_getElem hlt]
        rw [Ty.beq_eq _ _ (List.all_eq_true.1 c2 _ (List.getElem_mem hlt))]
    have hlv : vs.length = n := by rw [l1, hn]; rfl
    have hld : ds.length = n := by rw [l2, hn]; rfl
    have hone : t.size = 1 := by cases t <;> simp_all [Ty.one, Ty.size]
    refine QOK.dat (v := .slice (some ⟨k, off, none⟩) n n) ?_ ?_
    · have : Addr.add ⟨k, off, none⟩ 0 = ⟨k, off, none⟩ := by simp [Addr.add]
      simp [execOp, ho, Instr.sliceAt, run_underlying hT, hvx, Instr.sureAddr, Instr.sliceBounds, Go.sizeOf, run_typeInfo w hinf, this]
    · have hlst : (PE.lst ((List.range n).map fun i => .cell (.deref p.2) i)).ev ρ = .list ds := by
        simp only [PE.ev]
        congr 1
        have hev : ∀ l : List PE, PE.evs ρ l = l.map fun e => e.ev ρ := fun l => by induction l with | nil => rfl | cons e l ih => simp [PE.evs, ih]
        rw [hev, List.map_map]
        apply List.ext_getElem?
        intro i
        rw [List.getElem?_map]
        by_cases hi : i < n
        · rw [List.getElem?_range hi, List.getElem?_eq_getElem (by omega)]
          simp only [Option.map_some, Function.comp, PE.ev, hd, D.deref, D.c, D.cells]
          rw [List.getD_eq_getElem?_getD, List.getElem?_eq_getElem (by omega)]; rfl
        · rw [List.getElem?_eq_none (by simp; omega), List.getElem?_eq_none (by omega)]; rfl
      rw [hlst]
      refine .slice t k off n n ds (fun i => vs.getD i undef) hld (Nat.le_refl _) hm (fun i x hx => ?_) (fun i j u hi hu => ?_)
      · have hlt : i < n := by rw [← hld]; exact (List.getElem?_eq_some_iff.1 hx).1
        have := hel i t (hall i hlt)
        rw [getD_of_some hx] at this
        exact this.unf
      · have h1 := (hel i t (hall i hi)).oneCell c3
        rw [h1.1] at hu
        cases j with
        | zero =>
          simp at hu
          have := hcells i (vs.getD i undef) (by
            simp only [Value.cells]
            rw [List.getElem?_toArray, List.getElem?_eq_getElem (by omega), List.getD_eq_getElem?_getD, List.getElem?_eq_getElem (by omega)]; rfl)
          rw [hone, ← hu]; simpa using this
        | succ j => simp at hu
  rename_i e hT
  simp only [Option.bind_eq_some_iff] at hr
  obtain ⟨p, hp, hr⟩ := hr
  have hp' := use_sound h hC hg hp
  split at hr
  case h_2 => cases hr
  rename_i t e1
  rw [e1] at hp'
  simp only [Option.bind_eq_some_iff] at hr
  obtain ⟨l, hl, u, hu, hr⟩ := hr
  split at hr
  case h_2 => cases hr
  rename_i k1 k2 e2 e3
  cases hsz : sizeFact C.P e t <;> simp only [hsz, cond_true, cond_false] at hr
  · cases hr
  cases hr
  obtain ⟨inf, hinf, hs⟩ := sizeFact_info hsz
  obtain ⟨n1, hd1, hlo⟩ := useLo_sound h hC hg hl e2
  obtain ⟨n2, hd2, hhi⟩ := useHi_sound h hC hg hu e3
  obtain ⟨xs, hd, hcase⟩ := Rep.slice_inv hp'
  refine .datc hg fun hc => ?_
  simp only [PE.ev, hd, hd1, hd2, D.l_list, D.i_int, D.b_bool, decide_eq_true_eq] at hc
  obtain ⟨m1, rfl⟩ := Int.eq_ofNat_of_zero_le hc.1
  obtain ⟨m2, rfl⟩ := Int.eq_ofNat_of_zero_le (show 0 ≤ n2 by omega)
  have h12 : m1 ≤ m2 := by omega
  have h2l : m2 ≤ xs.length := by omega
  have hbounds : ∀ c, xs.length ≤ c → (Instr.sliceBounds true xs.length c (lo.map a.eval) (hi.map a.eval) none).run C.P w = .ok (m1, m2, c) w := by
    intro c hcc
    have hh : ∀ code, (match hi.map a.eval with | some v => Instr.sliceBound v c code | none => (pure xs.length : Sem Nat)).run C.P w = .ok m2 w := by
      intro code
      rcases hhi with ⟨rfl, e⟩ | ⟨y, rfl, e⟩
      · rw [hd, D.l_list] at e
        simp; omega
      · simp only [Option.map_some]
        exact run_sliceBound e (by omega)
    have hll : ∀ code, (match lo.map a.eval with | some v => Instr.sliceBound v m2 code | none => (pure 0 : Sem Nat)).run C.P w = .ok m1 w := by
      intro code
      rcases hlo with ⟨rfl, e⟩ | ⟨y, rfl, e⟩
      · simp; omega
      · simp only [Option.map_some]
        exact run_sliceBound e h12
    have hh' := hh .sliceAcap
    have hll' := hll .sliceB
    unfold Instr.sliceBounds
    cases hi <;> cases lo <;> simp at hh' hll' ⊢ <;> simp [hh', hll']
  rcases hcase with ⟨⟨p0, hvx⟩, rfl⟩ | ⟨k, off, c, hvx, h1, h2, vs, h3, h4⟩
  · have : m2 = 0 := by simpa using h2l
    have : m1 = 0 := by omega
    subst_vars
    refine ⟨.slice p0 0 0, ?_, ?_⟩
    · have hb := hbounds 0 (Nat.le_refl _)
      simp only [List.length_nil] at hb
      cases p0 with
      | none => simp [execOp, ho, Instr.sliceAt, Instr.slice, run_underlying hT, hvx, hb, Go.sizeOf, run_typeInfo w hinf]
      | some a0 => simp [execOp, ho, Instr.sliceAt, Instr.slice, run_underlying hT, hvx, hb, Go.sizeOf, run_typeInfo w hinf]
    · simp only [PE.ev, hd, hd1, hd2, D.l_list, D.i_int]
      cases p0 with
      | none => exact .nil t
      | some a0 => exact .emp t a0
  · refine ⟨.slice (some (if c = m1 then ⟨k, off, none⟩ else ⟨k, off + m1 * inf.size, none⟩)) (m2 - m1) (c - m1), ?_, ?_⟩
    · have hb := hbounds c h1
      simp only [execOp, ho, Option.map_none, Instr.sliceAt, run_underlying hT, hvx]
      simp [run_underlying hT, Instr.slice, hb, Go.sizeOf, run_typeInfo w hinf, addr_add]
      split <;> simp
    · simp only [PE.ev, hd, hd1, hd2, D.l_list, D.i_int, Int.toNat_natCast]
      have hlen : ((xs.take m2).drop m1).length = m2 - m1 := by simp; omega
      have hel : ∀ (i : Nat) (y : D), ((xs.take m2).drop m1)[i]? = some y → xs[m1 + i]? = some y := by
        intro i y hy
        simp only [List.getElem?_drop, List.getElem?_take] at hy
        split at hy
        · exact hy
        · cases hy
      have hcells : ∀ (i j : Nat) (v : Value), i < m2 - m1 → (vs (m1 + i)).cells[j]? = some v → σ.c k (off + m1 * inf.size + i * t.size + j) = some v := by
        intro i j v hi hj
        have := h4 (m1 + i) j v (by omega) hj
        rw [Nat.add_mul] at this
        rw [hs]
        rwa [← Nat.add_assoc] at this
      split
      · rename_i hcm
        refine .slice t k off (m2 - m1) (c - m1) _ (fun i => vs (m1 + i)) hlen (by omega) (by omega) (fun i y hy => h3 _ _ (hel i y hy)) (fun i j v hi hj => by omega)
      · exact .slice t k (off + m1 * inf.size) (m2 - m1) (c - m1) _ (fun i => vs (m1 + i)) hlen (by omega) (by omega) (fun i y hy => h3 _ _ (hel i y hy)) hcells

theorem uses_sound (h : Inv C S ρ σ own hv w0 σ0 A a w) (hC : CtxOK C σ0) (hg : holds gs ρ = true) : ∀ (xs : List Operand) (r : List Ty × List PE), uses C S gs xs = some r →
    r.1.length = xs.length ∧ r.2.length = xs.length ∧ ∀ (i : Nat) (t : Ty), r.1[i]? = some t → Rep C.cap σ t ((xs.map a.eval).getD i undef) ((PE.evs ρ r.2).getD i .none) := by
  intro xs
  induction xs with
  | nil => intro r hr; simp [uses] at hr; subst hr; exact ⟨rfl, rfl, by simp⟩
  | cons x xs ih =>
    intro r hr
    simp only [uses, Option.bind_eq_some_iff, Option.map_eq_some_iff] at hr
    obtain ⟨p, hp, q, hq, rfl⟩ := hr
    obtain ⟨l1, l2, hall⟩ := ih q hq
    refine ⟨by simp [l1], by simp [l2], fun i t hi => ?_⟩
    cases i with
    | zero => simp at hi; subst hi; simpa [PE.evs] using use_sound h hC hg hp
    | succ i => simp at hi; simpa [PE.evs] using hall i t hi

theorem opFunc_sound (h : Inv C S ρ σ own hv w0 σ0 A a w) (hC : CtxOK C σ0) (hg : holds gs ρ = true) {fn : Fn} {first caps : Array Operand} {r : Sh × List PI} (hr : opFunc C S gs dst fn first caps = some r) {o : Oper} (ho : o.op = .makeFunc fn first caps) :
    QOK C S ρ σ hv Φ dst a w o r := by
  unfold opFunc at hr
  split at hr
  case h_2 => cases hr
  rename_i f hfirst
  have hf0 : first = #[] := by simpa using hfirst
  subst hf0
  simp only [Option.bind_eq_some_iff] at hr
  obtain ⟨cs, hcs, p, hp, hr⟩ := hr
  cases hb : Ty.subs p.1 cs.caps <;> simp only [hb, cond_true, cond_false] at hr
  · cases hr
  cases hr
  obtain ⟨l1, l2, hall⟩ := uses_sound h hC hg _ _ hp
  have hl := Ty.subs_len _ _ hb
  refine .dat (v := .func (.func f) #[] (caps.map a.eval)) ?_ ?_
  · simp [execOp, ho, Instr.makeFunc]
  · simp only [PE.ev]
    have : caps.map a.eval = (caps.toList.map a.eval).toArray := by apply Array.ext'; rw [Array.toList_map]
    rw [this]
    have e1 : (caps.toList.map a.eval).length = cs.caps.length := by rw [List.length_map]; omega
    have e2 : (PE.evs ρ p.2).length = cs.caps.length := by rw [PE.evs_eq, List.length_map]; omega
    refine .fn f cs _ _ hcs e1 e2 (fun i t hi => ?_)
    obtain ⟨s, hs, hst⟩ := Ty.subs_get _ _ hb i t hi
    exact (hall i s hs).sub hst

theorem opNil_sound (h : Inv C S ρ σ own hv w0 σ0 A a w) (hC : CtxOK C σ0) (hg : holds gs ρ = true) {x : Operand} {r : Sh × List PI} (hr : opNil C S gs dst x = some r) {o : Oper} (ho : o.op = .nilCheck x) :
    QOK C S ρ σ hv Φ dst a w o r := by
  have hrun : ∀ k off, a.eval x = .pointer (some ⟨k, off, none⟩) → (execOp a.eval o).run C.P w = .ok (.value (a.eval x)) w := by
    intro k off e
    simp [execOp, ho, e]
  unfold opNil at hr
  split at hr
  · rename_i t e hu
    cases hr
    have hp' := use_sound h hC hg hu
    obtain ⟨k, off, v, y, hv1, hd1, hrep, hcells⟩ := Rep.ref_inv hp'
    exact .dat (hrun k off hv1) hp'
  · split at hr
    · rename_i t _
      obtain ⟨hs, hno⟩ := shR_sound h hg t
      split at hr
      · rename_i j ver off es
        rw [es] at hs
        cases hb : Nat.beq ver (S.ver j) <;> simp only [hb, cond_true, cond_false] at hr
        · cases hr
        cases hr
        obtain ⟨k, hvj, hav⟩ := hs.2 (Nat.eq_of_beq_eq_true hb)
        intro ρ' hr'
        exact ⟨_, _, runs1 hr', hrun k off hav, hs, fun _ _ e => by cases e⟩
      · rename_i j ver sz off es
        rw [es] at hs
        cases hb : Nat.beq ver (S.ver j) <;> simp only [hb, cond_true, cond_false] at hr
        · cases hr
        cases hr
        have hs2 := hs
        obtain ⟨k, n, c, ik, i, hvj, hdi, hin, hav⟩ := hs.2 (Nat.eq_of_beq_eq_true hb)
        intro ρ' hr'
        exact ⟨_, _, runs1 hr', hrun _ _ hav, hs2, fun _ _ e => by cases e⟩
      · cases hr
    · cases hr

theorem zeroTy1_sound {cap : Nat → Option CSig} {t : Ty} {z : Ty × D} {v : Value} (h : zeroTy1 t = some z) (hz : zeroOk1 t v = true) : Rep cap σ z.1 v z.2 ∧ z.1.one = true ∧ Ty.sub z.1 t = true := by
  unfold zeroOk1 at hz
  split at hz
  · simp at hz; obtain ⟨rfl, rfl⟩ := hz
    simp [zeroTy1] at h; subst h
    exact ⟨.int _ 0 (by rename_i k; cases k <;> decide) (by rename_i k; cases k <;> decide), rfl, by simp [Ty.sub, Ty.beq]⟩
  · simp at hz; subst hz; simp [zeroTy1] at h; subst h; exact ⟨.bool false, rfl, rfl⟩
  · rename_i s
    have : s = ByteArray.empty := by
      have : s.size = 0 := by simpa using hz
      cases s with | mk d => simp [ByteArray.size] at this; subst this; rfl
    subst this
    simp [zeroTy1] at h; subst h; exact ⟨.str _ (by decide), rfl, rfl⟩
  · simp [zeroTy1] at h; subst h; exact ⟨.nils _, rfl, rfl⟩
  · simp [zeroTy1] at h; subst h
    refine ⟨.mapnil _ _, rfl, ?_⟩
    simp only [Ty.sub]; exact Ty.beq_refl _
  · simp [zeroTy1] at h; subst h; exact ⟨.fnnil _ _, rfl, by simp only [Ty.sub]; exact Ty.beq_refl _⟩
  · cases hz

end
end Cx
