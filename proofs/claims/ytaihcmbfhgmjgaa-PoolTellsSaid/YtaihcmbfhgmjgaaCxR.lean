/-
  Stores; slice literals.
-/
import Derived.Test.YtaihcmbfhgmjgaaCxQ
set_option linter.unusedSimpArgs false
set_option linter.unusedVariables false
namespace Cx
open Go Go.RowKit

theorem run_store_op {P : Program} {a : Act} {w : World} {o : Oper} {T : TypeId} {x v : Operand} {inf : TypeInfo} {k off : Nat} {cs : Array Value} {E : TypeId} (ho : o.op = .store T x v) (hi : P.info? T = some inf) (hx : a.eval x = .pointer (some ⟨k, off, none⟩))
    (hs : (a.eval v).cells.size = inf.size) (hone : ∀ u ∈ (a.eval v).cells.toList, u.oneCell' = true) (hb : w.heap[k]? = some (.cells cs E (0, 0))) (hle : off + inf.size ≤ cs.size) :
    (execOp a.eval o).run P w = .ok .skip (w.setRow k (cs.toList.take off ++ (a.eval v).cells.toList ++ cs.toList.drop (off + inf.size)).toArray) := by
  have := run_storeCells_at P k off E (a.eval v).cells.toList 0 cs w hb (by simp [hs]; exact hle) hone
  simp only [Nat.add_zero, Array.length_toList, hs] at this
  simp [execOp, ho, Instr.storeAt, hx, Instr.sureAddr, storeVar, Go.sizeOf, run_typeInfo w hi, hs, this]

theorem setRow_world {w : World} {B k : Nat} {cs : Array Value} (hB : B ≤ k) : Below B w (w.setRow k cs) ∧ ∀ i, i ≠ k → (w.setRow k cs).heap[i]? = w.heap[i]? :=
  ⟨⟨rfl, rfl, rfl, by simp [World.setRow], fun i hi => setRow_other w k i cs (by omega)⟩, fun i hi => setRow_other w k i cs hi⟩

theorem getD_splice {α : Type} (xs ys : List α) (off : Nat) (d : α) (hle : off + ys.length ≤ xs.length) (i : Nat) : (xs.take off ++ ys ++ xs.drop (off + ys.length)).getD i d = if off ≤ i ∧ i < off + ys.length then ys.getD (i - off) d else xs.getD i d := by
  simp only [List.getD_eq_getElem?_getD, List.append_assoc]
  rw [List.getElem?_append, List.length_take, Nat.min_eq_left (by omega)]
  split
  · rename_i h; rw [if_neg (by omega), List.getElem?_take, if_pos h]
  · rename_i h
    rw [List.getElem?_append]
    split
    · rename_i h2; rw [if_pos (by omega)]
    · rename_i h2; rw [if_neg (by omega), List.getElem?_drop]; congr 2; omega

section
variable {C : Ctx} {S : St} {ρ : Env} {σ : Im} {own : Nat → Option Nat} {hv : Nat → Value} {w0 : World} {σ0 : Base} {A : Nat → Prop} {a : Act} {w : World} {gs : List (Nat × Bool)} {Φ : Funs} {dst : Nat}

/-- A store into a box. -/
theorem Inv.storeBox (h : Inv C S ρ σ own hv w0 σ0 A a w) {j k off : Nat} {ag : Bool} {shs news : List Sh} {cs : Array Value} {E : TypeId} {ds dn : List D} {vs : List Value} (eo : S.o j = .box ag shs)
    (h1 : hv j = .pointer (some ⟨k, 0, none⟩)) (h2 : own k = some j) (h3 : w.heap[k]? = some (.cells cs E (0, 0))) (h4 : cs.size = shs.length) (h5 : ρ.o j = .agg ds) (h6 : ds.length = shs.length)
    (h7 : ∀ i s, shs[i]? = some s → (∀ gs s', s ≠ .opt gs s') ∧ CellOK C S ρ σ hv s (cs.getD i undef) (ds.getD i .none))
    (l1 : news.length = vs.length) (l2 : dn.length = vs.length) (hle : off + vs.length ≤ shs.length)
    (hnew : ∀ i s, news[i]? = some s → (∀ gs s', s ≠ .opt gs s') ∧ CellOK C S ρ σ hv s (vs.getD i undef) (dn.getD i .none)) :
    Inv C (S.setO j (.box ag (shs.take off ++ news ++ shs.drop (off + vs.length)))) (ρ.setO j (.agg (splice ds off dn))) σ own hv w0 σ0 A a (w.setRow k (cs.toList.take off ++ vs ++ cs.toList.drop (off + vs.length)).toArray) := by
  have hkB : w0.heap.size ≤ k := (h.owns k j h2).1
  obtain ⟨b1, b2⟩ := setRow_world (w := w) (B := w0.heap.size) (k := k) (cs := (cs.toList.take off ++ vs ++ cs.toList.drop (off + vs.length)).toArray) hkB
  refine h.updB j _ _ b1 (fun i hi hne => b2 i fun e => hne (e ▸ h2)) ⟨k, _, E, splice ds off dn, h1, h2, setRow_heap w k cs _ E _ h3, ?_, by simp [Env.setO, upd_same], ?_, fun i s hi => ?_⟩
  · simp [l1]; omega
  · simp [splice, l2, l1]; omega
  · have hcs : (cs.toList.take off ++ vs ++ cs.toList.drop (off + vs.length)).toArray.getD i undef = if off ≤ i ∧ i < off + vs.length then vs.getD (i - off) undef else cs.getD i undef := by
      have e0 : ∀ l : List Value, l.toArray.getD i undef = l.getD i undef := fun l => by simp [Array.getD_eq_getD_getElem?, List.getD_eq_getElem?_getD]
      rw [e0, getD_splice cs.toList vs off undef (by simp; omega), getD_toList cs i]
    have hds : (splice ds off dn).getD i .none = if off ≤ i ∧ i < off + vs.length then dn.getD (i - off) .none else ds.getD i .none := by
      rw [splice, getD_splice ds dn off .none (by omega), l2]
    rw [hcs, hds]
    have hmono : ∀ s v d, (∀ gs s', s ≠ .opt gs s') → CellOK C S ρ σ hv s v d → CellOK C (S.setO j (.box ag (shs.take off ++ news ++ shs.drop (off + vs.length)))) (ρ.setO j (.agg (splice ds off dn))) σ hv s v d :=
      fun s v d hn hk => CellOK.mono' (.refl σ) (Compat.setO _ _ _ _) hn hk
    have hsh : (shs.take off ++ news ++ shs.drop (off + vs.length))[i]? = if off ≤ i ∧ i < off + vs.length then news[i - off]? else shs[i]? := by
      rw [List.append_assoc, List.getElem?_append, List.length_take, Nat.min_eq_left (by omega)]
      split
      · rename_i h; rw [if_neg (by omega), List.getElem?_take, if_pos h]
      · rename_i h
        rw [List.getElem?_append, l1]
        split
        · rename_i h2; rw [if_pos (by omega)]
        · rename_i h2; rw [if_neg (by omega), List.getElem?_drop]; congr 1; omega
    rw [hsh] at hi
    split
    · rename_i hc
      rw [if_pos hc] at hi
      obtain ⟨g1, g2⟩ := hnew _ s hi
      exact ⟨g1, hmono _ _ _ g1 g2⟩
    · rename_i hc
      rw [if_neg hc] at hi
      obtain ⟨g1, g2⟩ := h7 _ s hi
      exact ⟨g1, hmono _ _ _ g1 g2⟩

theorem rowOrMp_cell (h : Inv C S ρ σ own hv w0 σ0 A a w) {j : Nat} (hr : isRowOrMp (S.o j) = true) : (hv j).cells = #[hv j] ∧ (hv j).oneCell' = true := by
  have hobj := h.objs j
  cases hob : S.o j with
  | row T e =>
    rw [hob] at hobj
    obtain ⟨cells, xs, h1, h2, h3, h4⟩ := hobj
    obtain ⟨b, c, e1, _⟩ := ownsRow_slice h2
    rw [e1]; exact ⟨rfl, rfl⟩
  | mp kt et =>
    rw [hob] at hobj
    obtain ⟨k0, arr, clock, es, h1, _⟩ := hobj
    rw [h1]; exact ⟨rfl, rfl⟩
  | _ => rw [hob] at hr; simp [isRowOrMp] at hr

/-- A store into an element of a row. -/
theorem Inv.storeRow (h : Inv C S ρ σ own hv w0 σ0 A a w) {j k n c i p : Nat} {T : TypeId} {e : Ty} {cells vs : List Value} {xs : List D} {v' : Value} {d' : D} (eo : S.o j = .row T e) (hvj : hv j = .slice (some ⟨k, 0, none⟩) n c)
    (h1 : ρ.o j = .list xs) (h2 : w.ownsRow w0.heap.size T e.size (hv j) xs.length cells) (h3 : ElemsOK C.cap σ e cells xs) (h4 : ∀ k, (hv j).ownBlock = some k → own k = some j) (hi : i < xs.length)
    (hp1 : i * e.size ≤ p) (hp2 : p + vs.length ≤ i * e.size + e.size) (hr : Rep C.cap σ e v' d')
    (hv' : ∀ q u, v'.cells[q]? = some u → (cells.take p ++ vs ++ cells.drop (p + vs.length))[i * e.size + q]? = some u) :
    ∃ cur, w.heap[k]? = some (.cells cur T (0, 0)) ∧ p + vs.length ≤ cur.size ∧ Inv C S (ρ.setO j (.list (xs.set i d'))) σ own hv w0 σ0 A a (w.setRow k (cur.toList.take p ++ vs ++ cur.toList.drop (p + vs.length)).toArray) := by
  have hcl := h2.1
  rcases h2.2 with ⟨e0, e1⟩ | ⟨g, cap, cur, e1, e2, e3, e4, e5, e6, e7⟩
  · omega
  rw [hvj] at e1
  cases e1
  have hisz : i * e.size + e.size ≤ xs.length * e.size := by
    have : (i + 1) * e.size ≤ xs.length * e.size := Nat.mul_le_mul_right _ hi
    rw [Nat.add_mul] at this; omega
  have hcapsz : xs.length * e.size ≤ c * e.size := Nat.mul_le_mul_right _ e4
  have hple : p + vs.length ≤ cur.size := by omega
  refine ⟨cur, e3, hple, ?_⟩
  have hown : own k = some j := h4 k (by rw [hvj]; rfl)
  obtain ⟨b1, b2⟩ := setRow_world (w := w) (B := w0.heap.size) (k := k) (cs := (cur.toList.take p ++ vs ++ cur.toList.drop (p + vs.length)).toArray) e2
  have htake : (cur.toList.take p ++ vs ++ cur.toList.drop (p + vs.length)).take (xs.length * e.size) = cells.take p ++ vs ++ cells.drop (p + vs.length) := by
    rw [← e7]
    apply List.ext_getElem?
    intro q
    simp only [List.append_assoc, List.getElem?_take, List.getElem?_append, List.length_take, List.getElem?_drop, Array.length_toList]
    by_cases hq : q < xs.length * e.size
    · rw [if_pos hq]
      by_cases hq1 : q < p
      · simp [hq1, Nat.lt_min, show q < cur.size by omega, hq]
      · by_cases hq2 : q - p < vs.length
        · rw [if_neg (by omega), Nat.min_eq_left (by omega), if_pos hq2, if_neg (by omega), Nat.min_eq_left (by omega), if_pos hq2]
        · rw [if_neg (by omega), Nat.min_eq_left (by omega), if_neg hq2, if_neg (by omega), Nat.min_eq_left (by omega), if_neg hq2, if_pos (by omega)]
    · rw [if_neg hq]
      have : ¬ q < p := by omega
      rw [if_neg (by omega), Nat.min_eq_left (by omega), if_neg (by omega), if_neg (by omega)]
  have := h.updB j (.row T e) (.list (xs.set i d')) b1 (fun q hq hne => b2 q fun e => hne (e ▸ hown))
    ⟨cells.take p ++ vs ++ cells.drop (p + vs.length), xs.set i d', by simp [Env.setO, upd_same], ⟨by simp; omega, .inr ⟨k, c, _, by rw [hvj]; simp, e2, setRow_heap w k cur _ T _ e3, by simpa using e4, e5, by simp; omega, by simpa using htake⟩⟩, ?_, h4⟩
  · rw [St.setO_self eo] at this
    exact this
  · obtain ⟨us, u1, u2⟩ := h3
    refine ⟨fun q => if q = i then v' else us q, fun q x hx => ?_, fun q m u hq hm => ?_⟩
    · rw [List.getElem?_set] at hx
      by_cases hqi : i = q
      · subst hqi
        simp only [if_true] at hx ⊢
        rw [if_pos hi] at hx
        cases hx; exact hr
      · rw [if_neg hqi] at hx
        simp only [show ¬ q = i from fun e => hqi e.symm, if_false]
        exact u1 q x hx
    · by_cases hqi : q = i
      · subst hqi
        simp only [if_true] at hm
        exact hv' m u hm
      · simp only [hqi, if_false] at hm
        simp only [List.length_set] at hq
        have h9 := u2 q m u hq hm
        have hmlt : m < e.size := by rw [← (u1 q _ (List.getElem?_eq_getElem hq)).size]; exact (Array.getElem?_eq_some_iff.1 hm).1
        have hout : q * e.size + m < p ∨ p + vs.length ≤ q * e.size + m := by
          rcases Nat.lt_or_ge q i with hlt | hge
          · left
            have : (q + 1) * e.size ≤ i * e.size := Nat.mul_le_mul_right _ hlt
            rw [Nat.add_mul] at this; omega
          · right
            have : (i + 1) * e.size ≤ q * e.size := Nat.mul_le_mul_right _ (by omega)
            rw [Nat.add_mul] at this; omega
        rw [List.append_assoc, List.getElem?_append, List.length_take, Nat.min_eq_left (by omega)]
        rcases hout with ho | ho
        · rw [if_pos ho, List.getElem?_take, if_pos ho]; exact h9
        · rw [if_neg (by omega), List.getElem?_append_right (by omega), List.getElem?_drop]
          rw [show p + vs.length + (q * e.size + m - p - vs.length) = q * e.size + m by omega]; exact h9

theorem eStore_sound (h : Inv C S ρ σ own hv w0 σ0 A a w) (hC : CtxOK C σ0) {T : TypeId} {x v : Operand} {r : St × List PI} (hr : eStore C S T x v = some r) {o : Oper} (hd : o.dst = none) (ho : o.op = .store T x v) : EOK C w0 σ0 Φ S ρ A a w o r := by
  unfold eStore at hr
  split at hr
  case h_2 => cases hr
  rename_i inf hi
  obtain ⟨hshx, _⟩ := shX_sound h (gs := []) rfl x
  split at hr
  case h_3 => cases hr
  · rename_i j ver off es
    rw [es] at hshx
    cases hb : Nat.beq ver (S.ver j) <;> simp only [hb, cond_true, cond_false] at hr
    · cases hr
    obtain ⟨k, hvj, hav⟩ := hshx.2 (Nat.eq_of_beq_eq_true hb)
    have hobj := h.objs j
    split at hr
    case h_2 => cases hr
    rename_i ag shs eo
    rw [eo] at hobj
    obtain ⟨k', cs, E, ds, h1, h2, h3, h4, h5, h6, h7⟩ := hobj
    have h1' := h1
    rw [hvj] at h1
    cases h1
    split at hr
    · rename_i t e hu
      have hv' := use_sound h hC rfl hu
      cases hc : (Nat.beq inf.size t.size && (t.rowT || t.one) && Nat.ble (off + t.size) shs.length) <;> simp only [hc, cond_true, cond_false] at hr
      · cases hr
      cases hr
      simp only [Bool.and_eq_true, Bool.or_eq_true] at hc
      obtain ⟨⟨hsz, hro⟩, hle⟩ := hc
      have hsz := Nat.eq_of_beq_eq_true hsz
      have hle := Nat.le_of_ble_eq_true hle
      obtain ⟨f1, f2, f3⟩ := hv'.flat hro
      have hvs := hv'.size
      refine EOK.skip hd fun ρ' hrun => ?_
      rw [runsO hrun]
      refine ⟨_, run_store_op ho hi hav (by rw [hvs, hsz]) (fun u hu => by
        obtain ⟨m, hm, rfl⟩ := List.getElem_of_mem hu
        exact hv'.cellsOne hro (m := m) (by simp at hm ⊢)) h3 (by omega), ?_⟩
      have hst := h.storeBox (off := off) (news := t.flat.map .dat) (vs := (a.eval v).cells.toList) (dn := (e.ev ρ).cells) eo h1' h2 h3 h4 h5 h6 h7 (by simp [f1, hvs]) (by simp [f2, hvs]) (by simp [hvs]; omega) (fun i s hi => by
        simp only [List.getElem?_map, Option.map_eq_some_iff] at hi
        obtain ⟨ti, hti, rfl⟩ := hi
        refine ⟨fun _ _ e => (by cases e), ?_⟩
        rw [getD_toList]
        exact (f3 i ti hti).2)
      have e1 : (a.eval v).cells.toList.length = t.size := by simp [hvs]
      rw [e1] at hst
      rw [hsz]
      refine ⟨σ, own, hv, ?_⟩
      simpa [PE.ev, h5, D.cells] using hst
    · split at hr
      case h_2 => cases hr
      rename_i j' ver' es'
      obtain ⟨hshv, _⟩ := shX_sound h (gs := []) rfl v
      rw [es'] at hshv
      cases hc : (Nat.beq ver' (S.ver j') && isRowOrMp (S.o j') && Nat.beq inf.size 1 && Nat.blt off shs.length) <;> simp only [hc, cond_true, cond_false] at hr
      · cases hr
      cases hr
      simp only [Bool.and_eq_true] at hc
      obtain ⟨⟨⟨hver', hrm⟩, hsz⟩, hlt⟩ := hc
      have hsz := Nat.eq_of_beq_eq_true hsz
      have hlt : off < shs.length := by simpa [Nat.blt_eq] using hlt
      have hval := hshv.2 (Nat.eq_of_beq_eq_true hver')
      obtain ⟨c1, c2⟩ := rowOrMp_cell h hrm
      have hcells : (a.eval v).cells = #[a.eval v] := by rw [hval]; exact c1
      refine EOK.skip hd fun ρ' hrun => ?_
      rw [runsO hrun]
      refine ⟨_, run_store_op ho hi hav (by rw [hcells, hsz]; rfl) (fun u hu => by rw [hcells] at hu; simp at hu; subst hu; rw [hval]; exact c2) h3 (by omega), ?_⟩
      have hst := h.storeBox (off := off) (news := [.obj j' ver']) (vs := [a.eval v]) (dn := [.none]) eo h1' h2 h3 h4 h5 h6 h7 rfl rfl (by simp; omega) (fun i s hi => by
        match i, hi with
        | 0, hi => simp at hi; subst hi; exact ⟨fun _ _ e => (by cases e), hshv.1, fun _ => by simpa using hval⟩
        | i + 1, hi => simp at hi)
      rw [hcells, hsz]
      have e2 : shs.take off ++ [Sh.obj j' ver'] ++ shs.drop (off + [a.eval v].length) = shs.set off (.obj j' ver') := by
        rw [List.set_eq_take_append_cons_drop, if_pos hlt]; simp
      rw [e2] at hst
      refine ⟨σ, own, hv, ?_⟩
      simpa [PE.ev, h5, D.cells] using hst
  · rename_i j ver size off es
    rw [es] at hshx
    cases hb : Nat.beq ver (S.ver j) <;> simp only [hb, cond_true, cond_false] at hr
    · cases hr
    obtain ⟨k, n, c, ik, i, hvj, hdi, hin, hav⟩ := hshx.2 (Nat.eq_of_beq_eq_true hb)
    have hobj := h.objs j
    split at hr
    · rename_i T' ts t e eo hu
      rw [eo] at hobj
      have hv' := use_sound h hC rfl hu
      cases hc : (Nat.beq inf.size t.size && (t.rowT || t.one) && Nat.beq size ts.length && Nat.ble (off + t.size) ts.length && Ty.subs t.flat ((ts.drop off).take t.size)) <;> simp only [hc, cond_true, cond_false] at hr
      · cases hr
      cases hr
      simp only [Bool.and_eq_true, Bool.or_eq_true] at hc
      obtain ⟨⟨⟨⟨hsz, hro⟩, hss⟩, hle⟩, hsub⟩ := hc
      have hsz := Nat.eq_of_beq_eq_true hsz
      have hss := Nat.eq_of_beq_eq_true hss
      have hle := Nat.le_of_ble_eq_true hle
      obtain ⟨f1, f2, f3⟩ := hv'.flat hro
      have hvs := hv'.size
      have f1 : t.flat.length = t.size := f1
      have f2 : (e.ev ρ).cells.length = t.size := f2
      have hvs : (a.eval v).cells.size = t.size := hvs
      obtain ⟨cells, xs, k1, k2, k3, k4⟩ := hobj
      obtain ⟨b, c', e1, hm1, hm2⟩ := ownsRow_slice k2
      rw [hvj] at e1
      cases e1
      obtain ⟨us, u1, u2⟩ := k3
      obtain ⟨y, hy⟩ : ∃ y, xs[i]? = some y := ⟨_, List.getElem?_eq_getElem hin⟩
      obtain ⟨os, ds, hvi, hd0, l1, l2, hall, hone⟩ := (u1 i y hy).agg_inv
      have hvlen : (a.eval v).cells.toList.length = t.size := by simp [hvs]
      -- the element with the part replaced
      have hnew : Rep C.cap σ (.agg ts) (.agg (os.take off ++ (a.eval v).cells.toList ++ os.drop (off + (a.eval v).cells.toList.length)).toArray) (.agg (splice ds off (e.ev ρ).cells)) := by
        refine .agg _ _ _ (by simp [hvs]; omega) (by simp [splice, f2]; omega) (fun m tm hm => ?_) hone
        rw [getD_splice os _ off undef (by rw [hvlen]; omega), splice, getD_splice ds _ off .none (by rw [f2]; omega), hvlen, f2]
        split
        · rename_i hc
          have hsub' := Ty.subs_get _ _ hsub (m - off) tm (by
            rw [List.getElem?_take, if_pos (by omega), List.getElem?_drop, show off + (m - off) = m by omega]; exact hm)
          obtain ⟨tf, htf, hst⟩ := hsub'
          rw [getD_toList]
          exact ((f3 _ tf htf).2).sub hst
        · exact hall m tm hm
      have hcl := k2.1
      have hisz : i * (Ty.agg ts).size + (Ty.agg ts).size ≤ xs.length * (Ty.agg ts).size := by
        have : (i + 1) * (Ty.agg ts).size ≤ xs.length * (Ty.agg ts).size := Nat.mul_le_mul_right _ hin
        rw [Nat.add_mul] at this; omega
      have htsz : (Ty.agg ts).size = ts.length := rfl
      obtain ⟨cur, q1, q2, q3⟩ := h.storeRow (i := i) (p := i * (Ty.agg ts).size + off) (vs := (a.eval v).cells.toList) eo hvj k1 k2 ⟨us, u1, u2⟩ k4 hin (by omega) (by rw [hvlen]; omega) hnew (fun q u hq => by
        have hq' : (os.take off ++ (a.eval v).cells.toList ++ os.drop (off + (a.eval v).cells.toList.length))[q]? = some u := by simpa [Value.cells] using hq
        have hqlt : q < ts.length := by have := (List.getElem?_eq_some_iff.1 hq').1; simp [hvs] at this; omega
        rw [List.append_assoc, List.getElem?_append, List.length_take, Nat.min_eq_left (by omega)] at hq'
        rw [List.append_assoc, List.getElem?_append, List.length_take, Nat.min_eq_left (by omega)]
        by_cases hqo : q < off
        · rw [if_pos hqo, List.getElem?_take, if_pos hqo] at hq'
          rw [if_pos (by omega), List.getElem?_take, if_pos (by omega)]
          exact u2 i q u hin (by rw [hvi]; simpa [Value.cells] using hq')
        · rw [if_neg hqo, List.getElem?_append] at hq'
          rw [if_neg (by omega), List.getElem?_append]
          rw [show i * (Ty.agg ts).size + q - (i * (Ty.agg ts).size + off) = q - off by omega]
          by_cases hqv : q - off < (a.eval v).cells.toList.length
          · rw [if_pos hqv] at hq' ⊢; exact hq'
          · rw [if_neg hqv, List.getElem?_drop] at hq'
            rw [if_neg hqv, List.getElem?_drop]
            rw [show off + (a.eval v).cells.toList.length + (q - off - (a.eval v).cells.toList.length) = q by omega] at hq'
            rw [show i * (Ty.agg ts).size + off + (a.eval v).cells.toList.length + (q - off - (a.eval v).cells.toList.length) = i * (Ty.agg ts).size + q by omega]
            exact u2 i q u hin (by rw [hvi]; simpa [Value.cells] using hq'))
      refine EOK.skip hd fun ρ' hrun => ?_
      rw [runsO hrun]
      refine ⟨_, run_store_op ho hi (cs := cur) (by rw [hav, hss]) (by rw [hvs, hsz]) (fun u hu => by
        obtain ⟨m, hm, rfl⟩ := List.getElem_of_mem hu
        exact hv'.cellsOne hro (m := m) (by simp at hm ⊢)) q1 (by rw [hvlen] at q2; rw [hsz, ← htsz]; exact q2), σ, own, hv, ?_⟩
      rw [hvlen] at q3
      simp only [PE.ev, k1, D.l_list, hdi, D.i_int, Int.toNat_natCast, getD_of_some hy, hd0, spliceD]
      rw [hsz, ← htsz]; exact q3
    · rename_i T' e0 t e hne eo hu
      rw [eo] at hobj
      have hv' := use_sound h hC rfl hu
      cases hc : (Nat.beq inf.size 1 && Nat.beq size 1 && Nat.beq off 0 && e0.one && Ty.sub t e0) <;> simp only [hc, cond_true, cond_false] at hr
      · cases hr
      cases hr
      simp only [Bool.and_eq_true] at hc
      obtain ⟨⟨⟨⟨hsz, hss⟩, hoff⟩, hone⟩, hsub⟩ := hc
      have hsz := Nat.eq_of_beq_eq_true hsz
      have hss := Nat.eq_of_beq_eq_true hss
      have hoff := Nat.eq_of_beq_eq_true hoff
      subst hoff
      subst hss
      have hve := hv'.sub hsub
      obtain ⟨c1, c2⟩ := hve.oneCell hone
      have hez : e0.size = 1 := by cases e0 <;> simp_all [Ty.size, Ty.one]
      obtain ⟨cells, xs, k1, k2, k3, k4⟩ := hobj
      obtain ⟨b, c', e1, hm1, hm2⟩ := ownsRow_slice k2
      rw [hvj] at e1
      cases e1
      obtain ⟨y, hy⟩ : ∃ y, xs[i]? = some y := ⟨_, List.getElem?_eq_getElem hin⟩
      have hcl := k2.1
      obtain ⟨cur, q1, q2, q3⟩ := h.storeRow (i := i) (p := i * e0.size) (vs := [a.eval v]) eo hvj k1 k2 k3 k4 hin (Nat.le_refl _) (by rw [hez]; simp) hve (fun q u hq => by
        rw [c1] at hq
        have hq0 : q = 0 := by have := (Array.getElem?_eq_some_iff.1 hq).1; simpa using this
        subst hq0
        simp at hq
        subst hq
        have : i * e0.size ≤ cells.length := by rw [hcl]; exact Nat.mul_le_mul_right _ (by omega)
        rw [List.append_assoc, List.getElem?_append_right (by simp; omega)]
        simp [Nat.min_eq_left this])
      refine EOK.skip hd fun ρ' hrun => ?_
      rw [runsO hrun]
      refine ⟨_, run_store_op ho hi (cs := cur) (by rw [hav]) (by rw [c1, hsz]; rfl) (fun u hu => by rw [c1] at hu; simp at hu; subst hu; exact c2) q1 (by rw [hez] at q2; rw [hsz]; simpa using q2), σ, own, hv, ?_⟩
      rw [c1, hsz]
      have hyv : spliceD y 0 (e.ev ρ) = e.ev ρ := by
        obtain ⟨us, u1, u2⟩ := k3
        have := (u1 i y hy).dcells hone
        cases y with
        | agg ds => have h8 := u1 i _ hy; generalize us i = vv at h8; cases h8; simp [Ty.one] at hone
        | _ => rfl
      simp only [PE.ev, k1, D.l_list, hdi, D.i_int, Int.toNat_natCast, getD_of_some hy, hyv]
      rw [hez] at q3
      simpa using q3
    · cases hr
end
end Cx
