/-
  Append, stores, slice literals.
-/
import Derived.Test.YtaihcmbfhgmjgaaCxP
set_option linter.unusedSimpArgs false
set_option linter.unusedVariables false
namespace Cx
open Go Go.RowKit

theorem zeroOk_ro {e : Ty} {z : Value} (h : zeroOk e z = true) : e.rowT = true ∨ e.one = true := by
  cases e <;> first | exact .inl rfl | exact .inr rfl | (cases z <;> simp [zeroOk, zeroOk1] at h)

theorem Rep.cellsOne {cap : Nat → Option CSig} {σ : Im} {t : Ty} {v : Value} {d : D} (h : Rep cap σ t v d) (ht : t.rowT = true ∨ t.one = true) {m : Nat} {u : Value} (hu : v.cells[m]? = some u) : u.oneCell' = true := by
  obtain ⟨f1, f2, f3⟩ := h.flat ht
  have hlt : m < v.cells.size := (Array.getElem?_eq_some_iff.1 hu).1
  rw [h.size] at hlt
  obtain ⟨g1, g2⟩ := f3 m _ (List.getElem?_eq_getElem (by omega : m < t.flat.length))
  have := (g2.oneCell g1).2
  rw [Array.getD_eq_getD_getElem?, hu] at this
  exact this

theorem elems_at {cap : Nat → Option CSig} {σ : Im} {e : Ty} {cells : List Value} {xs : List D} (h : ElemsOK cap σ e cells xs) (hl : cells.length = xs.length * e.size) (hro : e.rowT = true ∨ e.one = true) : ∀ u ∈ cells, u.oneCell' = true := by
  obtain ⟨vs, h1, h2⟩ := h
  intro u hu
  obtain ⟨p, hp, rfl⟩ := List.getElem_of_mem hu
  rw [hl] at hp
  have hs : 0 < e.size := Nat.pos_of_ne_zero fun e0 => by rw [e0] at hp; simp at hp
  have hi : p / e.size < xs.length := (Nat.div_lt_iff_lt_mul hs).2 hp
  have hq : p % e.size < e.size := Nat.mod_lt _ hs
  have hrep := h1 _ _ (List.getElem?_eq_getElem hi)
  have hsz := hrep.size
  have hcell : (vs (p / e.size)).cells[p % e.size]? = some (vs (p / e.size)).cells[p % e.size] := Array.getElem?_eq_getElem (by omega)
  have := h2 _ _ _ hi hcell
  rw [Nat.mul_comm, Nat.div_add_mod] at this
  have h3 : cells[p] = (vs (p / e.size)).cells[p % e.size] := by
    have h4 := List.getElem?_eq_getElem (show p < cells.length by omega)
    rw [h4] at this; exact Option.some.inj this
  rw [h3]
  exact hrep.cellsOne hro hcell

theorem elems_append {cap : Nat → Option CSig} {σ : Im} {e : Ty} {c1 c2 : List Value} {xs ys : List D} (h : ElemsOK cap σ e c1 xs) (k : ElemsOK cap σ e c2 ys) (hl : c1.length = xs.length * e.size) : ElemsOK cap σ e (c1 ++ c2) (xs ++ ys) := by
  obtain ⟨vs, h1, h2⟩ := h
  obtain ⟨us, k1, k2⟩ := k
  refine ⟨fun i => if i < xs.length then vs i else us (i - xs.length), fun i x hx => ?_, fun i j u hi hj => ?_⟩
  · rw [List.getElem?_append] at hx
    split at hx
    · rename_i hlt; simp only [hlt, if_true]; exact h1 i x hx
    · rename_i hlt; simp only [hlt, if_false]; exact k1 _ x hx
  · by_cases hlt : i < xs.length
    · simp only [hlt, if_true] at hj
      have := h2 i j u hlt hj
      rw [List.getElem?_append_left (List.getElem?_eq_some_iff.1 this).1]; exact this
    · simp only [hlt, if_false] at hj
      have hi' : i - xs.length < ys.length := by simp at hi; omega
      have := k2 _ j u hi' hj
      have e1 : i * e.size = c1.length + (i - xs.length) * e.size := by rw [hl, ← Nat.add_mul]; congr 1; omega
      rw [List.getElem?_append_right (by omega)]
      rw [show i * e.size + j - c1.length = (i - xs.length) * e.size + j by omega]; exact this

section
variable {C : Ctx} {S : St} {ρ : Env} {σ : Im} {own : Nat → Option Nat} {hv : Nat → Value} {w0 : World} {σ0 : Base} {A : Nat → Prop} {a : Act} {w : World} {gs : List (Nat × Bool)} {Φ : Funs} {dst : Nat}

/-- What is appended. -/
theorem view_source (h : Inv C S ρ σ own hv w0 σ0 A a w) {B : Nat} {e f : Ty} {v : Value} {d : D} (hs : 0 < e.size) (hro : e.rowT = true ∨ e.one = true) (hf : f.unf = e) (hview : ViewOK C σ w B (.slice f) v d) :
    ∃ ys, d = .list ys ∧ ys.length ≤ maxLen ∧ ((v = .slice none 0 0 ∧ ys = []) ∨ ∃ (ad : Addr) (c : Nat) (news : List Value), v = .slice (some ad) ys.length c ∧ news.length = ys.length * e.size ∧
      (∀ j u, news[j]? = some u → w.cell? (ad.add j) = some u) ∧ ElemsOK C.cap σ e news ys) := by
  rcases hview with hr | ⟨T, e', cells, xs, ht, hd, hown, hel⟩ | ⟨k, arr, clock, es, kt, et, ht, _⟩
  · obtain ⟨xs, hd, hcase⟩ := hr.slice_inv
    rw [← f.unf_size, hf] at hcase
    rcases hcase with ⟨⟨p0, hv1⟩, rfl⟩ | ⟨k, o, c, hv1, h1, h2, vs, h3, h4⟩
    · cases p0 with
      | none => exact ⟨[], hd, by simp, .inl ⟨hv1, rfl⟩⟩
      | some a0 => exact ⟨[], hd, by simp, .inr ⟨a0, 0, [], hv1, by simp, fun j u hu => by simp at hu, fun _ => undef, fun i x hx => by simp at hx, fun i j u hi => by simp at hi⟩⟩
    · refine ⟨xs, hd, by omega, .inr ⟨⟨k, o, none⟩, c, (List.range (xs.length * e.size)).map fun p => (vs (p / e.size)).cells.getD (p % e.size) undef, hv1, by simp, fun j u hu => ?_, vs, h3, fun i j u hi hj => ?_⟩⟩
      · simp only [List.getElem?_map, Option.map_eq_some_iff] at hu
        obtain ⟨p, hp, rfl⟩ := hu
        have hjl : j < xs.length * e.size := by have := (List.getElem?_eq_some_iff.1 hp).1; simpa using this
        rw [List.getElem?_range hjl] at hp
        cases hp
        have hi : j / e.size < xs.length := (Nat.div_lt_iff_lt_mul hs).2 hjl
        have hq : j % e.size < e.size := Nat.mod_lt _ hs
        have hrep := h3 _ _ (List.getElem?_eq_getElem hi)
        have hsz := hrep.size
        have hcell : (vs (j / e.size)).cells[j % e.size]? = some ((vs (j / e.size)).cells.getD (j % e.size) undef) := by
          rw [Array.getD_eq_getD_getElem?, Array.getElem?_eq_getElem (by omega)]; rfl
        have := h.cell (h4 _ _ _ hi hcell)
        rw [addr_add]
        rwa [show o + j / e.size * e.size + j % e.size = o + j by rw [Nat.add_assoc, Nat.mul_comm, Nat.div_add_mod]] at this
      · have hrep := h3 _ _ (List.getElem?_eq_getElem hi)
        have hj' : j < e.size := by rw [← hrep.size]; exact (Array.getElem?_eq_some_iff.1 hj).1
        have hlt : i * e.size + j < xs.length * e.size := by
          have : (i + 1) * e.size ≤ xs.length * e.size := Nat.mul_le_mul_right _ hi
          rw [Nat.add_mul] at this; omega
        have e1 : (i * e.size + j) / e.size = i := by rw [Nat.mul_comm, Nat.mul_add_div hs, Nat.div_eq_of_lt hj']; omega
        have e2 : (i * e.size + j) % e.size = j := by rw [Nat.add_comm, Nat.add_mul_mod_self_right, Nat.mod_eq_of_lt hj']
        simp only [List.getElem?_map, List.getElem?_range hlt, Option.map_some, e1, e2]
        rw [Array.getD_eq_getD_getElem?, hj]; rfl
  · cases ht
    rw [Ty.unf_rol] at hf
    obtain ⟨b, c, hv1, hm, _⟩ := ownsRow_slice hown
    have hel : ElemsOK C.cap σ e cells xs := by
      obtain ⟨us, u1, u2⟩ := hel
      refine ⟨us, fun i x hx => hf ▸ (u1 i x hx).unf, fun i j u hi hu => ?_⟩
      rw [← hf, Ty.unf_size]; exact u2 i j u hi hu
    have hown : w.ownsRow B T e.size v xs.length cells := by rw [← hf, Ty.unf_size]; exact hown
    rcases hown.2 with ⟨e1, e2⟩ | ⟨g, cap, cur, e1, e2⟩
    · have : xs = [] := List.eq_nil_of_length_eq_zero e2
      subst this
      exact ⟨[], hd, by simp, .inl ⟨e1, rfl⟩⟩
    · exact ⟨xs, hd, hm, .inr ⟨⟨g, 0, none⟩, cap, cells, e1, hown.1, hown.cells (by rw [e1]; rfl), hel⟩⟩
  · cases ht

/-- append at a row of one's own: the row's block or a new one. -/
theorem run_append {P : Program} {B : Nat} {T E ty : TypeId} {inf : TypeInfo} {z : Value} {size : Nat} {v x : Value} {n m : Nat} {xs news : List Value} (hT : P.underlying T = some (.slice E)) (hi : P.info? E = some inf) (hz : inf.zero = some z)
    (hs : inf.size = size) (hzs : z.cells.size = size) (hsz : 0 < size) (hby : inf.bytes ≤ limB) (hown : w.ownsRow B E size v n xs) (hB : B ≤ w.heap.size) (hnm : n + m ≤ 4294967296)
    (hx : (x = .slice none 0 0 ∧ m = 0 ∧ news = []) ∨ ∃ (ad : Addr) (c : Nat), x = .slice (some ad) m c ∧ news.length = m * size ∧ (∀ j u, news[j]? = some u → w.cell? (ad.add j) = some u) ∧ ∀ u ∈ news, u.oneCell' = true) :
    ∃ v' w', (Builtin.append_ #[T, T] ty #[v, x]).run P w = .ok v' w' ∧ w'.ownsRow B E size v' (n + m) (xs ++ news) ∧ w.grownBy w' v.ownBlock ∧ ∀ k, v'.ownBlock = some k → v.ownBlock = some k ∨ (w.heap.size ≤ k ∧ k < w'.heap.size) := by
  rcases hx with ⟨rfl, rfl, rfl⟩ | ⟨ad, c, rfl, hl, hnews, h1⟩
  · refine ⟨v, w, run_append_owned_none w B T ty E inf size hT hi v n xs hown, by simpa using hown, ⟨rfl, rfl, rfl, Nat.le_refl _, fun _ _ _ => rfl⟩, fun k hk => .inl hk⟩
  · have hbytes : (n + m) * inf.bytes ≤ 140737488355328 := by
      have : (n + m) * inf.bytes ≤ 4294967296 * limB := Nat.mul_le_mul hnm hby
      unfold limB at this; omega
    obtain ⟨v', w', r1, r2, r3, r4⟩ := run_append_own (P := P) w B T ty E inf z size inf.bytes hT hi hz hs rfl hzs hsz v n xs hown ad m c news hl hnews h1 (by unfold maxLen; omega) hbytes hB
    refine ⟨v', w', r1, r2, r3, fun k hk => ?_⟩
    have hlt := (r2.lt k hk).2
    subst hs
    rcases hown.2 with ⟨rfl, rfl⟩ | ⟨g, cap, cur, rfl, hbg, hg, hnc, hcm, hcs, htake⟩
    · by_cases hm : m = 0
      · subst hm
        have := r4.2 ⟨rfl, rfl⟩
        subst this
        simp [Value.ownBlock] at hk
      · have hr := run_append_nil (P := P) w T ty E inf z hT hi hz ad m c news hl hnews (by omega) (by omega) (by have hb := hbytes; simp only [Nat.zero_add] at hb; omega)
        rw [hr] at r1
        cases r1
        simp [Value.ownBlock] at hk
        subst hk
        exact .inr ⟨Nat.le_refl _, hlt⟩
    · by_cases hroom : n + m ≤ cap
      · have hfit : n * inf.size + news.length ≤ cur.size := by rw [hl, hcs, ← Nat.add_mul]; exact Nat.mul_le_mul_right _ hroom
        have hr := run_append_room (P := P) w T ty E inf hT hi g n cap cur hg ad m c news hl hnews h1 hroom hfit
        rw [hr] at r1
        cases r1
        exact .inl hk
      · have hr := run_append_grow (P := P) w T ty E inf z hT hi hz ⟨g, 0, none⟩ n cap xs hown.1 (hown.cells (g := g) rfl) ad m c news hl hnews (by omega) (by omega) (growslice_fits (by omega) hbytes)
        rw [hr] at r1
        cases r1
        simp [Value.ownBlock] at hk
        subst hk
        exact .inr ⟨Nat.le_refl _, hlt⟩

theorem eAppend_sound (h : Inv C S ρ σ own hv w0 σ0 A a w) (hC : CtxOK C σ0) (ht : ¬ A dst) (hlt : dst < a.tmps.size) {T : TypeId} {s x : Operand} {r : St × List PI} (hr : eAppend C S dst T s x = some r) {o : Oper} (hd : o.dst = some dst)
    (ho : o.op = .call { callee := .builtin .append, args := #[s, x], argTypes := #[T, T] }) : EOK C w0 σ0 Φ S ρ A a w o r := by
  unfold eAppend at hr
  split at hr
  case h_2 => cases hr
  rename_i E hT
  simp only [Option.bind_eq_some_iff] at hr
  obtain ⟨e, he, hr⟩ := hr
  split at hr
  case h_2 => cases hr
  rename_i tx ex hview
  have hv' := view_sound h hC (gs := []) rfl hview
  obtain ⟨cs, hrun⟩ := run_call1 (C := C) (w := w) (a := a) ho
  cases hc : (elemFact C.P E e && srcTy tx e) <;> simp only [hc, cond_true, cond_false] at hr
  · cases hr
  simp only [Bool.and_eq_true] at hc
  obtain ⟨inf, z, hi, hs, hby, h1, hz, hzo⟩ := elemFact_info hc.1
  have hzs := zeroOk_size hzo
  have hro := zeroOk_ro hzo
  have hvw : ∃ f : Ty, f.unf = e ∧ ViewOK C σ w w0.heap.size (.slice f) (a.eval x) (ex.ev ρ) := by
    have hst := hc.2
    unfold srcTy at hst
    split at hst
    · exact ⟨_, Ty.beq_eq _ _ hst, hv'⟩
    · refine ⟨e, Ty.unf_ro hro, ?_⟩
      rcases hv' with hr | ⟨_, _, _, _, ht, _⟩ | ⟨_, _, _, _, _, _, ht, _⟩
      · exact .inl (hr.sub (by simp [Ty.sub]))
      · cases ht
      · cases ht
    · cases hst
  obtain ⟨fv, hvf, hvw⟩ := hvw
  obtain ⟨ys, hdy, hyl, hsrc⟩ := view_source h h1 hro hvf hvw
  have hx : ∃ news, ElemsOK C.cap σ e news ys ∧ news.length = ys.length * e.size ∧ ((a.eval x = .slice none 0 0 ∧ ys.length = 0 ∧ news = []) ∨ ∃ (ad : Addr) (c : Nat), a.eval x = .slice (some ad) ys.length c ∧ news.length = ys.length * e.size ∧ (∀ j u, news[j]? = some u → w.cell? (ad.add j) = some u) ∧ ∀ u ∈ news, u.oneCell' = true) := by
    rcases hsrc with ⟨e1, rfl⟩ | ⟨ad, c, news, e1, e2, e3, e4⟩
    · exact ⟨[], ⟨fun _ => undef, by simp, by simp⟩, by simp, .inl ⟨e1, rfl, rfl⟩⟩
    · exact ⟨news, e4, e2, .inr ⟨ad, c, e1, e2, e3, elems_at e4 e2 hro⟩⟩
  obtain ⟨news, hne, hnl, hx⟩ := hx
  -- the row before
  have main : ∀ (j : Nat) (v : Value) (xs : List D) (cells : List Value), a.eval s = v → w.ownsRow w0.heap.size E e.size v xs.length cells → ElemsOK C.cap σ e cells xs → xs.length + ys.length ≤ 4294967296 →
      (∀ k, v.ownBlock = some k → own k = some j) →
      ∃ v' w', (execOp a.eval o).run C.P w = .ok (.value v') w' ∧ Good C w0 σ0 ((S.newO j (.row E e)).setR dst (.obj j (S.ver j + 1))) ((ρ.setO j (.list (xs ++ ys))).setR dst .none) (fun u => A u ∨ u = dst) (a.put (some dst) v') w' := by
    intro j v xs cells hsv hown hel hlen hob
    obtain ⟨v', w', r1, r2, r3, r4⟩ := run_append (P := C.P) (ty := o.type) hT hi hz hs hzs h1 hby hown h.below.size hlen hx
    refine ⟨v', w', by rw [hrun]; simp [builtin, hsv, r1], ?_⟩
    have hupd := h.updO j (.row E e) (.list (xs ++ ys)) v' (fun k => decide (v'.ownBlock = some k)) (w' := w') (grownBelow r3 h.below.size (fun k hk => (h.owns k j (hob k hk)).1)) (fun k hk hne => r3.block k hk (fun e => hne (hob k e.symm))) (fun k hk => by
        have hk' : v'.ownBlock = some k := by simpa using hk
        rcases r4 k hk' with e | e
        · exact ⟨.inl (hob k e), (r2.lt k hk').2⟩
        · exact ⟨.inr e.1, e.2⟩)
      ⟨cells ++ news, xs ++ ys, by simp [Env.setO, upd_same], by rw [upd_same, List.length_append]; exact r2, elems_append hel hne hown.1, fun k hk => by rw [upd_same] at hk; simp [ownNew, hk]⟩
    have h2 := hupd.setObj ht (j := j) (v := v') (upd_same _ _ _) hlt
    have e : (S.newO j (.row E e)).ver j = S.ver j + 1 := upd_same _ _ _
    rw [e] at h2
    exact ⟨_, _, _, h2⟩
  split at hr
  · rename_i e0 pe0 hu
    cases hr
    refine EOK.value hd fun ρ' hrun' => ?_
    have hsx := use_sound h hC rfl hu
    have hsv : a.eval s = .slice none 0 0 := by
      generalize a.eval s = v at hsx
      generalize pe0.ev ρ = d at hsx
      cases hsx; rfl
    simp only [PI.runs, PI.run, Option.bind_eq_some_iff] at hrun'
    obtain ⟨ρ1, g1, ρ2, g2, ρ3, g3, g4⟩ := hrun'
    cases c1 : ((lenOK (.con (.list [])) ex).ev ρ).b <;> simp only [c1, cond_true, cond_false] at g1
    · cases g1
    cases g1; cases g2; cases g3; cases g4
    have hlen := chk_leq c1
    simp only [PE.ev, D.l_list, hdy, List.nil_append, D.i_int, D.int] at hlen
    have := main dst (.slice none 0 0) [] [] hsv (World.ownsRow_nil _ _ _ _) ⟨fun _ => undef, by simp, by simp⟩ (by simpa using limN_nat' hlen) (by simp [Value.ownBlock])
    simpa [PE.ev, D.l_list, hdy, mkObj] using this
  · cases hr
  · obtain ⟨hshx, _⟩ := shX_sound h (gs := []) rfl s
    split at hr
    case h_2 => cases hr
    rename_i j ver es
    rw [es] at hshx
    cases hb : Nat.beq ver (S.ver j) <;> simp only [hb, cond_true, cond_false] at hr
    · cases hr
    have hval := hshx.2 (Nat.eq_of_beq_eq_true hb)
    have hobj := h.objs j
    split at hr
    case h_2 => cases hr
    rename_i E' e' eo
    rw [eo] at hobj
    cases hee : (Nat.beq E' E && Ty.beq e' e) <;> simp only [hee, cond_true, cond_false] at hr
    · cases hr
    cases hr
    simp only [Bool.and_eq_true] at hee
    have e1 := Nat.eq_of_beq_eq_true hee.1
    have e2 := Ty.beq_eq _ _ hee.2
    subst e1; subst e2
    obtain ⟨cells, xs, k1, k2, k3, k4⟩ := hobj
    refine EOK.value hd fun ρ' hrun' => ?_
    simp only [PI.runs, PI.run, Option.bind_eq_some_iff] at hrun'
    obtain ⟨ρ1, g1, ρ2, g2, ρ3, g3, g4⟩ := hrun'
    cases c1 : ((lenOK (.o j) ex).ev ρ).b <;> simp only [c1, cond_true, cond_false] at g1
    · cases g1
    cases g1; cases g2; cases g3; cases g4
    have hlen := chk_leq c1
    simp only [PE.ev, D.l_list, hdy, k1, D.i_int, D.int] at hlen
    have := main j (hv j) xs cells hval k2 k3 (by have := limN_nat' hlen; simpa using this) k4
    simpa [PE.ev, D.l_list, hdy, k1] using this
end
end Cx
