/-
  What comes in, read as data; the statement's form out of a function's contract.
-/
import Derived.Test.YtaihcmbfhgmjgaaCyE
import Derived.Below
import Derived.ChangeSame
import Derived.WalkKit
import Derived.ProofKit
import Derived.OpenShut
import Derived.Carry
import Derived.JoinedCond
set_option linter.unusedSimpArgs false
set_option linter.unusedVariables false
namespace Cx
open Go Go.RowKit Go.ChangeShapes Go.WideShapes

/-- the whole memory, as it is -/
def imOf (w : World) : Im :=
  ⟨fun k o => w.cell? ⟨k, o, none⟩, fun _ => none⟩
theorem imOf_ok (w : World) : (imOf w).ok w := by
  exact ⟨fun k o v h => h, fun k es h => by cases h⟩

/-- types that may be read, with their layout -/
def readFs (P : Program) (r : TypeId → Option Ty) : List Field → Nat → Option (List Ty)
  | [], _ => some []
  | f :: fs, off => (r f.type).bind fun ft =>
    bif Nat.beq f.offset off && Nat.beq (P.cellsOf f.type) ft.flat.length then (readFs P r fs (off + ft.flat.length)).map (ft.flat ++ ·) else none
def readTy (P : Program) : Nat → TypeId → Option Ty
  | 0, _ => none
  | n + 1, t =>
    match P.underlying t with
    | some .bool => some .bool
    | some (.int k) => some (.int k)
    | some .string => some .str
    | some (.slice e) => bif isTm P e then some (.slice .trm) else (readTy P n e).bind fun te => bif Nat.beq (P.cellsOf e) te.flat.length && Nat.ble 1 te.flat.length then some (.slice te) else none
    | some (.struct fs) => (readFs P (readTy P n) fs.toList 0).bind fun ts => bif Nat.beq (P.cellsOf t) ts.length then some (.agg ts) else none
    | _ => none

theorem isTm_read {P : Program} {e : TypeId} (h : isTm P e = true) (n : Nat) : readTy P (n + 2) e = some .trmA ∧ P.cellsOf e = 3 := by
  unfold isTm at h
  split at h
  case h_2 => cases h
  rename_i fs hu
  split at h
  case h_2 => cases h
  rename_i f0 f1 f2 hfs
  simp only [Bool.and_eq_true] at h
  obtain ⟨⟨⟨⟨⟨⟨⟨⟨⟨h0, h1⟩, h2⟩, o0⟩, o1⟩, o2⟩, c0⟩, c1⟩, c2⟩, c3⟩ := h
  split at h0
  case h_2 => cases h0
  rename_i u0
  split at h1
  case h_2 => cases h1
  rename_i u1
  split at h2
  case h_2 => cases h2
  rename_i e' u2
  obtain rfl := Nat.eq_of_beq_eq_true h2
  have r0 : readTy P (n + 1) f0.type = some (.int .i64) := by simp [readTy, u0]
  have r1 : readTy P (n + 1) f1.type = some (.int .i64) := by simp [readTy, u1]
  have ht : isTm P e' = true := by
    unfold isTm; rw [hu]; simp only [hfs]
    simp [u0, u1, u2, Nat.eq_of_beq_eq_true o0, Nat.eq_of_beq_eq_true o1, Nat.eq_of_beq_eq_true o2, Nat.eq_of_beq_eq_true c0, Nat.eq_of_beq_eq_true c1, Nat.eq_of_beq_eq_true c2, Nat.eq_of_beq_eq_true c3]
  have r2 : readTy P (n + 1) f2.type = some (.slice .trm) := by simp [readTy, u2, ht]
  refine ⟨?_, Nat.eq_of_beq_eq_true c3⟩
  show readTy P (n + 1 + 1) e' = _
  rw [readTy, hu]
  simp only [hfs, readFs, r0, r1, r2, Option.bind_some, Ty.flat, List.length_cons, List.length_nil, o0, c0, Bool.and_self, cond_true]
  simp [Nat.eq_of_beq_eq_true o1, Nat.eq_of_beq_eq_true o2, Nat.eq_of_beq_eq_true c1, Nat.eq_of_beq_eq_true c2, Nat.eq_of_beq_eq_true c3, Ty.trmA]

theorem readTy_ro {P : Program} {n : Nat} {t : TypeId} {ty : Ty} (h : readTy P n t = some ty) : ty.rowT = true ∨ ty.one = true := by
  cases n with
  | zero => simp [readTy] at h
  | succ n =>
    simp only [readTy] at h
    split at h
    · cases h; exact .inr rfl
    · cases h; exact .inr rfl
    · cases h; exact .inr rfl
    · rename_i e _
      cases ht : isTm P e <;> simp only [ht, cond_true, cond_false] at h
      · simp only [Option.bind_eq_some_iff] at h
        obtain ⟨te, _, h⟩ := h
        cases hb : (Nat.beq (P.cellsOf e) te.flat.length && Nat.ble 1 te.flat.length) <;> simp only [hb, cond_true, cond_false] at h
        · cases h
        · cases h; exact .inr rfl
      · cases h; exact .inr rfl
    · rename_i fs _
      simp only [Option.bind_eq_some_iff] at h
      obtain ⟨ts, _, h⟩ := h
      cases hb : Nat.beq (P.cellsOf t) ts.length <;> simp only [hb, cond_true, cond_false] at h
      · cases h
      · cases h; exact .inl rfl
    · cases h

def RepRow (cap : Nat → Option CSig) (σ : Im) (ts : List Ty) (cs : List Value) (ds : List D) : Prop :=
  cs.length = ts.length ∧ ds.length = ts.length ∧ ∀ (i : Nat) (u : Ty), ts[i]? = some u → Rep cap σ u (cs.getD i undef) (ds.getD i .none) ∧ u.one = true

theorem RepRow.one {cap : Nat → Option CSig} {σ : Im} {t : Ty} {v : Value} {d : D} (h : Rep cap σ t v d) (ht : t.one = true) : RepRow cap σ [t] [v] [d] :=
  ⟨rfl, rfl, fun i u hu => by
    cases i with
    | zero => simp at hu; subst hu; exact ⟨h, ht⟩
    | succ i => simp at hu⟩

theorem RepRow.append {cap : Nat → Option CSig} {σ : Im} {ts us : List Ty} {cs vs : List Value} {ds es : List D} (h : RepRow cap σ ts cs ds) (k : RepRow cap σ us vs es) : RepRow cap σ (ts ++ us) (cs ++ vs) (ds ++ es) := by
  obtain ⟨h1, h2, h3⟩ := h
  obtain ⟨k1, k2, k3⟩ := k
  refine ⟨by simp [h1, k1], by simp [h2, k2], fun i u hu => ?_⟩
  by_cases hi : i < ts.length
  · rw [List.getElem?_append_left hi] at hu
    have := h3 i u hu
    rw [List.getD_eq_getElem?_getD, List.getD_eq_getElem?_getD, List.getElem?_append_left (by omega), List.getElem?_append_left (by omega)]
    rw [List.getD_eq_getElem?_getD, List.getD_eq_getElem?_getD] at this
    exact this
  · rw [List.getElem?_append_right (by omega)] at hu
    have := k3 _ u hu
    rw [List.getD_eq_getElem?_getD, List.getD_eq_getElem?_getD, List.getElem?_append_right (by omega), List.getElem?_append_right (by omega), h1, h2]
    rw [List.getD_eq_getElem?_getD, List.getD_eq_getElem?_getD] at this
    exact this

def datOf (ag : Bool) (ds : List D) : D := if ag then .agg ds else ds.getD 0 .none

theorem flat_len (t : Ty) : t.flat.length = t.size := by cases t <;> rfl

theorem Rep.ofRow {cap : Nat → Option CSig} {σ : Im} {t : Ty} {cs : List Value} {ds : List D} (hro : t.rowT = true ∨ t.one = true) (h : RepRow cap σ t.flat cs ds) : Rep cap σ t (Cx.rowOf t.rowT cs) (datOf t.rowT ds) := by
  obtain ⟨h1, h2, h3⟩ := h
  cases t with
  | agg ts => exact .agg ts cs ds h1 h2 (fun i u hu => (h3 i u hu).1) (fun i u hu => (h3 i u hu).2)
  | trm => simp [Ty.rowT, Ty.one] at hro
  | _ => exact (h3 0 _ rfl).1

theorem rowOf_cells {cap : Nat → Option CSig} {σ : Im} {t : Ty} {cs : List Value} {ds : List D} (hro : t.rowT = true ∨ t.one = true) (h : RepRow cap σ t.flat cs ds) {j : Nat} {u : Value} (hj : (rowOf t.rowT cs).cells[j]? = some u) : cs[j]? = some u := by
  obtain ⟨h1, h2, h3⟩ := h
  cases t with
  | agg ts => simpa [rowOf, Ty.rowT, Value.cells] using hj
  | trm => simp [Ty.rowT, Ty.one] at hro
  | _ =>
    have h4 := h3 0 _ rfl
    have h5 := (h4.1.oneCell h4.2).1
    simp only [rowOf, Ty.rowT, Bool.false_eq_true, if_false] at hj
    rw [h5] at hj
    cases j with
    | zero =>
      simp only [List.getElem?_toArray, List.getElem?_cons_zero, Option.some.injEq] at hj
      match cs, h1 with
      | [c], _ => simpa using hj
    | succ j => simp at hj

section
variable {H : Type} {enc : TypeId × Value → H} {P : Program} {w : World} {base : Nat} {held : Bool} {cap : Nat → Option CSig}

theorem wf_bounds {k : IntKind} {n : Int} (h : (Lit.int k n).wf = true) : k.min ≤ n ∧ n ≤ k.max := by
  simpa [Lit.wf] using h

theorem readFs_row {n m : Nat} (ih : ∀ (t : TypeId) (cs : List Value) (x : DataW H × List MemPlace) (ty : Ty), DataW.trod enc P w base (fun _ => true) held n t cs = some x → readTy P m t = some ty → ∃ ds, RepRow cap (imOf w) ty.flat cs ds) :
    ∀ (fs : List Field) (off : Nat) (cs : List Value) (ts : List Ty), readFs P (readTy P m) fs off = some ts → cs.length = off + ts.length →
      (∀ f, f ∈ fs → ∃ x, DataW.trod enc P w base (fun _ => true) held n f.type ((cs.drop f.offset).take (P.cellsOf f.type)) = some x) → ∃ ds, RepRow cap (imOf w) ts (cs.drop off) ds
  | [], off, cs, ts, h, hl, _ => by
    simp only [readFs, Option.some.injEq] at h
    subst h
    have : cs.drop off = [] := by simp at hl ⊢; omega
    rw [this]
    exact ⟨[], rfl, rfl, fun i u hu => by simp at hu⟩
  | f :: fs, off, cs, ts, h, hl, hx => by
    simp only [readFs, Option.bind_eq_some_iff] at h
    obtain ⟨ft, hft, h⟩ := h
    cases hb : (Nat.beq f.offset off && Nat.beq (P.cellsOf f.type) ft.flat.length) <;> simp only [hb, cond_true, cond_false] at h
    · cases h
    simp only [Option.map_eq_some_iff] at h
    obtain ⟨us, hus, rfl⟩ := h
    simp only [Bool.and_eq_true] at hb
    have e1 := nbeq hb.1
    have e2 := nbeq hb.2
    obtain ⟨x, hx1⟩ := hx f (List.mem_cons_self ..)
    rw [e1, e2] at hx1
    obtain ⟨ds1, hr1⟩ := ih _ _ _ _ hx1 hft
    simp only [List.length_append] at hl
    obtain ⟨ds2, hr2⟩ := readFs_row ih fs (off + ft.flat.length) cs us hus (by omega) fun g hg => hx g (List.mem_cons_of_mem _ hg)
    refine ⟨ds1 ++ ds2, ?_⟩
    have := hr1.append hr2
    rw [← List.drop_drop, List.take_append_drop] at this
    exact this

theorem trod_row : ∀ (n m : Nat) (t : TypeId) (cs : List Value) (x : DataW H × List MemPlace) (ty : Ty), DataW.trod enc P w base (fun _ => true) held n t cs = some x → readTy P m t = some ty → ∃ ds, RepRow cap (imOf w) ty.flat cs ds := by
  intro n
  induction n with
  | zero => intro m t cs x ty h; simp [DataW.trod] at h
  | succ n ih =>
    intro m t cs x ty h hty
    cases m with
    | zero => simp [readTy] at hty
    | succ m =>
      simp only [readTy] at hty
      split at hty
      · rename_i hu; cases hty
        obtain ⟨b, rfl, _⟩ := DataW.trod_bool hu h
        exact ⟨_, .one (.bool b) rfl⟩
      · rename_i k hu; cases hty
        obtain ⟨z, rfl, _, hw⟩ := DataW.trod_int hu h
        exact ⟨_, .one (.int k z (wf_bounds hw).1 (wf_bounds hw).2) rfl⟩
      · rename_i hu; cases hty
        obtain ⟨s, rfl, _, hs⟩ := DataW.trod_string hu h
        exact ⟨_, .one (.str s hs) rfl⟩
      · rename_i e hu
        have hte : ∃ (m' : Nat) (te te0 : Ty), readTy P m' e = some te ∧ P.cellsOf e = te.flat.length ∧ 1 ≤ te.flat.length ∧ ty = .slice te0 ∧ te0.unf = te := by
          cases ht : isTm P e <;> simp only [ht, cond_true, cond_false] at hty
          · simp only [Option.bind_eq_some_iff] at hty
            obtain ⟨te, hte, hty⟩ := hty
            cases hb : (Nat.beq (P.cellsOf e) te.flat.length && Nat.ble 1 te.flat.length) <;> simp only [hb, cond_true, cond_false] at hty
            · cases hty
            cases hty
            simp only [Bool.and_eq_true] at hb
            exact ⟨m, te, te, hte, nbeq hb.1, Nat.le_of_ble_eq_true hb.2, rfl, Ty.unf_ro (readTy_ro hte)⟩
          · cases hty
            obtain ⟨k1, k2⟩ := isTm_read ht 0
            exact ⟨2, .trmA, .trm, k1, k2, by decide, rfl, rfl⟩
        obtain ⟨m', te, te0, hte, e1, e2, rfl, hun⟩ := hte
        have hro := readTy_ro hte
        rcases DataW.trod_slice hu h with ⟨rfl, _⟩ | ⟨a, len, cp, elems, rest, n', hn', rfl, _, hba, hl, hm, hlen, hel, hsp, _⟩
        · exact ⟨_, .one (.nil te0) rfl⟩
        · cases hn'
          obtain ⟨hrl, hrest⟩ := hsp rfl
          have hcell : ∀ i, i < cp → ∃ ci y, w.cells? base (a.add (i * P.cellsOf e)) (P.cellsOf e) = some ci ∧ DataW.trod enc P w base (fun _ => true) held n e ci = some y := by
            intro i hi
            have hb' : ∃ y, (w.cells? base (a.add (i * P.cellsOf e)) (P.cellsOf e)).bind (DataW.trod enc P w base (fun _ => true) held n e) = some y := by
              by_cases hil : i < len
              · rw [hel i hil]; exact ⟨_, List.getElem?_eq_getElem (by omega)⟩
              · have := hrest (i - len) (by omega)
                rw [show len + (i - len) = i by omega] at this
                rw [this]; exact ⟨_, List.getElem?_eq_getElem (by omega)⟩
            obtain ⟨y, hy⟩ := hb'
            rw [Option.bind_eq_some_iff] at hy
            obtain ⟨ci, h1, h2⟩ := hy
            exact ⟨ci, y, h1, h2⟩
          by_cases hc0 : cp = 0
          · subst hc0
            have : len = 0 := by omega
            subst this
            exact ⟨_, .one (.emp te0 a) rfl⟩
          · have hspot : a.spot = none := by
              obtain ⟨ci, y, h1, _⟩ := hcell 0 (by omega)
              obtain ⟨_, _, h3⟩ := World.cells?_some h1
              have := h3 0 (by omega)
              simp only [Nat.zero_mul, Addr.add, if_true] at this
              unfold World.cell? at this
              cases hs : a.spot with
              | none => rfl
              | some s =>
                exfalso
                have hl : ci.length = P.cellsOf e := (World.cells?_some h1).2.1
                split at this
                · rw [hs] at this; simp at this; subst this; simp at hl; omega
                · rw [eq_comm, List.getElem?_eq_none_iff] at this; omega
            obtain ⟨k, o, s⟩ := a
            simp only at hspot
            subst hspot
            have hall : ∀ i, ∃ p : List Value × List D, i < len → w.cells? base ((⟨k, o, none⟩ : Addr).add (i * P.cellsOf e)) (P.cellsOf e) = some p.1 ∧ RepRow cap (imOf w) te.flat p.1 p.2 := by
              intro i
              by_cases hi : i < len
              · obtain ⟨ci, y, h1, h2⟩ := hcell i (by omega)
                obtain ⟨ds, hr⟩ := ih m' _ _ _ _ h2 hte
                exact ⟨(ci, ds), fun _ => ⟨h1, hr⟩⟩
              · exact ⟨([], []), fun h => absurd h hi⟩
            obtain ⟨f, hf⟩ := Classical.axiomOfChoice hall
            refine ⟨_, .one (.slice te0 k o len cp ((List.range len).map fun i => datOf te.rowT (f i).2) (fun i => rowOf te.rowT (f i).1) (by simp) hl hm (fun i x hx => ?_) (fun i j u hi hj => ?_)) rfl⟩
            · rw [List.getElem?_map, Option.map_eq_some_iff] at hx
              obtain ⟨i', hi', rfl⟩ := hx
              have hlt : i < len := by have := (List.getElem?_eq_some_iff.1 hi').1; simpa using this
              rw [List.getElem?_range hlt] at hi'
              cases hi'
              rw [hun]; exact Rep.ofRow hro (hf i hlt).2
            · obtain ⟨h1, h2⟩ := hf i hi
              have hcs := rowOf_cells hro h2 hj
              obtain ⟨_, h4, h5⟩ := World.cells?_some h1
              have hjl : j < P.cellsOf e := by rw [← h4]; exact (List.getElem?_eq_some_iff.1 hcs).1
              have := h5 j hjl
              rw [hcs] at this
              show w.cell? ⟨k, o + i * te0.size + j, none⟩ = some u
              rw [← te0.unf_size, hun, ← flat_len, ← e1, ← this]
              congr 1
              simp only [Addr.add]
              split <;> split <;> simp_all
      · rename_i fs hu
        simp only [Option.bind_eq_some_iff] at hty
        obtain ⟨ts, hts, hty⟩ := hty
        cases hb : Nat.beq (P.cellsOf t) ts.length <;> simp only [hb, cond_true, cond_false] at hty
        · cases hty
        cases hty
        obtain ⟨xs, n', hn', _, hl, hxl, hf⟩ := DataW.trod_struct hu h
        cases hn'
        have := readFs_row (ih m) fs.toList 0 cs ts hts (by rw [hl, nbeq hb]; omega) (fun f hm => by
          obtain ⟨i, hi⟩ := List.getElem?_of_mem hm
          have hi' : fs[i]? = some f := by simpa using hi
          have h1 := hf i f hi'
          have hlt : i < fs.size := (Array.getElem?_eq_some_iff.1 hi').1
          exact ⟨_, h1.trans (List.getElem?_eq_getElem (by omega))⟩)
        show ∃ ds, RepRow cap (imOf w) ts cs ds
        simpa using this
      · cases hty

theorem cell_cells {base : Nat} {t : TypeId} {v : Value} (h : Cell.okWide P w .any base t v) : v.cells = #[v] := by
  cases v <;> first | rfl | (exfalso; simp only [Cell.okWide, Cell.ok] at h; revert h; cases P.underlying t with | none => simp | some T => cases T <;> simp)

theorem arg_rep {base base' : Nat} {m : Nat} {t : TypeId} {v : Value} {d : DataW H} {ps : List MemPlace} {ty : Ty} (hok : Value.okWide P w .any base' t v) (h : DataW.Trod enc P w base (fun _ => true) held t v d ps) (hty : readTy P m t = some ty) : ∃ d, Rep cap (imOf w) ty v d := by
  obtain ⟨fuel, h⟩ := h
  obtain ⟨ds, hr⟩ := trod_row (cap := cap) fuel m t _ _ _ h hty
  have hrep := Rep.ofRow (readTy_ro hty) hr
  cases m with
  | zero => simp [readTy] at hty
  | succ m =>
    suffices hs : rowOf ty.rowT v.cells.toList = v by rw [hs] at hrep; exact ⟨_, hrep⟩
    simp only [readTy] at hty
    unfold Value.okWide at hok
    split at hty
    · rename_i hu; cases hty; rw [hu] at hok; simp only at hok; rw [cell_cells hok]; rfl
    · rename_i hu; cases hty; rw [hu] at hok; simp only at hok; rw [cell_cells hok]; rfl
    · rename_i hu; cases hty; rw [hu] at hok; simp only at hok; rw [cell_cells hok]; rfl
    · rename_i e hu
      cases ht : isTm P e <;> simp only [ht, cond_true, cond_false] at hty
      · simp only [Option.bind_eq_some_iff] at hty
        obtain ⟨te, _, hty⟩ := hty
        cases hb : (Nat.beq (P.cellsOf e) te.flat.length && Nat.ble 1 te.flat.length) <;> simp only [hb, cond_true, cond_false] at hty
        · cases hty
        cases hty; rw [hu] at hok; simp only at hok; rw [cell_cells hok]; rfl
      · cases hty; rw [hu] at hok; simp only at hok; rw [cell_cells hok]; rfl
    · rename_i fs hu
      simp only [Option.bind_eq_some_iff] at hty
      obtain ⟨ts, _, hty⟩ := hty
      cases hb : Nat.beq (P.cellsOf t) ts.length <;> simp only [hb, cond_true, cond_false] at hty
      · cases hty
      cases hty
      rw [hu] at hok
      obtain ⟨cs, rfl, _⟩ := hok
      simp [rowOf, Ty.rowT, Value.cells]
    · cases hty

def readTys (P : Program) (m : Nat) : List TypeId → Option (List Ty)
  | [] => some []
  | t :: ts => (readTy P m t).bind fun x => (readTys P m ts).map (x :: ·)

theorem args_rep {base base' m : Nat} : ∀ (ts : List TypeId) (vs : List Value) (ds : List (DataW H)) (ps : List MemPlace) (tys : List Ty), DataW.TrodAll enc P w base (fun _ => true) held ts vs ds ps → readTys P m ts = some tys →
    (∀ (j : Nat) t v, ts[j]? = some t → vs[j]? = some v → Value.okWide P w .any base' t v) →
    ∃ es : List D, vs.length = tys.length ∧ es.length = tys.length ∧ ∀ (i : Nat) (t : Ty), tys[i]? = some t → Rep cap (imOf w) t (vs.getD i undef) (es.getD i .none)
  | [], vs, ds, ps, tys, h, hty, _ => by
    simp only [readTys, Option.some.injEq] at hty
    subst hty
    cases vs with
    | nil => exact ⟨[], rfl, rfl, fun i t h => by simp at h⟩
    | cons => cases ds <;> exact h.elim
  | t :: ts, vs, ds, ps, tys, h, hty, hok => by
    simp only [readTys, Option.bind_eq_some_iff, Option.map_eq_some_iff] at hty
    obtain ⟨ty, hty1, tys', hty2, rfl⟩ := hty
    cases vs with
    | nil => cases ds <;> exact h.elim
    | cons v vs =>
      cases ds with
      | nil => exact h.elim
      | cons d ds =>
        obtain ⟨p, q, h1, h2, _⟩ := h
        obtain ⟨e, he⟩ := arg_rep (cap := cap) (hok 0 t v rfl rfl) h1 hty1
        obtain ⟨es, k1, k2, k3⟩ := args_rep ts vs ds q tys' h2 hty2 (fun j t' v' hj hv => hok (j + 1) t' v' hj hv)
        refine ⟨e :: es, by simp [k1], by simp [k2], fun i u hu => ?_⟩
        cases i with
        | zero => simp at hu; subst hu; exact he
        | succ i => simpa using k3 i u (by simpa using hu)
end

/-! data by their types, with no memory -/
mutual
inductive DTy : Ty → D → Prop where
  | int (k : IntKind) (n : Int) (h1 : k.min ≤ n) (h2 : n ≤ k.max) : DTy (.int k) (.v (.int k n))
  | bool (b : Bool) : DTy .bool (.v (.bool b))
  | str (s : ByteArray) (h : s.size ≤ maxLen) : DTy .str (.v (.string s))
  | slice (e : Ty) (xs : List D) (hm : xs.length ≤ maxLen) (h : ∀ x, x ∈ xs → DTy e.unf x) : DTy (.slice e) (.list xs)
  | agg (ts : List Ty) (ds : List D) (h : DTys ts ds) : DTy (.agg ts) (.agg ds)
  | other (t : Ty) (d : D) (h : match t with | .int _ | .bool | .str | .slice _ | .agg _ => False | _ => True) : DTy t d
inductive DTys : List Ty → List D → Prop where
  | nil : DTys [] []
  | cons {t : Ty} {d : D} {ts : List Ty} {ds : List D} (h : DTy t d) (hs : DTys ts ds) : DTys (t :: ts) (d :: ds)
end

theorem DTys.of_get : ∀ {ts : List Ty} {ds : List D}, ds.length = ts.length → (∀ (i : Nat) (t : Ty), ts[i]? = some t → DTy t (ds.getD i .none)) → DTys ts ds
  | [], [], _, _ => .nil
  | t :: ts, d :: ds, hl, h => .cons (h 0 t rfl) (DTys.of_get (by simpa using hl) fun i u hu => by simpa using h (i + 1) u (by simpa using hu))
  | [], _ :: _, hl, _ => by simp at hl
  | _ :: _, [], hl, _ => by simp at hl

theorem Rep.dty {cap : Nat → Option CSig} {σ : Im} {t : Ty} {v : Value} {d : D} (h : Rep cap σ t v d) : DTy t d := by
  induction h with
  | int k n h1 h2 => exact .int k n h1 h2
  | bool b => exact .bool b
  | str s h => exact .str s h
  | agg ts vs ds h1 h2 _ ho ih => exact .agg ts ds (.of_get h2 ih)
  | nil e => exact .slice e [] (by decide) (fun x hx => by cases hx)
  | emp e a => exact .slice e [] (by decide) (fun x hx => by cases hx)
  | slice e k o n c xs vs hn hc hm _ hv ih =>
    refine .slice e xs (by omega) fun x hx => ?_
    obtain ⟨i, hi⟩ := List.getElem?_of_mem hx
    exact ih i x hi
  | _ => exact .other _ _ trivial

/-- A law's contract out of what it computes; the variables' tables lie as the context says. -/
theorem law_contractG {H : Type} {enc : TypeId × Value → H} {C : Ctx} {f : Nat} {fn : Func} {sg : Sig} {spec : ChangeSpec} {tb : TypeId} {apart fresh handsOn again : Bool} (hl : laidOutB C.P = true)
    (hsg : readTys C.P 12 fn.params.toList = some sg.args) (hread : fn.params.toList.all (fun t => C.P.readableRec t && decide (t < C.P.types.size)) = true) (hvars : spec.vars = [])
    (hspec : ∀ ds : List (DataW H), ds.length = fn.params.size → (spec.fn H ds).results = [.lit (.bool true)] ∧ (spec.fn H ds).args = ds ∧ (spec.fn H ds).vars = [])
    (hres : fn.resultTypes = #[tb]) (hub : C.P.underlying tb = some .bool) (hmode : sg.mode = .dat) (hrt : sg.res = .bool)
    (hmain : ∀ ds, DTys sg.args ds → FnOK C f sg ds (.v (.bool true)))
    (W : World) (hglob : CtxOK C (imOf W)) (base : Nat) (args : Array Value) (ds gs : List (DataW H)) (before : List MemPlace)
    (hval : ∀ (j : Nat) t v, fn.params[j]? = some t → args[j]? = some v → Value.okWide C.P W .any base t v)
    (hW : DataW.Whole enc C.P fn.params.toList spec.vars apart W args.toList ds gs before) :
    Calls C.P f args W fun e W' => ∃ v, e = .returned v ∧ spec.post enc C.P fn apart fresh handsOn again W args v W' := by
  have hW' := hW
  have hlt : ∀ p ∈ before, p.block < W.heap.size := fun p hp => hW'.lt p hp
  obtain ⟨p, q, hA, hV, rfl, hfz, hnd⟩ := hW
  rw [hvars] at hV
  obtain ⟨rfl, rfl⟩ := trodVars_none hV
  obtain ⟨es, k1, k2, k3⟩ := args_rep (cap := C.cap) (base' := base) fn.params.toList args.toList ds p sg.args hA hsg (fun j t v hj hv => hval j t v (by simpa using hj) (by simpa using hv))
  have hty : DTys sg.args es := .of_get k2 fun i t ht => (k3 i t ht).dty
  have hlen : ∀ (ts : List TypeId) (vs : List Value) (ds : List (DataW H)) (ps : List MemPlace), DataW.TrodAll enc C.P W 0 (fun _ => true) true ts vs ds ps → ds.length = ts.length := by
    intro ts
    induction ts with
    | nil => intro vs ds ps h; cases vs <;> cases ds <;> first | rfl | exact h.elim
    | cons t ts ih =>
      intro vs ds ps h
      cases vs with
      | nil => cases ds <;> exact h.elim
      | cons v vs => cases ds with
        | nil => exact h.elim
        | cons d ds => obtain ⟨p, q, _, h2, _⟩ := h; simp [ih vs ds q h2]
  have hdl : ds.length = fn.params.size := by simpa using hlen _ _ _ _ hA
  obtain ⟨s1, s2, s3⟩ := hspec (ds ++ []) (by simpa using hdl)
  refine (hmain es hty (imOf W) W args (imOf_ok W) hglob ⟨k1, k2, k3⟩).mono fun e W' hh => ?_
  obtain ⟨v, σ', rfl, _, _, hb, _, _, hr⟩ := hh
  refine ⟨v, rfl, ?_⟩
  simp only [ResOK, hmode, hrt] at hr
  obtain ⟨b, rfl, hbb⟩ := hr.bool_inv
  cases hbb
  have stays : ∀ (sp : Nat → Bool) (ts : List TypeId) (vs : List Value) (ds : List (DataW H)) (ps : List MemPlace), ts.all (fun t => C.P.readableRec t && decide (t < C.P.types.size)) = true → (∀ x ∈ ps, x.block < W.heap.size) → (∀ x ∈ ps, sp x.block = true) →
      DataW.TrodAll enc C.P W 0 (fun _ => true) true ts vs ds ps → DataW.TrodAll enc C.P W' 0 sp true ts vs ds ps := by
    intro sp ts
    induction ts with
    | nil => intro vs ds ps _ _ _ h; cases vs <;> cases ds <;> first | exact h | exact h.elim
    | cons t ts ih =>
      intro vs ds ps ha hps hsp h
      cases vs with
      | nil => cases ds <;> exact h.elim
      | cons v vs => cases ds with
        | nil => exact h.elim
        | cons d ds =>
          obtain ⟨p, q, h1, h2, rfl⟩ := h
          simp only [List.all_cons, Bool.and_eq_true, decide_eq_true_eq] at ha
          exact ⟨p, q, WideElems.Trod_stays hl ha.1.1 ha.1.2 h1 (fun x hx => hb.same (hps x (List.mem_append_left _ hx))) (fun x hx => hsp x (List.mem_append_left _ hx)),
            ih vs ds q (by simpa using ha.2) (fun x hx => hps x (List.mem_append_right _ hx)) (fun x hx => hsp x (List.mem_append_right _ hx)) h2, rfl⟩
  have hltp : ∀ x ∈ p, x.block < W.heap.size := fun x hx => hlt x (List.mem_append_left _ hx)
  have hargs := fun sp (h : ∀ x ∈ p, sp x.block = true) => stays sp _ _ _ _ hread hltp h hA
  have hrest : ∀ (b : Nat) (sp : Nat → Bool) (hd : Bool), DataW.TrodAll enc C.P W' b sp hd fn.resultTypes.toList ((Value.bool true).resultList fn.resultTypes.size) [.lit (.bool true)] [] := by
    intro b sp hd; rw [hres]; exact trodAll_mk1 (shut_bool hub true)
  refine ⟨ds, [], p ++ [], [], p, [], hW', ?_, ?_, ?_, World.keptBut_mono (fun x hx => ⟨hx, ?_⟩) (hb.frame (· ∈ p ++ [])), fun _ => ?_⟩
  · rw [s1]; exact hrest _ _ _
  · rw [s2]; simpa using hargs _ (fun x hx => by simpa using hltp x hx)
  · rw [s3, hvars]; rfl
  · simpa using hx
  · refine ⟨ok_one hres rfl (okWide_bool_mk hub true), _, [], ([] ++ p) ++ [], ⟨[] ++ p, [], trodAll_append (hargs _ (fun _ _ => rfl)) (hrest _ _ _), by rw [hvars]; exact rfl, rfl, ?_, ?_⟩, ?_⟩
    · intro b off hp
      have hin : MemPlace.cell b off ∈ p ++ [] := by simpa using hp
      rw [hb.frozen (hlt _ hin)]
      exact hfz b off hin
    · intro ha
      simpa using hnd ha
    · intro x hx _
      simpa using hx
/-- A law's contract out of what it computes. -/
theorem law_contract {H : Type} {enc : TypeId × Value → H} {C : Ctx} {f : Nat} {fn : Func} {sg : Sig} {spec : ChangeSpec} {tb : TypeId} {apart fresh handsOn again : Bool} (hl : laidOutB C.P = true)
    (hsg : readTys C.P 12 fn.params.toList = some sg.args) (hread : fn.params.toList.all (fun t => C.P.readableRec t && decide (t < C.P.types.size)) = true) (hvars : spec.vars = [])
    (hspec : ∀ ds : List (DataW H), ds.length = fn.params.size → (spec.fn H ds).results = [.lit (.bool true)] ∧ (spec.fn H ds).args = ds ∧ (spec.fn H ds).vars = [])
    (hres : fn.resultTypes = #[tb]) (hub : C.P.underlying tb = some .bool) (hmode : sg.mode = .dat) (hrt : sg.res = .bool) (hglob : C.glob = fun _ => none)
    (hmain : ∀ ds, DTys sg.args ds → FnOK C f sg ds (.v (.bool true)))
    (W : World) (base : Nat) (args : Array Value) (ds gs : List (DataW H)) (before : List MemPlace)
    (hval : ∀ (j : Nat) t v, fn.params[j]? = some t → args[j]? = some v → Value.okWide C.P W .any base t v)
    (hW : DataW.Whole enc C.P fn.params.toList spec.vars apart W args.toList ds gs before) :
    Calls C.P f args W fun e W' => ∃ v, e = .returned v ∧ spec.post enc C.P fn apart fresh handsOn again W args v W' := by
  exact law_contractG hl hsg hread hvars hspec hres hub hmode hrt hmain W ⟨fun g x hx => by rw [hglob] at hx; cases hx⟩ base args ds gs before hval hW
end Cx
