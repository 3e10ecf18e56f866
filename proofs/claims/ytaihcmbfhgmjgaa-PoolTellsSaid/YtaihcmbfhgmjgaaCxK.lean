/-
  Zeros, maps looked up, struct literals.
-/
import Derived.Test.YtaihcmbfhgmjgaaCxJ
set_option linter.unusedSimpArgs false
set_option linter.unusedVariables false
namespace Cx
open Go Go.RowKit

theorem mapM_some {α β : Type} (f : α → Option β) : ∀ (l : List α) (r : List β), l.mapM f = some r → r.length = l.length ∧ ∀ (i : Nat) (x : α), l[i]? = some x → ∃ y, r[i]? = some y ∧ f x = some y
  | [], r, h => by simp at h; subst h; exact ⟨rfl, by simp⟩
  | x :: l, r, h => by
    simp only [List.mapM_cons, Option.bind_eq_bind, Option.bind_eq_some_iff] at h
    obtain ⟨y, hy, ys, hys, h⟩ := h
    cases h
    obtain ⟨h1, h2⟩ := mapM_some f l ys hys
    refine ⟨by simp [h1], fun i z hi => ?_⟩
    cases i with
    | zero => simp at hi; subst hi; exact ⟨y, rfl, hy⟩
    | succ i => simp at hi; simpa using h2 i z hi

theorem zeroOks_get : ∀ (ts : List Ty) (vs : List Value), zeroOks ts vs = true → vs.length = ts.length ∧ ∀ (i : Nat) (t : Ty), ts[i]? = some t → ∃ v, vs[i]? = some v ∧ zeroOk1 t v = true
  | [], vs, h => by cases vs <;> simp_all [zeroOks]
  | t :: ts, vs, h => by
    cases vs with
    | nil => simp [zeroOks] at h
    | cons v vs =>
      simp only [zeroOks, Bool.and_eq_true] at h
      obtain ⟨h1, h2⟩ := zeroOks_get ts vs h.2
      refine ⟨by simp [h1], fun i u hi => ?_⟩
      cases i with
      | zero => simp at hi; subst hi; exact ⟨v, rfl, h.1⟩
      | succ i => simp at hi; simpa using h2 i u hi

theorem zeroTy_sound {cap : Nat → Option CSig} {σ : Im} {t : Ty} {z : Ty × D} {v : Value} (h : zeroTy t = some z) (hz : zeroOk t v = true) : Rep cap σ z.1 v z.2 ∧ Ty.sub z.1 t = true ∧ z.1.one = t.one := by
  cases t with
  | agg ts =>
    simp only [zeroTy, Option.map_eq_some_iff] at h
    obtain ⟨zs, hzs, rfl⟩ := h
    cases v with
    | agg vs =>
      simp only [zeroOk] at hz
      obtain ⟨l1, h1⟩ := zeroOks_get ts vs.toList hz
      obtain ⟨l2, h2⟩ := mapM_some _ _ _ hzs
      have key : ∀ (i : Nat) (t : Ty), ts[i]? = some t → ∃ y v, zs[i]? = some y ∧ vs.toList[i]? = some v ∧ Rep cap σ y.1 v y.2 ∧ y.1.one = true ∧ Ty.sub y.1 t = true := by
        intro i t hi
        obtain ⟨y, hy, hy2⟩ := h2 i t hi
        obtain ⟨v, hv, hv2⟩ := h1 i t hi
        obtain ⟨g1, g2, g3⟩ := zeroTy1_sound (cap := cap) (σ := σ) hy2 hv2
        exact ⟨y, v, hy, hv, g1, g2, g3⟩
      have hsub : ∀ (ts : List Ty) (zs : List (Ty × D)), zs.length = ts.length → (∀ (i : Nat) (t : Ty), ts[i]? = some t → ∃ y, zs[i]? = some y ∧ Ty.sub y.1 t = true) → Ty.subs (zs.map (·.1)) ts = true := by
        intro ts
        induction ts with
        | nil => intro zs hl _; cases zs <;> simp_all [Ty.subs]
        | cons t ts ih =>
          intro zs hl hh
          cases zs with
          | nil => simp at hl
          | cons z zs =>
            simp only [List.map_cons, Ty.subs, Bool.and_eq_true]
            refine ⟨?_, ih zs (by simpa using hl) fun i u hu => by simpa using hh (i + 1) u (by simpa using hu)⟩
            obtain ⟨y, hy, hy2⟩ := hh 0 t rfl
            simp at hy; subst hy; exact hy2
      refine ⟨?_, ?_, rfl⟩
      · have : vs = vs.toList.toArray := by simp
        rw [this]
        refine .agg _ _ _ (by rw [List.length_map]; omega) (by simp) (fun i t hi => ?_) (fun i t hi => ?_)
        · simp only [List.getElem?_map, Option.map_eq_some_iff] at hi
          obtain ⟨q, hq, rfl⟩ := hi
          obtain ⟨t', ht'⟩ : ∃ t', ts[i]? = some t' := ⟨_, List.getElem?_eq_getElem (by have := (List.getElem?_eq_some_iff.1 hq).1; omega)⟩
          obtain ⟨y, v, hy, hv, g1, g2, g3⟩ := key i t' ht'
          rw [hq] at hy; cases hy
          rw [getD_of_some hv, getD_of_some (show (zs.map (·.2))[i]? = some q.2 by simp [hq])]
          exact g1
        · simp only [List.getElem?_map, Option.map_eq_some_iff] at hi
          obtain ⟨q, hq, rfl⟩ := hi
          obtain ⟨t', ht'⟩ : ∃ t', ts[i]? = some t' := ⟨_, List.getElem?_eq_getElem (by have := (List.getElem?_eq_some_iff.1 hq).1; omega)⟩
          obtain ⟨y, v, hy, hv, g1, g2, g3⟩ := key i t' ht'
          rw [hq] at hy; cases hy; exact g2
      · simp only [Ty.sub]
        exact hsub ts zs l2 fun i t hi => by obtain ⟨y, v, hy, hv, g1, g2, g3⟩ := key i t hi; exact ⟨y, hy, g3⟩
    | _ => simp [zeroOk] at hz
  | _ =>
    obtain ⟨g1, g2, g3⟩ := zeroTy1_sound (cap := cap) (σ := σ) (by simpa [zeroTy] using h) (by simpa [zeroOk] using hz)
    exact ⟨g1, g3, (Ty.sub_one _ _ g3).1⟩

/-! ## Maps -/

theorem ba_eq {a b : ByteArray} (h : (a == b) = true) : a = b := by
  cases a with | mk x => cases b with | mk y =>
  have : (x == y) = true := h
  rw [eq_of_beq this]
theorem ba_refl (a : ByteArray) : (a == a) = true := by
  cases a with | mk x =>
  show (x == x) = true
  simp

theorem keyTy_cases {P : Program} {K : TypeId} {kt : Ty} (hk : keyTy P K kt = true) :
    (∃ k k', kt = .int k ∧ P.underlying K = some (.int k')) ∨ (kt = .str ∧ P.underlying K = some .string) ∨ (kt = .bool ∧ P.underlying K = some .bool) := by
  unfold keyTy at hk
  split at hk
  · split at hk
    · exact .inl ⟨_, _, rfl, by assumption⟩
    · cases hk
  · split at hk
    · exact .inr (.inl ⟨rfl, by assumption⟩)
    · cases hk
  · split at hk
    · exact .inr (.inr ⟨rfl, by assumption⟩)
    · cases hk
  · cases hk


/-- the place of a key -/
theorem findNow_sound {cap : Nat → Option CSig} {σ : Im} {P : Program} {K : TypeId} {kt : Ty} {desc : TypeDesc} (hk : keyTy P K kt = true) (hu : P.underlying K = some desc) {v : Value} {d : D} (hv : Rep cap σ kt v d) :
    ∀ (es : List MapEntry) (ds : List (D × D)) (i : Nat), ds.length = es.length → (∀ (j : Nat) (e : MapEntry) (p : D × D), es[j]? = some e → ds[j]? = some p → Rep cap σ kt e.key p.1) →
      (Instr.findNow desc v es i = some none ∧ ∀ (j : Nat) (p : D × D), ds[j]? = some p → keyEq d p.1 = false) ∨
      ∃ j e p, es[j]? = some e ∧ ds[j]? = some p ∧ Instr.findNow desc v es i = some (some (i + j, e.val)) ∧ keyEq d p.1 = true ∧ Instr.sameBits 10000 e.key v = true ∧ ∀ m q, m < j → ds[m]? = some q → keyEq d q.1 = false := by
  have hone : ∀ (v' : Value) (d' : D), Rep cap σ kt v' d' → Instr.sameNow desc v v' = some (keyEq d d') ∧ (keyEq d d' = true → Instr.sameBits 10000 v' v = true) := by
    intro v' d' h'
    rcases keyTy_cases hk with ⟨k, k', rfl, hu'⟩ | ⟨rfl, hu'⟩ | ⟨rfl, hu'⟩
    · rw [hu] at hu'
      cases hu'
      obtain ⟨n, rfl, rfl, _⟩ := hv.int_inv
      obtain ⟨m, rfl, rfl, _⟩ := h'.int_inv
      refine ⟨by simp [Instr.sameNow, keyEq, D.cells, keyEqs, keyEq1], fun e => ?_⟩
      have : n = m := by simpa [keyEq, D.cells, keyEqs, keyEq1] using e
      subst this
      simp [Instr.sameBits]
    · rw [hu] at hu'
      cases hu'
      obtain ⟨n, rfl, rfl, _⟩ := hv.str_inv
      obtain ⟨m, rfl, rfl, _⟩ := h'.str_inv
      refine ⟨by simp [Instr.sameNow, keyEq, D.cells, keyEqs, keyEq1], fun e => ?_⟩
      have : n = m := ba_eq (by simpa [keyEq, D.cells, keyEqs, keyEq1] using e)
      subst this
      simpa [Instr.sameBits] using ba_refl n
    · rw [hu] at hu'
      cases hu'
      obtain ⟨n, rfl, rfl⟩ := hv.bool_inv
      obtain ⟨m, rfl, rfl⟩ := h'.bool_inv
      refine ⟨by simp [Instr.sameNow, keyEq, D.cells, keyEqs, keyEq1], fun e => ?_⟩
      have : n = m := by simpa [keyEq, D.cells, keyEqs, keyEq1] using e
      subst this
      simp [Instr.sameBits]
  intro es
  induction es with
  | nil => intro ds i hl _; left; exact ⟨rfl, by cases ds <;> simp_all⟩
  | cons e es ih =>
    intro ds i hl hall
    cases ds with
    | nil => simp at hl
    | cons p ds =>
      obtain ⟨hs, hb⟩ := hone e.key p.1 (hall 0 e p rfl rfl)
      cases hke : keyEq d p.1 with
      | true =>
        right
        rw [hke] at hs
        exact ⟨0, e, p, rfl, rfl, by simp [Instr.findNow, hs], hke, hb hke, fun m q hm => by omega⟩
      | false =>
        rw [hke] at hs
        rcases ih ds (i + 1) (by simpa using hl) (fun j e' p' he hp => hall (j + 1) e' p' (by simpa using he) (by simpa using hp)) with ⟨h1, h2⟩ | ⟨j, e', p', h1, h2, h3, h4, h5, h6⟩
        · left
          refine ⟨by simp [Instr.findNow, hs, h1], fun j q hq => ?_⟩
          cases j with
          | zero => simp at hq; subst hq; exact hke
          | succ j => exact h2 j q (by simpa using hq)
        · right
          refine ⟨j + 1, e', p', by simpa using h1, by simpa using h2, ?_, h4, h5, fun m q hm hq => ?_⟩
          · simp [Instr.findNow, hs, h3]; omega
          · cases m with
            | zero => simp at hq; subst hq; exact hke
            | succ m => exact h6 m q (by omega) (by simpa using hq)

theorem lookM_none {d : D} : ∀ {ds : List (D × D)}, (∀ (j : Nat) (p : D × D), ds[j]? = some p → keyEq d p.1 = false) → lookM d ds = none
  | [], _ => rfl
  | p :: ds, h => by simp only [lookM, h 0 p rfl]; exact lookM_none fun j q hq => h (j + 1) q (by simpa using hq)
theorem lookM_some {d : D} : ∀ {ds : List (D × D)} {j : Nat} {p : D × D}, ds[j]? = some p → keyEq d p.1 = true → (∀ (m : Nat) (q : D × D), m < j → ds[m]? = some q → keyEq d q.1 = false) → lookM d ds = some p.2
  | [], j, p, hp, _, _ => by simp at hp
  | x :: ds, 0, p, hp, hk, _ => by simp at hp; subst hp; simp [lookM, hk]
  | x :: ds, j + 1, p, hp, hk, hm => by
    simp only [lookM, hm 0 x (by omega) rfl]
    exact lookM_some (j := j) (by simpa using hp) hk fun m q hlt hq => hm (m + 1) q (by omega) (by simpa using hq)
theorem putM_none {d v : D} : ∀ {ds : List (D × D)}, (∀ (j : Nat) (p : D × D), ds[j]? = some p → keyEq d p.1 = false) → putM d v ds = ds ++ [(d, v)]
  | [], _ => rfl
  | p :: ds, h => by simp only [putM, h 0 p rfl, Bool.false_eq_true, if_false, List.cons_append]; rw [putM_none fun j q hq => h (j + 1) q (by simpa using hq)]
theorem putM_some {d v : D} : ∀ {ds : List (D × D)} {j : Nat} {p : D × D}, ds[j]? = some p → keyEq d p.1 = true → (∀ (m : Nat) (q : D × D), m < j → ds[m]? = some q → keyEq d q.1 = false) → putM d v ds = ds.set j (d, v)
  | [], j, p, hp, _, _ => by simp at hp
  | x :: ds, 0, p, hp, hk, _ => by simp at hp; subst hp; simp [putM, hk]
  | x :: ds, j + 1, p, hp, hk, hm => by
    simp only [putM, hm 0 x (by omega) rfl, Bool.false_eq_true, if_false, List.set_cons_succ]
    rw [putM_some (j := j) (by simpa using hp) hk fun m q hlt hq => hm (m + 1) q (by omega) (by simpa using hq)]

theorem keyTyA_cases {P : Program} {K : TypeId} {kt : Ty} (hk : keyTyA P K kt = true) :
    ∃ k k' e q i, kt = .agg [.int k, .int k'] ∧ P.underlying K = some (.array 2 e) ∧ P.underlying e = some (.int q) ∧ P.plainKey e = true ∧ P.info? e = some i ∧ P.cellsOf e = 1 := by
  unfold keyTyA at hk
  split at hk
  case h_2 => cases hk
  rename_i k k'
  split at hk
  case h_2 => cases hk
  rename_i n e hu
  simp only [Bool.and_eq_true] at hk
  obtain ⟨⟨⟨h1, h2⟩, h3⟩, h4⟩ := hk
  have hn := Nat.eq_of_beq_eq_true h1
  subst hn
  split at h2
  case h_2 => cases h2
  rename_i q hq
  split at h4
  case h_2 => cases h4
  rename_i i hi
  exact ⟨k, k', e, q, i, rfl, hu, hq, h3, hi, Nat.eq_of_beq_eq_true h4⟩

theorem Rep.pair_inv {cap : Nat → Option CSig} {σ : Im} {k k' : IntKind} {v : Value} {d : D} (h : Rep cap σ (.agg [.int k, .int k']) v d) : ∃ a b, v = .agg #[.int k a, .int k' b] ∧ d = .agg [.v (.int k a), .v (.int k' b)] := by
  generalize ht : Ty.agg [.int k, .int k'] = t at h
  cases h with
  | agg ts vs ds h1 h2 h ho =>
    cases ht
    obtain ⟨x, y, rfl⟩ : ∃ x y, vs = [x, y] := by
      match vs, h1 with
      | [x, y], _ => exact ⟨x, y, rfl⟩
    obtain ⟨p, q, rfl⟩ : ∃ x y, ds = [x, y] := by
      match ds, h2 with
      | [x, y], _ => exact ⟨x, y, rfl⟩
    obtain ⟨a, e1, e2, _⟩ := (h 0 _ rfl).int_inv
    obtain ⟨b, e3, e4, _⟩ := (h 1 _ rfl).int_inv
    simp at e1 e2 e3 e4
    subst e1 e2 e3 e4
    exact ⟨a, b, rfl, rfl⟩
  | _ => cases ht

theorem run_equal_pair {P : Program} {K e : TypeId} {q : IntKind} {i : TypeInfo} (hu : P.underlying K = some (.array 2 e)) (hq : P.underlying e = some (.int q)) (hp : P.plainKey e = true) (hi : P.info? e = some i) (hc : P.cellsOf e = 1) (k k' : IntKind) (a b c d : Int) (w : World) :
    (Op.equal K (.agg #[.int k a, .int k' b]) (.agg #[.int k c, .int k' d])).run P w = .ok (a == c && b == d) w := by
  unfold Op.equal
  show (Op.equalIn (9999 + 1) K _ _).run P w = _
  rw [run_equalIn_array w 9999 _ _ hu hi, hc]
  have e0 : List.range 2 = [0, 1] := rfl
  have p0 : ∀ (x y : Value) (w : World), (part e #[x, y] 0).run P w = .ok x w := fun x y w => run_part_plain w hp rfl
  have p1 : ∀ (x y : Value) (w : World), (part e #[x, y] 1).run P w = .ok y w := fun x y w => run_part_plain w hp rfl
  have q0 : ∀ (k : IntKind) (a b : Int) (w : World), (Op.equalIn 9999 e (.int k a) (.int k b)).run P w = .ok (a == b) w := fun k a b w => run_equalIn_int w 9998 e k q a b hq
  rw [e0]
  simp only [Op.eqItems, Sem.run_bind, Nat.zero_mul, Nat.one_mul, p0, p1, Result.andThen_ok, q0]
  cases a == c
  · simp
  · simp only [Bool.not_true, Bool.false_eq_true, if_false, Sem.run_bind, p1, Result.andThen_ok, q0]
    cases b == d <;> simp

theorem keyOK_cases {P : Program} {K : TypeId} {kt : Ty} (hk : keyOK P K kt = true) : keyTy P K kt = true ∨ keyTyA P K kt = true := by
  unfold keyOK at hk; simpa using hk

theorem checkKey_runA {cap : Nat → Option CSig} {σ : Im} {P : Program} {K : TypeId} {kt : Ty} (hk : keyTyA P K kt = true) {v : Value} {d : D} (hv : Rep cap σ kt v d) {w : World} {b : Bool} : (Instr.checkKey b 10000 K v).run P w = .ok () w := by
  obtain ⟨k, k', e, q, i, rfl, hu, hq, hp, hi, hc⟩ := keyTyA_cases hk
  obtain ⟨x, y, rfl, _⟩ := hv.pair_inv
  have p0 : ∀ (x y : Value) (w : World), (part e #[x, y] 0).run P w = .ok x w := fun x y w => run_part_plain w hp rfl
  have p1 : ∀ (x y : Value) (w : World), (part e #[x, y] 1).run P w = .ok y w := fun x y w => run_part_plain w hp rfl
  have c0 : ∀ (m : Nat) (k : IntKind) (n : Int) (w : World), (Instr.checkKey b (m + 1) e (.int k n)).run P w = .ok () w := fun m k n w => by
    simp [Instr.checkKey, run_underlying hq]
  have s0 : ∀ w : World, (Go.sizeOf e).run P w = Result.ok 1 w := fun w => by rw [run_sizeOf w hi, hc]
  have main : ∀ m, (Instr.checkKey b (m + 1 + 1) K (.agg #[.int k x, .int k' y])).run P w = .ok () w := by
    intro m
    rw [Instr.checkKey]
    simp only [Sem.run_bind, run_underlying hu, Result.andThen_ok, Std.Legacy.Range.forIn_eq_forIn_range', Std.Legacy.Range.size, Nat.sub_zero, Nat.add_one_sub_one, Nat.div_one]
    simp [List.range', s0, p0, p1, c0, Sem.run_bind, Result.andThen_ok]
  exact main 9998

theorem checkKey_run {cap : Nat → Option CSig} {σ : Im} {P : Program} {K : TypeId} {kt : Ty} (hk : keyOK P K kt = true) {v : Value} {d : D} (hv : Rep cap σ kt v d) {w : World} {b : Bool} : (Instr.checkKey b 10000 K v).run P w = .ok () w := by
  rcases keyOK_cases hk with hk | hk
  case inr => exact checkKey_runA hk hv
  have : ∀ n, (Instr.checkKey b (n + 1) K v).run P w = .ok () w := by
    intro n
    rcases keyTy_cases hk with ⟨k, k', rfl, hu⟩ | ⟨rfl, hu⟩ | ⟨rfl, hu⟩ <;> cases v <;> simp [Instr.checkKey, run_underlying hu]
  exact this 9999

section
variable {C : Ctx} {S : St} {ρ : Env} {σ : Im} {own : Nat → Option Nat} {hv : Nat → Value} {w0 : World} {σ0 : Base} {A : Nat → Prop} {a : Act} {w : World} {gs : List (Nat × Bool)} {Φ : Funs} {dst : Nat}

theorem keyTy_desc {P : Program} {K : TypeId} {kt : Ty} (hk : keyTy P K kt = true) : ∃ desc, P.underlying K = some desc := by
  rcases keyTy_cases hk with ⟨k, k', rfl, hu⟩ | ⟨rfl, hu⟩ | ⟨rfl, hu⟩ <;> exact ⟨_, hu⟩

/-- What a lookup finds. -/
theorem run_findKeyA {cap : Nat → Option CSig} {P : Program} {K : TypeId} {kt et : Ty} (hk : keyTyA P K kt = true) {v : Value} {d : D} (hv : Rep cap σ kt v d) (arr : Array MapEntry) (ds : List (D × D)) (hl : ds.length = arr.size)
    (hall : ∀ (j : Nat) (e : MapEntry) (p : D × D), arr[j]? = some e → ds[j]? = some p → Rep cap σ kt e.key p.1 ∧ Rep cap σ et e.val p.2) (w : World) :
    ((Instr.findKey K v arr.toList).run P w = .ok none w ∧ lookM d ds = none ∧ ∀ u, putM d u ds = ds ++ [(d, u)]) ∨
    ∃ j e p, arr[j]? = some e ∧ ds[j]? = some p ∧ (Instr.findKey K v arr.toList).run P w = .ok (some (j, e.val)) w ∧ lookM d ds = some p.2 ∧ (∀ u, putM d u ds = ds.set j (d, u)) ∧ Instr.sameBits 10000 e.key v = true := by
  obtain ⟨k, k', e, q, i, rfl, hu, hq, hp, hi, hc⟩ := keyTyA_cases hk
  have hone : ∀ (v' : Value) (d' : D), Rep cap σ (.agg [.int k, .int k']) v' d' → (Op.equal K v v').run P w = .ok (keyEq d d') w ∧ (keyEq d d' = true → Instr.sameBits 10000 v' v = true) ∧ Instr.sameNow (.array 2 e) v v' = none := by
    intro v' d' h'
    obtain ⟨a, b, rfl, rfl⟩ := hv.pair_inv
    obtain ⟨a', b', rfl, rfl⟩ := h'.pair_inv
    refine ⟨?_, fun he => ?_, rfl⟩
    · rw [run_equal_pair hu hq hp hi hc]
      simp [keyEq, D.cells, keyEqs, keyEq1]
    · have : a = a' ∧ b = b' := by simpa [keyEq, D.cells, keyEqs, keyEq1] using he
      obtain ⟨rfl, rfl⟩ := this
      simp [Instr.sameBits]
  have ask : ∀ (es : List MapEntry) (ds : List (D × D)) (i : Nat), ds.length = es.length → (∀ (j : Nat) (e : MapEntry) (p : D × D), es[j]? = some e → ds[j]? = some p → Rep cap σ (.agg [.int k, .int k']) e.key p.1) →
      ((Instr.findAsking K v es i).run P w = .ok none w ∧ ∀ (j : Nat) (p : D × D), ds[j]? = some p → keyEq d p.1 = false) ∨
      ∃ j e p, es[j]? = some e ∧ ds[j]? = some p ∧ (Instr.findAsking K v es i).run P w = .ok (some (i + j, e.val)) w ∧ keyEq d p.1 = true ∧ Instr.sameBits 10000 e.key v = true ∧ ∀ m q, m < j → ds[m]? = some q → keyEq d q.1 = false := by
    intro es
    induction es with
    | nil => intro ds i hl _; left; exact ⟨by simp [Instr.findAsking], by cases ds <;> simp_all⟩
    | cons en es ih =>
      intro ds i hl hall
      cases ds with
      | nil => simp at hl
      | cons p ds =>
        obtain ⟨hs, hb, _⟩ := hone en.key p.1 (hall 0 en p rfl rfl)
        cases hke : keyEq d p.1 with
        | true =>
          right
          rw [hke] at hs
          exact ⟨0, en, p, rfl, rfl, by simp [Instr.findAsking, hs], hke, hb hke, fun m q hm => by omega⟩
        | false =>
          rw [hke] at hs
          rcases ih ds (i + 1) (by simpa using hl) (fun j e' p' he hp => hall (j + 1) e' p' (by simpa using he) (by simpa using hp)) with ⟨h1, h2⟩ | ⟨j, e', p', h1, h2, h3, h4, h5, h6⟩
          · left
            refine ⟨by simp [Instr.findAsking, hs, h1], fun j q hq => ?_⟩
            cases j with
            | zero => simp at hq; subst hq; exact hke
            | succ j => exact h2 j q (by simpa using hq)
          · right
            refine ⟨j + 1, e', p', by simpa using h1, by simpa using h2, ?_, h4, h5, fun m q hm hq => ?_⟩
            · simp [Instr.findAsking, hs, h3]; omega
            · cases m with
              | zero => simp at hq; subst hq; exact hke
              | succ m => exact h6 m q (by omega) (by simpa using hq)
  have hfk : (Instr.findKey K v arr.toList).run P w = (Instr.findAsking K v arr.toList 0).run P w := by
    cases hes : arr.toList with
    | nil => simp [Instr.findKey, run_underlying hu, Instr.findNow, Instr.findAsking]
    | cons en es =>
      obtain ⟨p, hp0⟩ : ∃ p, ds[0]? = some p := by
        have : 0 < ds.length := by rw [hl]; have := congrArg List.length hes; simp at this; omega
        exact ⟨_, List.getElem?_eq_getElem this⟩
      have hen : arr[0]? = some en := by rw [← Array.getElem?_toList, hes]; rfl
      have := (hone en.key p.1 (hall 0 en p hen hp0).1).2.2
      simp [Instr.findKey, run_underlying hu, Instr.findNow, this]
  rw [hfk]
  rcases ask arr.toList ds 0 (by simpa using hl) (fun j e p he hp => (hall j e p (by simpa using he) hp).1) with ⟨h1, h2⟩ | ⟨j, e, p, h1, h2, h3, h4, h5, h6⟩
  · left
    exact ⟨h1, lookM_none h2, fun u => putM_none h2⟩
  · right
    simp only [Nat.zero_add] at h3
    exact ⟨j, e, p, by simpa using h1, h2, h3, lookM_some h2 h4 h6, fun u => putM_some h2 h4 h6, h5⟩

theorem run_findKey {cap : Nat → Option CSig} {P : Program} {K : TypeId} {kt et : Ty} (hk0 : keyOK P K kt = true) {v : Value} {d : D} (hv : Rep cap σ kt v d) (arr : Array MapEntry) (ds : List (D × D)) (hl : ds.length = arr.size)
    (hall : ∀ (j : Nat) (e : MapEntry) (p : D × D), arr[j]? = some e → ds[j]? = some p → Rep cap σ kt e.key p.1 ∧ Rep cap σ et e.val p.2) (w : World) :
    ((Instr.findKey K v arr.toList).run P w = .ok none w ∧ lookM d ds = none ∧ ∀ u, putM d u ds = ds ++ [(d, u)]) ∨
    ∃ j e p, arr[j]? = some e ∧ ds[j]? = some p ∧ (Instr.findKey K v arr.toList).run P w = .ok (some (j, e.val)) w ∧ lookM d ds = some p.2 ∧ (∀ u, putM d u ds = ds.set j (d, u)) ∧ Instr.sameBits 10000 e.key v = true := by
  rcases keyOK_cases hk0 with hk | hk
  case inr => exact run_findKeyA hk hv arr ds hl hall w
  obtain ⟨desc, hu⟩ := keyTy_desc hk
  rcases findNow_sound hk hu hv arr.toList ds 0 (by simpa using hl) (fun j e p he hp => (hall j e p (by simpa using he) hp).1) with ⟨h1, h2⟩ | ⟨j, e, p, h1, h2, h3, h4, h5, h6⟩
  · left
    exact ⟨by simp [Instr.findKey, run_underlying hu, h1], lookM_none h2, fun u => putM_none h2⟩
  · right
    refine ⟨j, e, p, by simpa using h1, h2, ?_, lookM_some h2 h4 h6, fun u => putM_some h2 h4 h6, h5⟩
    simp only [Nat.zero_add] at h3
    simp [Instr.findKey, run_underlying hu, h3]

theorem opLookup_sound (h : Inv C S ρ σ own hv w0 σ0 A a w) (hC : CtxOK C σ0) (hg : holds gs ρ = true) {T : TypeId} {m k : Operand} {ok : Bool} {r : Sh × List PI} (hr : opLookup C S gs dst T m k ok = some r) {o : Oper} (ho : o.op = .lookup T m k ok) :
    QOK C S ρ σ hv Φ dst a w o r := by
  unfold opLookup at hr
  split at hr
  case h_2 => cases hr
  rename_i K E hT
  simp only [Option.bind_eq_some_iff] at hr
  obtain ⟨p, hp, q, hq, hr⟩ := hr
  have hp' := view_sound h hC hg hp
  have hq' := use_sound h hC hg hq
  split at hr
  case h_2 => cases hr
  rename_i kt et e1
  rw [e1] at hp'
  split at hr
  case h_2 => cases hr
  rename_i z inf hz hinf
  cases hc : (Ty.beq q.1 kt && keyOK C.P K kt && Ty.sub z.1 et && zeroIs inf et) <;> simp only [hc, cond_true, cond_false] at hr
  · cases hr
  simp only [Bool.and_eq_true] at hc
  obtain ⟨⟨⟨hkt, hkey⟩, hsub⟩, hzero⟩ := hc
  rw [Ty.beq_eq _ _ hkt] at hq'
  obtain ⟨v0, hv0, hzr⟩ : ∃ v0, inf.zero = some v0 ∧ Rep C.cap σ et v0 z.2 := by
    unfold zeroIs at hzero
    split at hzero
    · rename_i v0 e0; exact ⟨v0, e0, (zeroTy_sound hz hzero).1.sub hsub⟩
    · cases hzero
  -- the entries
  have hent : ∃ (arr : Array MapEntry) (ds : List (D × D)), (p.2.ev ρ).m = ds ∧ ds.length = arr.size ∧
      (∀ (j : Nat) (e : MapEntry) (p : D × D), arr[j]? = some e → ds[j]? = some p → Rep C.cap σ kt e.key p.1 ∧ Rep C.cap σ et e.val p.2) ∧
      ((a.eval m = .map none ∧ arr = #[]) ∨ ∃ g clock, a.eval m = .map (some g) ∧ w.heap[g]? = some (.map arr clock)) := by
    rcases hp' with hp' | ⟨T', e, cells, xs, ht, _⟩ | ⟨g, arr, clock, es, kt', et', ht, hvm, hb, hd, hl, hx, hall⟩
    · generalize hvv : a.eval m = v at hp'
      generalize hdd : p.2.ev ρ = d at hp'
      cases hp' with
      | mapnil => exact ⟨#[], [], by simp [D.m], rfl, by simp, .inl ⟨rfl, rfl⟩⟩
      | map kt et r ves es hm hl hx hk he =>
        obtain ⟨_, arr, clock, hb, hes⟩ := (h.ok.m _ _ hm).resolve_right (fun e => not_dfr hl hk e.1)
        have hn : es.length = arr.size := by rw [hl, ← hes]; simp [entriesOf]
        refine ⟨arr, es, by simp [D.m], hn, fun j e p hj hp => ?_, .inr ⟨r, clock, rfl, hb⟩⟩
        have : ves[j]? = some (e.key, e.val) := by rw [← hes]; simp [entriesOf, hj]
        exact ⟨hk j _ p this hp, he j _ p this hp⟩
    · cases ht
    · cases ht
      exact ⟨arr, es, by rw [hd]; rfl, hl, hall, .inr ⟨g, clock, hvm, hb⟩⟩
  obtain ⟨arr, ds, hd, hl, hall, hval⟩ := hent
  have hck : ∀ b, (Instr.checkKey b 10000 K (a.eval k)).run C.P w = .ok () w := fun b => checkKey_run (cap := C.cap) (σ := σ) hkey hq'
  have hmain : ∃ u b x, (Instr.lookup T (a.eval m) (a.eval k) ok).run C.P w = .ok (if ok then .tuple #[u, .bool b] else u) w ∧ (lookM (q.2.ev ρ) (p.2.ev ρ).m).getD z.2 = x ∧ (lookM (q.2.ev ρ) (p.2.ev ρ).m).isSome = b ∧ Rep C.cap σ et u x := by
    rw [hd]
    rcases run_findKey hkey hq' arr ds hl hall w with ⟨h1, h2, _⟩ | ⟨j, e, x, h1, h2, h3, h4, _, _⟩
    · refine ⟨v0, false, z.2, ?_, by rw [h2]; rfl, by rw [h2]; rfl, hzr⟩
      rcases hval with ⟨em, rfl⟩ | ⟨g, clock, em, hb⟩
      · simp only [List.toList_toArray] at h1
        cases ok <;> simp [Instr.lookup, run_underlying hT, em, hck, h1, zeroValue, run_typeInfo w hinf, hv0]
      · cases ok <;> simp [Instr.lookup, run_underlying hT, em, getObj, Sem.run, hb, hck, h1, zeroValue, run_typeInfo w hinf, hv0]
    · refine ⟨e.val, true, x.2, ?_, by rw [h4]; rfl, by rw [h4]; rfl, (hall j e x h1 h2).2⟩
      rcases hval with ⟨em, rfl⟩ | ⟨g, clock, em, hb⟩
      · simp at h1
      · cases ok <;> simp [Instr.lookup, run_underlying hT, em, getObj, Sem.run, hb, hck, h3]
  obtain ⟨u, b, x, hrun, hx1, hx2, hrep⟩ := hmain
  cases ok with
  | true =>
    simp only [cond_true] at hr
    cases hr
    refine .dat (v := .tuple #[u, .bool b]) (by simp [execOp, ho, hrun]) ?_
    simp only [PE.ev, PE.evs, hx1, hx2]
    refine .tup [et, .bool] [u, .bool b] [x, .v (.bool b)] rfl rfl (fun i t hi => ?_)
    match i, hi with
    | 0, hi => simp at hi; subst hi; exact hrep
    | 1, hi => simp at hi; subst hi; exact .bool b
    | i + 2, hi => simp at hi
  | false =>
    simp only [cond_false] at hr
    cases hr
    refine .dat (v := u) (by simp [execOp, ho, hrun]) ?_
    simp only [PE.ev, hx1]
    exact hrep
end
end Cx
