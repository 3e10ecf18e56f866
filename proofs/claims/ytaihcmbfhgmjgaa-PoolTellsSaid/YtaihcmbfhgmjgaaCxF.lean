/-
  The quiet operations do what they are said to do (second part): each operation.
-/
import Derived.Test.YtaihcmbfhgmjgaaCxE
set_option linter.unusedSimpArgs false
set_option linter.unusedVariables false
namespace Cx
open Go Go.RowKit

theorem Rep.int_inv {cap : Nat → Option CSig} {σ : Im} {k : IntKind} {v : Value} {d : D} (h : Rep cap σ (.int k) v d) : ∃ n, v = .int k n ∧ d = .v (.int k n) ∧ k.min ≤ n ∧ n ≤ k.max := by
  cases h with
  | int k n h1 h2 => exact ⟨n, rfl, rfl, h1, h2⟩
theorem Rep.bool_inv {cap : Nat → Option CSig} {σ : Im} {v : Value} {d : D} (h : Rep cap σ .bool v d) : ∃ b, v = .bool b ∧ d = .v (.bool b) := by
  cases h with
  | bool b => exact ⟨b, rfl, rfl⟩
theorem Rep.str_inv {cap : Nat → Option CSig} {σ : Im} {v : Value} {d : D} (h : Rep cap σ .str v d) : ∃ s, v = .string s ∧ d = .v (.string s) ∧ s.size ≤ maxLen := by
  cases h with
  | str s h => exact ⟨s, rfl, rfl, h⟩
theorem Rep.slice_inv {cap : Nat → Option CSig} {σ : Im} {e : Ty} {v : Value} {d : D} (h : Rep cap σ (.slice e) v d) : ∃ xs, d = .list xs ∧
    (((∃ p, v = .slice p 0 0) ∧ xs = []) ∨ ∃ k o c, v = .slice (some ⟨k, o, none⟩) xs.length c ∧ xs.length ≤ c ∧ c ≤ maxLen ∧
      ∃ vs : Nat → Value, (∀ (i : Nat) (x : D), xs[i]? = some x → Rep cap σ e.unf (vs i) x) ∧ ∀ (i j : Nat) (u : Value), i < xs.length → (vs i).cells[j]? = some u → σ.c k (o + i * e.size + j) = some u) := by
  cases h with
  | nil e => exact ⟨[], rfl, .inl ⟨⟨_, rfl⟩, rfl⟩⟩
  | emp e a => exact ⟨[], rfl, .inl ⟨⟨_, rfl⟩, rfl⟩⟩
  | slice e k o n c xs vs hn hc hm h hv => subst hn; exact ⟨xs, rfl, .inr ⟨k, o, c, rfl, hc, hm, vs, h, hv⟩⟩
theorem Rep.ref_inv {cap : Nat → Option CSig} {σ : Im} {t : Ty} {v : Value} {d : D} (h : Rep cap σ (.ref t) v d) : ∃ k o x y, v = .pointer (some ⟨k, o, none⟩) ∧ d = .ref y ∧ Rep cap σ t x y ∧ ∀ (j : Nat) (u : Value), x.cells[j]? = some u → σ.c k (o + j) = some u := by
  cases h with
  | ref t k o x y h hv => exact ⟨k, o, x, y, rfl, rfl, h, hv⟩
theorem Rep.agg_inv {cap : Nat → Option CSig} {σ : Im} {ts : List Ty} {v : Value} {d : D} (h : Rep cap σ (.agg ts) v d) : ∃ (vs : List Value) (ds : List D), v = .agg vs.toArray ∧ d = .agg ds ∧ vs.length = ts.length ∧ ds.length = ts.length ∧
    (∀ (i : Nat) (t : Ty), ts[i]? = some t → Rep cap σ t (vs.getD i undef) (ds.getD i .none)) ∧ ∀ (i : Nat) (t : Ty), ts[i]? = some t → t.one = true := by
  cases h with
  | agg ts vs ds h1 h2 h ho => exact ⟨vs, ds, rfl, rfl, h1, h2, h, ho⟩
theorem Rep.tup_inv {cap : Nat → Option CSig} {σ : Im} {ts : List Ty} {v : Value} {d : D} (h : Rep cap σ (.tup ts) v d) : ∃ (vs : List Value) (ds : List D), v = .tuple vs.toArray ∧ d = .tup ds ∧ vs.length = ts.length ∧ ds.length = ts.length ∧
    (∀ (i : Nat) (t : Ty), ts[i]? = some t → Rep cap σ t (vs.getD i undef) (ds.getD i .none)) := by
  cases h with
  | tup ts vs ds h1 h2 h => exact ⟨vs, ds, rfl, rfl, h1, h2, h⟩

theorem wrap_bounds (k : IntKind) (n : Int) : k.min ≤ k.wrap n ∧ k.wrap n ≤ k.max := by
  cases k <;> simp only [IntKind.min, IntKind.max, IntKind.wrap, IntKind.signed, IntKind.bits] <;> simp <;> (try split) <;> omega

theorem tmod_bounds (k : IntKind) {a b : Int} (ha : k.min ≤ a ∧ a ≤ k.max) : k.min ≤ a.tmod b ∧ a.tmod b ≤ k.max := by
  have h1 : k.min ≤ 0 := by cases k <;> decide
  have h2 : 0 ≤ k.max := by cases k <;> decide
  have hn : (a.tmod b).natAbs ≤ a.natAbs := by rw [Int.natAbs_tmod]; exact Nat.mod_le _ _
  rcases Int.le_total 0 a with h | h
  · have := Int.tmod_nonneg b h
    omega
  · have : a.tmod b ≤ 0 := by
      have := Int.tmod_nonneg b (a := -a) (by omega)
      rw [Int.neg_tmod] at this; omega
    omega

theorem fdiv_bounds (k : IntKind) {a : Int} (n : Nat) (ha : k.min ≤ a ∧ a ≤ k.max) : k.min ≤ a.fdiv (2 ^ n) ∧ a.fdiv (2 ^ n) ≤ k.max := by
  have h1 : k.min ≤ 0 := by cases k <;> decide
  have h2 : 0 ≤ k.max := by cases k <;> decide
  have hp : (0 : Int) < 2 ^ n := Int.pow_pos (by decide)
  rw [Int.fdiv_eq_ediv_of_nonneg _ (by omega)]
  rcases Int.le_total 0 a with h | h
  · have h3 := Int.ediv_nonneg h (by omega : (0 : Int) ≤ 2 ^ n)
    have h4 := Int.ediv_le_self (b := 2 ^ n) h
    omega
  · have h3 : a / 2 ^ n ≤ 0 := by
      have := Int.ediv_le_ediv hp h
      simpa using this
    have h4 : a ≤ a / 2 ^ n := by
      rw [Int.le_ediv_iff_mul_le hp]
      have : a * 2 ^ n ≤ a * 1 := Int.mul_le_mul_of_nonpos_left h (by omega)
      omega
    omega

section
variable {C : Ctx} {S : St} {ρ : Env} {σ : Im} {own : Nat → Option Nat} {hv : Nat → Value} {w0 : World} {σ0 : Base} {A : Nat → Prop} {a : Act} {w : World} {gs : List (Nat × Bool)} {Φ : Funs} {dst : Nat}

theorem runs1 {e : PE} {ρ' : Env} (h : PI.runs Φ [.setR dst e] ρ = some ρ') : ρ' = ρ.setR dst (e.ev ρ) := by
  simp [PI.runs, PI.run] at h; exact h.symm
theorem runs2 (hg : holds gs ρ = true) {c e : PE} {ρ' : Env} (h : PI.runs Φ [chkG gs c, .setR dst e] ρ = some ρ') : (c.ev ρ).b = true ∧ ρ' = ρ.setR dst (e.ev ρ) := by
  simp only [PI.runs, PI.run, chkG] at h
  cases hgs : gs with
  | nil =>
    subst hgs
    simp only at h
    cases hb : (c.ev ρ).b <;> simp [hb] at h
    exact ⟨rfl, h.symm⟩
  | cons g r =>
    rw [hgs] at h
    simp only at h
    rw [hgs] at hg
    cases hb : (c.ev ρ).b
    · simp [PE.ev, hg, hb, D.b_bool] at h
    · simp [PE.ev, hg, hb, D.b_bool] at h
      exact ⟨rfl, h.symm⟩

/-- What is owed for a quiet operation. -/
def QOK (C : Ctx) (S : St) (ρ : Env) (σ : Im) (hv : Nat → Value) (Φ : Funs) (dst : Nat) (a : Act) (w : World) (o : Oper) (r : Sh × List PI) : Prop :=
  ∀ ρ', PI.runs Φ r.2 ρ = some ρ' → ∃ v d, ρ' = ρ.setR dst d ∧ (execOp a.eval o).run C.P w = .ok (.value v) w ∧ CellOK C S ρ σ hv r.1 v d ∧ ∀ gs s, r.1 ≠ .opt gs s

theorem QOK.dat {o : Oper} {t : Ty} {e : PE} {v : Value} (hx : (execOp a.eval o).run C.P w = .ok (.value v) w) (hr : Rep C.cap σ t v (e.ev ρ)) :
    QOK C S ρ σ hv Φ dst a w o (.dat t, [.setR dst e]) := by
  intro ρ' h
  exact ⟨v, e.ev ρ, runs1 h, hx, hr, fun _ _ e => by cases e⟩
theorem QOK.datc (hg : holds gs ρ = true) {o : Oper} {t : Ty} {c e : PE} (hx : (c.ev ρ).b = true → ∃ v, (execOp a.eval o).run C.P w = .ok (.value v) w ∧ Rep C.cap σ t v (e.ev ρ)) :
    QOK C S ρ σ hv Φ dst a w o (.dat t, [chkG gs c, .setR dst e]) := by
  intro ρ' h
  obtain ⟨hb, he⟩ := runs2 hg h
  obtain ⟨v, h1, h2⟩ := hx hb
  exact ⟨v, e.ev ρ, he, h1, h2, fun _ _ e => by cases e⟩

theorem opMove_sound (h : Inv C S ρ σ own hv w0 σ0 A a w) (hC : CtxOK C σ0) (hg : holds gs ρ = true) {x : Operand} {r : Sh × List PI} (hr : opMove C S gs dst x = some r) {o : Oper} (ho : o.op = .move x ∨ o.op = .assign x) :
    QOK C S ρ σ hv Φ dst a w o r := by
  have hx : (execOp a.eval o).run C.P w = .ok (.value (a.eval x)) w := by rcases ho with ho | ho <;> simp [execOp, ho, Sem.run, pure]
  unfold opMove at hr
  split at hr
  · rename_i y hy
    cases hr
    exact .dat hx (use_sound h hC hg hy)
  · split at hr
    · rename_i t _
      obtain ⟨hs, hn⟩ := shR_sound h hg t
      split at hr
      · cases hr
      · cases hr
      · cases hr
        intro ρ' h'
        exact ⟨_, _, runs1 h', hx, hs, hn⟩
    · cases hr

theorem opPick_sound (h : Inv C S ρ σ own hv w0 σ0 A a w) (hC : CtxOK C σ0) (hg : holds gs ρ = true) {c x y : Operand} {r : Sh × List PI} (hr : opPick C S gs dst c x y = some r) {o : Oper} (ho : o.op = .pick c x y) :
    QOK C S ρ σ hv Φ dst a w o r := by
  unfold opPick at hr
  split at hr
  · rename_i t
    split at hr
    · rename_i es
      obtain ⟨hs, _⟩ := shR_sound h hg t
      rw [es] at hs
      obtain ⟨b, hv1, hd1⟩ := Rep.bool_inv hs
      simp only [Option.bind_eq_some_iff] at hr
      obtain ⟨q1, h1, q2, h2, hr⟩ := hr
      cases hb : Ty.beq q1.1 q2.1 <;> simp only [hb, cond_true, cond_false] at hr
      · cases hr
      · cases hr
        have e2 := Ty.beq_eq _ _ hb
        have hrun : (execOp a.eval o).run C.P w = .ok (.value (if b then a.eval x else a.eval y)) w := by
          have : a.eval (.tmp t) = .bool b := hv1
          simp [execOp, ho, this, asBool, Sem.run, pure, bind, Sem.bind]
        refine .dat hrun ?_
        show Rep C.cap σ q1.1 _ (bif (ρ.r t).b then q1.2.ev ρ else q2.2.ev ρ)
        have hb' : (ρ.r t).b = b := by rw [hd1]; rfl
        cases b with
        | true =>
          simp only [hb', cond_true, if_true]
          exact use_sound h hC (by simp only [holds, List.all_cons, hb']; exact hg) h1
        | false =>
          simp only [hb', cond_false]
          rw [e2]
          exact use_sound h hC (by simp only [holds, List.all_cons, hb']; exact hg) h2
    · cases hr
  · cases hr

theorem run_bin {op : BinOp} {T T' : TypeId} {x y : Operand} {v v' : Value} {o : Oper} (ho : o.op = .binOp op T x y T') (hv : a.eval x = v) (hv' : a.eval y = v') (h1 : ∀ u, v ≠ .agg u) (h2 : v ≠ .nilIface) :
    (execOp a.eval o).run C.P w = ((binOp op T v v').bind fun r => .pure (.value r)).run C.P w := by
  have he : eqGuard op T x y v v' = .pure () := by
    cases v <;> first | (exact absurd rfl h2) | (exact absurd rfl (h1 _)) | (cases op <;> simp [eqGuard] <;> rfl)
  simp only [execOp, ho, hv, hv', he]
  rfl

theorem eqFs_sound {P : Program} {cap : Nat → Option CSig} {σ : Im} {ρ : Env} {x y : PE} {X Y : List D} (w : World) (hx : x.ev ρ = .agg X) (hy : y.ev ρ = .agg Y) {vs us : List Value} (d : Nat) :
    ∀ (fs : List Field) (i : Nat) (ts : List Ty) (e : PE), eqFs P x y fs i ts = some e → (∀ j t, ts[j]? = some t → Rep cap σ t (vs.getD (i + j) undef) (X.getD (i + j) .none) ∧ Rep cap σ t (us.getD (i + j) undef) (Y.getD (i + j) .none)) →
      i + ts.length ≤ vs.length → i + ts.length ≤ us.length →
      ∃ b, e.ev ρ = .v (.bool b) ∧ (Op.eqFields (d + 1) vs.toArray us.toArray fs).run P w = .ok b w := by
  intro fs
  induction fs with
  | nil =>
    intro i ts e h _ _ _
    cases ts with
    | nil => simp only [eqFs, Option.some.injEq] at h; subst h; exact ⟨true, rfl, rfl⟩
    | cons t ts => simp [eqFs] at h
  | cons f fs ih =>
    intro i ts e h hr l1 l2
    cases ts with
    | nil => simp [eqFs] at h
    | cons t ts =>
      simp only [eqFs] at h
      cases hc : ((f.name != "_") && Nat.beq f.offset i && keyTy P f.type t && P.plainKey f.type) <;> simp only [hc, cond_true, cond_false] at h
      · cases h
      simp only [Bool.and_eq_true, bne_iff_ne, ne_eq] at hc
      obtain ⟨⟨⟨hn, ho⟩, hk⟩, hp⟩ := hc
      have ho := Nat.eq_of_beq_eq_true ho
      simp only [Option.bind_eq_some_iff, Option.map_eq_some_iff] at h
      obtain ⟨e1, he1, r, hr2, rfl⟩ := h
      obtain ⟨b2, hb2, hrun2⟩ := ih (i + 1) ts r hr2 (fun j t hj => by
        have := hr (j + 1) t (by simpa using hj)
        rwa [show i + (j + 1) = i + 1 + j by omega] at this) (by simp at l1; omega) (by simp at l2; omega)
      obtain ⟨g1, g2⟩ := hr 0 t rfl
      rw [Nat.add_zero] at g1 g2
      simp only [List.length_cons] at l1 l2
      have hvi : vs.toArray[f.offset]? = some (vs.getD i undef) := by rw [ho]; simp [List.getD_eq_getElem?_getD, show i < vs.length by omega]
      have hui : us.toArray[f.offset]? = some (us.getD i undef) := by rw [ho]; simp [List.getD_eq_getElem?_getD, show i < us.length by omega]
      have p1 := run_part_plain (P := P) (w := w) hp hvi
      have p2 := run_part_plain (P := P) (w := w) hp hui
      have ex : (PE.cell x i).ev ρ = X.getD i .none := by simp only [PE.ev, hx]; rfl
      have ey : (PE.cell y i).ev ρ = Y.getD i .none := by simp only [PE.ev, hy]; rfl
      have main : ∃ b1, e1.ev ρ = .v (.bool b1) ∧ (Op.equalIn (d + 1) f.type (vs.getD i undef) (us.getD i undef)).run P w = .ok b1 w := by
        cases t with
        | int k =>
          obtain ⟨n, v1, d1, _⟩ := g1.int_inv
          obtain ⟨m, v2, d2, _⟩ := g2.int_inv
          simp only [eqT, Option.some.injEq] at he1; subst he1
          have hu : ∃ k', P.underlying f.type = some (.int k') := by
            simp only [keyTy] at hk; split at hk
            · exact ⟨_, by assumption⟩
            · cases hk
          obtain ⟨k', hu⟩ := hu
          exact ⟨n == m, by simp only [PE.ev, hx, hy]; show D.v (.bool (cmI .eql (X.getD i .none).i (Y.getD i .none).i)) = _; rw [d1, d2]; rfl, by rw [v1, v2]; exact run_equalIn_int w d f.type k k' n m hu⟩
        | bool =>
          obtain ⟨n, v1, d1⟩ := g1.bool_inv
          obtain ⟨m, v2, d2⟩ := g2.bool_inv
          simp only [eqT, Option.some.injEq] at he1; subst he1
          have hu : P.underlying f.type = some .bool := by
            simp only [keyTy] at hk; split at hk
            · assumption
            · cases hk
          exact ⟨n == m, by simp only [PE.ev, hx, hy]; show D.v (.bool (cmB .eql (X.getD i .none).b (Y.getD i .none).b)) = _; rw [d1, d2]; rfl, by rw [v1, v2]; exact run_equalIn_bool' w d f.type n m hu⟩
        | str =>
          obtain ⟨n, v1, d1, _⟩ := g1.str_inv
          obtain ⟨m, v2, d2, _⟩ := g2.str_inv
          simp only [eqT, Option.some.injEq] at he1; subst he1
          have hu : P.underlying f.type = some .string := by
            simp only [keyTy] at hk; split at hk
            · assumption
            · cases hk
          exact ⟨n.toList == m.toList, by simp only [PE.ev, hx, hy]; show D.v (.bool (cmS .eql (X.getD i .none).s (Y.getD i .none).s)) = _; rw [d1, d2]; rfl, by rw [v1, v2]; exact run_equalIn_string w d f.type n m hu⟩
        | _ => simp [eqT] at he1
      obtain ⟨b1, hb1, hrun1⟩ := main
      refine ⟨b1 && b2, by simp only [PE.ev, hb1, hb2]; rfl, ?_⟩
      simp only [Op.eqFields, if_pos hn, Sem.run_bind, p1, p2, hrun1, Result.andThen_ok]
      cases b1
      · rfl
      · simpa using hrun2

theorem opBin_sound (h : Inv C S ρ σ own hv w0 σ0 A a w) (hC : CtxOK C σ0) (hg : holds gs ρ = true) {op : BinOp} {T T' : TypeId} {x y : Operand} {r : Sh × List PI} (hr : opBin C S gs dst op T x y = some r) {o : Oper} (ho : o.op = .binOp op T x y T') :
    QOK C S ρ σ hv Φ dst a w o r := by
  simp only [opBin, Option.bind_eq_some_iff] at hr
  obtain ⟨p, hp, q, hq, hr⟩ := hr
  have hp' := use_sound h hC hg hp
  have hq' := use_sound h hC hg hq
  split at hr
  · rename_i k k' e1 e2
    rw [e1] at hp'
    rw [e2] at hq'
    obtain ⟨n, hv1, hd1, b1, b2⟩ := hp'.int_inv
    obtain ⟨m, hv2, hd2, b3, b4⟩ := hq'.int_inv
    have hrun := run_bin (C := C) (w := w) ho hv1 hv2 (by intro u e; cases e) (by intro e; cases e)
    cases hsh : (op == .shl || op == .shr) <;> simp only [hsh, cond_true, cond_false] at hr
    · cases hkk : (k == k') <;> simp only [hkk, cond_true, cond_false] at hr
      · cases hr
      · have hkk' : k = k' := by simpa using hkk
        subst hkk'
        cases hqr : (op == .quo || op == .rem) <;> simp only [hqr, cond_true, cond_false] at hr
        · cases har : arOp op <;> simp only [har, cond_true, cond_false] at hr
          · cases hcm : cmOp op <;> simp only [hcm, cond_true, cond_false] at hr
            · cases hr
            · cases hr
              refine .dat (v := .bool (cmI op n m)) ?_ ?_
              · rw [hrun]; cases op <;> simp_all [cmOp] <;> simp [binOp, Op.intCmp, cmI, Sem.run, pure, Sem.bind]
              · simp only [PE.ev, hd1, hd2, D.i_int]; exact .bool _
          · cases hr
            refine .dat (v := .int k (arI op k n m)) ?_ ?_
            · rw [hrun]; cases op <;> simp_all [arOp] <;> simp [binOp, Op.intArith, Op.intBits, arI, Sem.run, pure, Sem.bind]
            · simp only [PE.ev, hd1, hd2, D.i_int]
              refine .int _ _ ?_ ?_ <;> (cases op <;> simp_all [arOp] <;> first | exact (wrap_bounds _ _).1 | exact (wrap_bounds _ _).2)
        · cases hr
          refine .datc hg fun hc => ⟨.int k (arI op k n m), ?_, ?_⟩
          · have hne : m ≠ 0 := by simpa [PE.ev, hd2, D.i_int, D.b_bool, cmI, D.int] using hc
            rw [hrun]; rcases (by simpa using hqr : op = .quo ∨ op = .rem) with rfl | rfl <;> simp [binOp, Op.intDiv, arI, Sem.run, pure, Sem.bind, hne]
          · simp only [PE.ev, hd1, hd2, D.i_int]
            cases op <;> simp_all
            · exact .int _ _ (wrap_bounds _ _).1 (wrap_bounds _ _).2
            · exact .int _ _ (tmod_bounds k ⟨b1, b2⟩).1 (tmod_bounds k ⟨b1, b2⟩).2
    · cases hr
      refine .datc hg fun hc => ⟨.int k (arI op k n m), ?_, ?_⟩
      · have hne : ¬ m < 0 := by
          have : 0 ≤ m := by simpa [PE.ev, hd2, D.i_int, D.b_bool, cmI, D.int] using hc
          omega
        rw [hrun]; rcases (by simpa using hsh : op = .shl ∨ op = .shr) with rfl | rfl <;> simp [binOp, Op.shift, arI, Sem.run, pure, Sem.bind, hne]
      · simp only [PE.ev, hd1, hd2, D.i_int]
        cases op <;> simp_all
        · exact .int _ _ (wrap_bounds _ _).1 (wrap_bounds _ _).2
        · exact .int _ _ (fdiv_bounds k _ ⟨b1, b2⟩).1 (fdiv_bounds k _ ⟨b1, b2⟩).2
  · rename_i e1 e2
    rw [e1] at hp'
    rw [e2] at hq'
    obtain ⟨n, hv1, hd1⟩ := hp'.bool_inv
    obtain ⟨m, hv2, hd2⟩ := hq'.bool_inv
    have hrun := run_bin (C := C) (w := w) ho hv1 hv2 (by intro u e; cases e) (by intro e; cases e)
    cases hop : ((op == .eql || op == .neq) && isBoolT C.P T) <;> simp only [hop, cond_true, cond_false] at hr
    · cases hr
    · cases hr
      simp only [Bool.and_eq_true] at hop
      obtain ⟨hop, hT⟩ := hop
      have hT' : C.P.underlying T = some .bool := by
        unfold isBoolT at hT
        split at hT
        · assumption
        · cases hT
      have heq : (Op.equal T (.bool n) (.bool m)).run C.P w = .ok (n == m) w := by
        have : ∀ d, (Op.equalIn (d + 1) T (.bool n) (.bool m)).run C.P w = .ok (n == m) w := fun d => by simp [Op.equalIn, run_underlying hT']
        exact this 9999
      refine .dat (v := .bool (cmB op n m)) ?_ ?_
      · rw [hrun]; rcases (by simpa using hop : op = .eql ∨ op = .neq) with rfl | rfl <;> simp [binOp, cmB, heq, Sem.run_bind']
      · simp only [PE.ev, hd1, hd2, D.b_bool]; exact .bool _
  · rename_i e1 e2
    rw [e1] at hp'
    rw [e2] at hq'
    obtain ⟨n, hv1, hd1, _⟩ := hp'.str_inv
    obtain ⟨m, hv2, hd2, _⟩ := hq'.str_inv
    have hrun := run_bin (C := C) (w := w) ho hv1 hv2 (by intro u e; cases e) (by intro e; cases e)
    cases hop : cmOp op <;> simp only [hop, cond_true, cond_false] at hr
    · cases hr
    · cases hr
      refine .dat (v := .bool (cmS op n m)) ?_ ?_
      · rw [hrun]; cases op <;> simp_all [cmOp] <;> simp [binOp, Op.stringOp, cmS, Sem.run, pure, Sem.bind]
      · simp only [PE.ev, hd1, hd2, D.s_str]; exact .bool _
  · rename_i ts us e1 e2
    rw [e1] at hp'
    rw [e2] at hq'
    cases hop : ((op == .eql || op == .neq) && Ty.beqs ts us && eqStruct C.P T) <;> simp only [hop, cond_true, cond_false] at hr
    · cases hr
    simp only [Bool.and_eq_true] at hop
    obtain ⟨⟨hop, hts⟩, hst⟩ := hop
    have := Ty.beqs_eq _ _ hts
    subst this
    simp only [eqStruct, Bool.and_eq_true, Bool.not_eq_true'] at hst
    obtain ⟨⟨hst1, hst2⟩, hst3⟩ := hst
    have hfl : C.P.underlying T = some (.struct (C.P.fieldsOf T)) := by
      unfold Program.fieldsOf
      split at hst1
      · rename_i fs hu; rw [hu]
      · cases hst1
    simp only [Option.map_eq_some_iff] at hr
    obtain ⟨e, he, rfl⟩ := hr
    obtain ⟨vs, ds, hv1, hd1, l1, l2, hall, _⟩ := hp'.agg_inv
    obtain ⟨vs', ds', hv2, hd2, l3, l4, hall', _⟩ := hq'.agg_inv
    obtain ⟨b, hb, hrun⟩ := eqFs_sound (P := C.P) (cap := C.cap) (σ := σ) (ρ := ρ) w hd1 hd2 (vs := vs) (us := vs') 9998 _ 0 ts e he (fun j t hj => by
      rw [Nat.zero_add]; exact ⟨hall j t hj, hall' j t hj⟩) (by omega) (by omega)
    have heq : (Op.equalIn 10000 T (.agg vs.toArray) (.agg vs'.toArray)).run C.P w = .ok b w := by
      rw [run_equalIn_struct w 9999 T _ _ hfl hst2]; exact hrun
    have hgd := run_eqGuard_agg (P := C.P) (w := w) op T x y vs.toArray vs'.toArray hst3
    have hexec : (execOp a.eval o).run C.P w = ((binOp op T (.agg vs.toArray) (.agg vs'.toArray)).run C.P w).andThen fun r w' => .ok (.value r) w' := by
      simp only [execOp, ho, hv1, hv2, Sem.run_bind, hgd, Result.andThen_ok]
      rfl
    rcases (by simpa using hop : op = .eql ∨ op = .neq) with rfl | rfl
    · refine .dat (v := .bool b) ?_ ?_
      · rw [hexec, run_eql_struct, heq]; rfl
      · show Rep _ _ .bool _ (PE.ev ρ e)
        rw [hb]; exact .bool _
    · refine .dat (v := .bool (!b)) ?_ ?_
      · rw [hexec, run_neq_struct, heq]; rfl
      · show Rep _ _ .bool _ (PE.ev ρ (.nt e))
        simp only [PE.ev, hb]; exact .bool _
  · cases hr

theorem opUn_sound (h : Inv C S ρ σ own hv w0 σ0 A a w) (hC : CtxOK C σ0) (hg : holds gs ρ = true) {op : UnOp} {T : TypeId} {x : Operand} {r : Sh × List PI} (hr : opUn C S gs dst op x = some r) {o : Oper} (ho : o.op = .unOp op T x) :
    QOK C S ρ σ hv Φ dst a w o r := by
  simp only [opUn, Option.bind_eq_some_iff] at hr
  obtain ⟨p, hp, hr⟩ := hr
  have hp' := use_sound h hC hg hp
  split at hr
  · rename_i k e1
    rw [e1] at hp'
    obtain ⟨n, hv1, hd1, b1, b2⟩ := hp'.int_inv
    cases hr
    refine .dat (v := .int k (arI .sub k 0 n)) ?_ ?_
    · simp [execOp, ho, hv1, Op.unary, Op.intArith, arI, Sem.run, pure, bind, Sem.bind]
    · simp only [PE.ev, hd1, D.i_int]; exact .int _ _ (wrap_bounds _ _).1 (wrap_bounds _ _).2
  · rename_i e1
    rw [e1] at hp'
    obtain ⟨n, hv1, hd1⟩ := hp'.bool_inv
    cases hr
    refine .dat (v := .bool (!n)) ?_ ?_
    · simp [execOp, ho, hv1, Op.unary, Sem.run, pure, bind, Sem.bind]
    · simp only [PE.ev, hd1, D.b_bool]; exact .bool _
  · cases hr

theorem opConv_sound (h : Inv C S ρ σ own hv w0 σ0 A a w) (hC : CtxOK C σ0) (hg : holds gs ρ = true) {s d : TypeId} {x : Operand} {r : Sh × List PI} (hr : opConv C S gs dst s d x = some r) {o : Oper} (ho : o.op = .convert s d x) :
    QOK C S ρ σ hv Φ dst a w o r := by
  simp only [opConv, Option.bind_eq_some_iff] at hr
  obtain ⟨p, hp, hr⟩ := hr
  have hp' := use_sound h hC hg hp
  split at hr
  · rename_i k0 k k1 u1 u2 e1
    rw [e1] at hp'
    obtain ⟨n, hv1, hd1, b1, b2⟩ := hp'.int_inv
    cases hr
    refine .dat (v := .int k (k.wrap n)) ?_ ?_
    · simp [execOp, ho, hv1, convert, run_underlying u1, run_underlying u2, Conv.intToInt]
    · simp only [PE.ev, hd1, D.i_int]; exact .int _ _ (wrap_bounds _ _).1 (wrap_bounds _ _).2
  · rename_i u1 u2 e1
    rw [e1] at hp'
    obtain ⟨n, hv1, hd1, b1⟩ := hp'.str_inv
    cases hr
    refine .dat (v := .string n) ?_ ?_
    · simp [execOp, ho, hv1, convert, run_underlying u1, run_underlying u2]
    · rw [hd1]; exact .str _ b1
  · cases hr

end
end Cx
