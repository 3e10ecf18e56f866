/-
  The quiet operations (third part): lengths, loads, addresses, parts.
-/
import Derived.Test.YtaihcmbfhgmjgaaCxF
set_option linter.unusedSimpArgs false
set_option linter.unusedVariables false
namespace Cx
open Go Go.RowKit

theorem le_maxLen_i64 {n : Nat} (h : n ≤ maxLen) : IntKind.i64.min ≤ (n : Int) ∧ (n : Int) ≤ IntKind.i64.max := by
  simp only [maxLen] at h
  simp only [IntKind.min, IntKind.max, IntKind.signed, IntKind.bits]
  simp; omega

section
variable {C : Ctx} {S : St} {ρ : Env} {σ : Im} {own : Nat → Option Nat} {hv : Nat → Value} {w0 : World} {σ0 : Base} {A : Nat → Prop} {a : Act} {w : World} {gs : List (Nat × Bool)} {Φ : Funs} {dst : Nat}

/-- What is known of an operand that is looked at. -/
def ViewOK (C : Ctx) (σ : Im) (w : World) (B : Nat) (t : Ty) (v : Value) (d : D) : Prop :=
  Rep C.cap σ t v d ∨
  (∃ T e cells xs, t = .slice e.rol ∧ d = .list xs ∧ w.ownsRow B T e.size v xs.length cells ∧ ElemsOK C.cap σ e cells xs) ∨
  (∃ k arr clock es kt et, t = .map kt et ∧ v = .map (some k) ∧ w.heap[k]? = some (.map arr clock) ∧ d = .map es ∧ es.length = arr.size ∧ es.length ≤ maxLen ∧
      ∀ (i : Nat) (e : MapEntry) (p : D × D), arr[i]? = some e → es[i]? = some p → Rep C.cap σ kt e.key p.1 ∧ Rep C.cap σ et e.val p.2)

theorem view_sound (h : Inv C S ρ σ own hv w0 σ0 A a w) (hC : CtxOK C σ0) (hg : holds gs ρ = true) {x : Operand} {r : Ty × PE} (hu : view C S gs x = some r) : ViewOK C σ w w0.heap.size r.1 (a.eval x) (r.2.ev ρ) := by
  unfold view at hu
  split at hu
  · rename_i r' hr'
    cases hu
    exact .inl (use_sound h hC hg hr')
  · split at hu
    · rename_i t _
      obtain ⟨hs, _⟩ := shR_sound h hg t
      split at hu
      · rename_i j ver e
        rw [e] at hs
        cases hb : Nat.beq ver (S.ver j) <;> simp only [hb, cond_true, cond_false] at hu
        · cases hu
        · have hver := Nat.eq_of_beq_eq_true hb
          have ho := h.objs j
          have hval : a.eval (.tmp t) = hv j := hs.2 hver
          split at hu
          · rename_i T e eo
            rw [eo] at ho
            cases hu
            obtain ⟨cells, xs, h1, h2, h3, h4⟩ := ho
            rw [hval]
            exact .inr (.inl ⟨T, e, cells, xs, rfl, h1, h2, h3⟩)
          · rename_i kt et eo
            rw [eo] at ho
            cases hu
            obtain ⟨k, arr, clock, es, h1, h2, h3, h4, h5, hx, h6⟩ := ho
            rw [hval]
            exact .inr (.inr ⟨k, arr, clock, es, kt, et, rfl, h1, h3, h4, h5, hx, h6⟩)
          · cases hu
      · cases hu
    · cases hu

theorem ownsRow_slice {w : World} {B e size n : Nat} {v : Value} {cells : List Value} (h : w.ownsRow B e size v n cells) : ∃ b c, v = .slice b n c ∧ n ≤ maxLen ∧ n ≤ c := by
  rcases h.2 with ⟨rfl, rfl⟩ | ⟨g, cap, cur, rfl, h1, h2, h3, h4, h5⟩
  · exact ⟨none, 0, rfl, by decide, Nat.le_refl _⟩
  · exact ⟨_, cap, rfl, Nat.le_trans h3 h4, h3⟩

theorem run_call1 {b : Builtin} {args : Array Operand} {ts : Array TypeId} {o : Oper} (ho : o.op = .call { callee := .builtin b, args := args, argTypes := ts }) :
    ∃ cs, (execOp a.eval o).run C.P w = (builtin b ts o.type cs (args.map a.eval)).run C.P w :=
  ⟨_, by simp only [execOp, ho, resolve, invoke]; rfl⟩

theorem opLen_sound (h : Inv C S ρ σ own hv w0 σ0 A a w) (hC : CtxOK C σ0) (hg : holds gs ρ = true) {T : TypeId} {x : Operand} {r : Sh × List PI} (hr : opLen C S gs dst T x = some r) {o : Oper}
    (ho : o.op = .call { callee := .builtin .len, args := #[x], argTypes := #[T] }) : QOK C S ρ σ hv Φ dst a w o r := by
  simp only [opLen, Option.bind_eq_some_iff] at hr
  obtain ⟨p, hp, hr⟩ := hr
  have hp' := view_sound h hC hg hp
  obtain ⟨cs, hrun⟩ := run_call1 (C := C) (w := w) (a := a) ho
  split at hr
  · rename_i e T' e1 e2
    rw [e1] at hp'
    cases hr
    have hx : ∃ b n c xs, a.eval x = .slice b n c ∧ p.2.ev ρ = .list xs ∧ xs.length = n ∧ n ≤ maxLen := by
      rcases hp' with hp' | ⟨T, e, cells, xs, ht, hd, hown, hel⟩ | ⟨k, arr, clock, es, kt, et, ht, _⟩
      · obtain ⟨xs, hd, ⟨⟨p0, hv1⟩, rfl⟩ | ⟨k, o, c, hv1, h1, h2, _⟩⟩ := hp'.slice_inv
        · exact ⟨p0, 0, 0, [], hv1, hd, rfl, by decide⟩
        · exact ⟨_, _, c, xs, hv1, hd, rfl, by omega⟩
      · obtain ⟨b, c, hv1, h1, _⟩ := ownsRow_slice hown
        exact ⟨b, _, c, xs, hv1, hd, rfl, h1⟩
      · cases ht
    obtain ⟨b, n, c, xs, hv1, hd, hl, hm⟩ := hx
    refine .dat (v := .int .i64 n) ?_ ?_
    · rw [hrun]; simp [builtin, Builtin.len_, hv1, run_underlying e2, goInt]
    · simp only [PE.ev, hd, D.l_list, hl]; exact .int _ _ (le_maxLen_i64 hm).1 (le_maxLen_i64 hm).2
  · rename_i e T' e1 e2
    rw [e1] at hp'
    cases hr
    rcases hp' with hp' | ⟨T, e, cells, xs, ht, _⟩ | ⟨k, arr, clock, es, kt, et, ht, _⟩
    · generalize hvv : a.eval x = v at hp'
      generalize hdd : p.2.ev ρ = d at hp'
      cases hp'
      refine .dat (v := .int .i64 0) ?_ ?_
      · rw [hrun]; simp [builtin, Builtin.len_, hvv, run_underlying e2, goInt]
      · simp only [PE.ev, hdd, D.l_list]; exact .int _ _ (by decide) (by decide)
    · cases ht
    · cases ht
  · rename_i e1 e2
    rw [e1] at hp'
    cases hr
    rcases hp' with hp' | ⟨T, e, cells, xs, ht, _⟩ | ⟨k, arr, clock, es, kt, et, ht, _⟩
    · obtain ⟨n, hv1, hd1, hm⟩ := hp'.str_inv
      refine .dat (v := .int .i64 n.size) ?_ ?_
      · rw [hrun]; simp [builtin, Builtin.len_, hv1, run_underlying e2, goInt]
      · simp only [PE.ev, hd1, D.s_str]; exact .int _ _ (le_maxLen_i64 hm).1 (le_maxLen_i64 hm).2
    · cases ht
    · cases ht
  · rename_i k0 e0 a0 b0 e1 e2
    rw [e1] at hp'
    cases hr
    rcases hp' with hp' | ⟨T, e, cells, xs, ht, _⟩ | ⟨k, arr, clock, es, kt, et, ht, hv1, hb, hd1, hl, hx, _⟩
    · generalize hvv : a.eval x = v at hp'
      generalize hdd : p.2.ev ρ = d at hp'
      cases hp' with
      | mapnil =>
        refine .dat (v := .int .i64 0) ?_ ?_
        · rw [hrun]; simp [builtin, Builtin.len_, hvv, run_underlying e2, goInt]
        · simp only [PE.ev, hdd, D.m]; exact .int _ _ (by decide) (by decide)
      | map kt et r ves es hm hl hx hk _ =>
        obtain ⟨_, arr, clock, hb, hes⟩ := (h.ok.m _ _ hm).resolve_right (fun e => not_dfr hl hk e.1)
        have hn : arr.size = es.length := by rw [hl, ← hes]; simp [entriesOf]
        refine .dat (v := .int .i64 arr.size) ?_ ?_
        · rw [hrun]; simp [builtin, Builtin.len_, hvv, run_underlying e2, goInt, getObj, Sem.run, hb]
        · simp only [PE.ev, hdd, D.m, hn]; exact .int _ _ (le_maxLen_i64 hx).1 (le_maxLen_i64 hx).2
    · cases ht
    · refine .dat (v := .int .i64 arr.size) ?_ ?_
      · rw [hrun]; simp [builtin, Builtin.len_, hv1, run_underlying e2, goInt, getObj, Sem.run, hb]
      · simp only [PE.ev, hd1, D.m, hl]; exact .int _ _ (le_maxLen_i64 (hl ▸ hx)).1 (le_maxLen_i64 (hl ▸ hx)).2
  · cases hr

theorem opMin_sound (h : Inv C S ρ σ own hv w0 σ0 A a w) (hC : CtxOK C σ0) (hg : holds gs ρ = true) {mx : Bool} {x y : Operand} {ts : Array TypeId} {r : Sh × List PI} (hr : opMin C S gs dst mx x y = some r) {o : Oper}
    (ho : o.op = .call { callee := .builtin (bif mx then .max else .min), args := #[x, y], argTypes := ts }) : QOK C S ρ σ hv Φ dst a w o r := by
  simp only [opMin, Option.bind_eq_some_iff] at hr
  obtain ⟨p, hp, q, hq, hr⟩ := hr
  have hp' := use_sound h hC hg hp
  have hq' := use_sound h hC hg hq
  obtain ⟨cs, hrun⟩ := run_call1 (C := C) (w := w) (a := a) ho
  split at hr
  · rename_i k k' e1 e2
    rw [e1] at hp'
    rw [e2] at hq'
    obtain ⟨n, hv1, hd1, b1, b2⟩ := hp'.int_inv
    obtain ⟨m, hv2, hd2, b3, b4⟩ := hq'.int_inv
    cases hkk : (k == k') <;> simp only [hkk, cond_true, cond_false] at hr
    · cases hr
    · have hkk' : k = k' := by simpa using hkk
      subst hkk'
      cases hr
      cases mx with
      | true =>
        refine .dat (v := .int k (if m > n then m else n)) ?_ ?_
        · rw [hrun]; simp [builtin, Builtin.max_, Builtin.max2, hv1, hv2]
        · simp only [cond_true, PE.ev, hd1, hd2, D.i_int]
          by_cases hlt : m > n <;> simp [hlt] <;> constructor <;> assumption
      | false =>
        refine .dat (v := .int k (if m < n then m else n)) ?_ ?_
        · rw [hrun]; simp [builtin, Builtin.min_, Builtin.min2, hv1, hv2]
        · simp only [cond_false, PE.ev, hd1, hd2, D.i_int]
          by_cases hlt : m < n <;> simp [hlt] <;> constructor <;> assumption
  · cases hr

theorem opExtract_sound (h : Inv C S ρ σ own hv w0 σ0 A a w) (hC : CtxOK C σ0) (hg : holds gs ρ = true) {x : Operand} {i : Nat} {r : Sh × List PI} (hr : opExtract C S gs dst x i = some r) {o : Oper} (ho : o.op = .extract x i) :
    QOK C S ρ σ hv Φ dst a w o r := by
  simp only [opExtract, Option.bind_eq_some_iff] at hr
  obtain ⟨p, hp, hr⟩ := hr
  have hp' := use_sound h hC hg hp
  split at hr
  · rename_i ts e1
    rw [e1] at hp'
    simp only [Option.map_eq_some_iff] at hr
    obtain ⟨t, ht, rfl⟩ := hr
    obtain ⟨vs, ds, hv1, hd1, l1, l2, hall⟩ := hp'.tup_inv
    have hi : i < vs.length := by rw [l1]; exact (List.getElem?_eq_some_iff.1 ht).1
    refine .dat (v := vs.getD i undef) ?_ ?_
    · obtain ⟨u, hu⟩ : ∃ u, vs[i]? = some u := ⟨_, List.getElem?_eq_getElem hi⟩
      have hgd : vs.getD i undef = u := by rw [List.getD_eq_getElem?_getD, hu]; rfl
      rw [hgd]
      simp [execOp, ho, hv1, Instr.extract, hu]
    · simp only [PE.ev, hd1]
      exact hall i t ht
  · cases hr

end
end Cx
