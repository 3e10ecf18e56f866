/-
  What the pure language computes, with no fuel: runs, and how to show them.
-/
import Derived.Test.YtaihcmbfhgmjgaaCyF
set_option linter.unusedSimpArgs false
set_option linter.unusedVariables false
namespace Cx
open Go Go.RowKit

abbrev Funs' := Nat → Funs
def Runs (T : Funs') (f : Nat) (ds : List D) (d : D) : Prop := ∃ n0, ∀ n, n0 ≤ n → T n f ds = some d
def EvI (T : Funs') (l : List PI) (ρ : Env) (Q : Env → Prop) : Prop := ∃ ρ', Q ρ' ∧ ∃ n0, ∀ n, n0 ≤ n → PI.runs (T n) l ρ = some ρ'
def EvP (T : Funs') (c : PC) (ρ : Env) (Q : Out → Prop) : Prop := ∃ x, Q x ∧ ∃ n0, ∀ n, n0 ≤ n → c.ev (T n) n ρ = some x

theorem EvP.mono {T : Funs'} {c : PC} {ρ : Env} {Q Q' : Out → Prop} (h : EvP T c ρ Q) (hq : ∀ x, Q x → Q' x) : EvP T c ρ Q' := by
  obtain ⟨x, hx, n0, hn⟩ := h; exact ⟨x, hq x hx, n0, hn⟩
theorem EvI.mono {T : Funs'} {c : List PI} {ρ : Env} {Q Q' : Env → Prop} (h : EvI T c ρ Q) (hq : ∀ x, Q x → Q' x) : EvI T c ρ Q' := by
  obtain ⟨x, hx, n0, hn⟩ := h; exact ⟨x, hq x hx, n0, hn⟩

theorem EvI.nil {T : Funs'} {ρ : Env} {Q : Env → Prop} (h : Q ρ) : EvI T [] ρ Q := ⟨ρ, h, 0, fun _ _ => rfl⟩
theorem EvI.cons {T : Funs'} {p : PI} {l : List PI} {ρ ρ1 : Env} {Q : Env → Prop} {n0 : Nat} (h : ∀ n, n0 ≤ n → p.run (T n) ρ = some ρ1) (k : EvI T l ρ1 Q) : EvI T (p :: l) ρ Q := by
  obtain ⟨ρ', hQ, n1, h1⟩ := k
  exact ⟨ρ', hQ, max n0 n1, fun n hn => by simp [PI.runs, h n (by omega), h1 n (by omega)]⟩

/-- what a list of instructions must be shown to do -/
def wpI (T : Funs') : List PI → Env → (Env → Prop) → Prop
  | [], ρ, Q => Q ρ
  | .setR t e :: l, ρ, Q => wpI T l (ρ.setR t (e.ev ρ)) Q
  | .setO t e :: l, ρ, Q => wpI T l (ρ.setO t (e.ev ρ)) Q
  | .chk e :: l, ρ, Q => (e.ev ρ).b = true ∧ wpI T l ρ Q
  | .call gs dst f args :: l, ρ, Q => if holds gs ρ = true then ∃ d, Runs T f (PE.evs ρ args) d ∧ wpI T l (ρ.setR dst d) Q else wpI T l ρ Q
  | .callc gs dst e args :: l, ρ, Q => if holds gs ρ = true then ∃ f caps d, e.ev ρ = .clo f caps ∧ Runs T f (PE.evs ρ args ++ caps) d ∧ wpI T l (ρ.setR dst d) Q else wpI T l ρ Q
  | .mcall j f args :: l, ρ, Q => ∃ d, Runs T f (PE.evs ρ args) d ∧ wpI T l (ρ.setO j d) Q

theorem wpI_ok {T : Funs'} : ∀ {l : List PI} {ρ : Env} {Q : Env → Prop}, wpI T l ρ Q → EvI T l ρ Q
  | [], ρ, Q, h => .nil h
  | .setR t e :: l, ρ, Q, h => .cons (n0 := 0) (fun _ _ => rfl) (wpI_ok h)
  | .setO t e :: l, ρ, Q, h => .cons (n0 := 0) (fun _ _ => rfl) (wpI_ok h)
  | .chk e :: l, ρ, Q, h => .cons (n0 := 0) (fun n _ => by simp [PI.run, h.1]) (wpI_ok h.2)
  | .call gs dst f args :: l, ρ, Q, h => by
    unfold wpI at h
    split at h
    · rename_i hg
      obtain ⟨d, ⟨n0, hn⟩, h⟩ := h
      exact .cons (n0 := n0) (fun n hle => by simp [PI.run, hg, hn n hle]) (wpI_ok h)
    · rename_i hg
      exact .cons (n0 := 0) (fun n hle => by simp [PI.run, hg]) (wpI_ok h)
  | .callc gs dst e args :: l, ρ, Q, h => by
    unfold wpI at h
    split at h
    · rename_i hg
      obtain ⟨f, caps, d, he, ⟨n0, hn⟩, h⟩ := h
      exact .cons (n0 := n0) (fun n hle => by simp [PI.run, hg, he, hn n hle]) (wpI_ok h)
    · rename_i hg
      exact .cons (n0 := 0) (fun n hle => by simp [PI.run, hg]) (wpI_ok h)
  | .mcall j f args :: l, ρ, Q, h => by
    obtain ⟨d, ⟨n0, hn⟩, h⟩ := h
    exact .cons (n0 := n0) (fun n hle => by simp [PI.run, hn n hle]) (wpI_ok h)

def joinQ (ρ : Env) (lr lo : List Nat) (Q : Out → Prop) : Out → Prop
  | .next ρ' => Q (.next (ρ.join lr lo ρ'))
  | x => Q x
def blockQ (ρ : Env) (id : Nat) (lr lo : List Nat) (Q : Out → Prop) : Out → Prop
  | .next ρ' => Q (.next (ρ.join lr lo ρ'))
  | .exit id' ρ' => if id' = id then Q (.next (ρ.join lr lo ρ')) else Q (.exit id' ρ')
  | .ret d => Q (.ret d)
def seqQ (K : Env → Prop) (Q : Out → Prop) : Out → Prop
  | .next ρ' => K ρ'
  | .exit id ρ' => Q (.exit id ρ')
  | .ret d => Q (.ret d)

theorem EvP.is {T : Funs'} {l : List PI} {ρ : Env} {Q : Out → Prop} (h : wpI T l ρ fun ρ' => Q (.next ρ')) : EvP T (.is l) ρ Q := by
  obtain ⟨ρ', hQ, n0, hn⟩ := wpI_ok h
  exact ⟨.next ρ', hQ, n0, fun n hle => by simp [PC.ev, hn n hle]⟩
theorem EvP.skip {T : Funs'} {ρ : Env} {Q : Out → Prop} (h : Q (.next ρ)) : EvP T .skip ρ Q := ⟨_, h, 0, fun _ _ => rfl⟩
theorem EvP.exit {T : Funs'} {ρ : Env} {id : Nat} {Q : Out → Prop} (h : Q (.exit id ρ)) : EvP T (.exit id) ρ Q := ⟨_, h, 0, fun _ _ => rfl⟩
theorem EvP.ret {T : Funs'} {ρ : Env} {e : PE} {Q : Out → Prop} (h : Q (.ret (e.ev ρ))) : EvP T (.ret e) ρ Q := ⟨_, h, 0, fun _ _ => rfl⟩
theorem EvP.seq {T : Funs'} {a b : PC} {ρ : Env} {Q : Out → Prop} (h : EvP T a ρ (seqQ (fun ρ' => EvP T b ρ' Q) Q)) : EvP T (.seq a b) ρ Q := by
  obtain ⟨x, hx, n0, hn⟩ := h
  cases x with
  | next ρ' =>
    obtain ⟨y, hy, n1, h1⟩ := hx
    exact ⟨y, hy, max n0 n1, fun n hle => by simp [PC.ev, hn n (by omega), h1 n (by omega)]⟩
  | exit id ρ' => exact ⟨_, hx, n0, fun n hle => by simp [PC.ev, hn n hle]⟩
  | ret d => exact ⟨_, hx, n0, fun n hle => by simp [PC.ev, hn n hle]⟩
theorem EvP.ite {T : Funs'} {c : PE} {lr lo : List Nat} {a b : PC} {ρ : Env} {Q : Out → Prop} (h : if (c.ev ρ).b = true then EvP T a ρ (joinQ ρ lr lo Q) else EvP T b ρ (joinQ ρ lr lo Q)) : EvP T (.ite c lr lo a b) ρ Q := by
  split at h
  all_goals
    rename_i hc
    obtain ⟨x, hx, n0, hn⟩ := h
    cases x with
    | next ρ' => exact ⟨_, hx, n0, fun n hle => by simp [PC.ev, hc, hn n hle]⟩
    | exit id ρ' => exact ⟨_, hx, n0, fun n hle => by simp [PC.ev, hc, hn n hle]⟩
    | ret d => exact ⟨_, hx, n0, fun n hle => by simp [PC.ev, hc, hn n hle]⟩
theorem EvP.block {T : Funs'} {id : Nat} {lr lo : List Nat} {a : PC} {ρ : Env} {Q : Out → Prop} (h : EvP T a ρ (blockQ ρ id lr lo Q)) : EvP T (.block id lr lo a) ρ Q := by
  obtain ⟨x, hx, n0, hn⟩ := h
  cases x with
  | next ρ' => exact ⟨_, hx, n0, fun n hle => by simp [PC.ev, hn n hle]⟩
  | exit id' ρ' =>
    simp only [blockQ] at hx
    split at hx
    · rename_i e; subst e; exact ⟨_, hx, n0, fun n hle => by simp [PC.ev, hn n hle]⟩
    · rename_i e; exact ⟨_, hx, n0, fun n hle => by simp [PC.ev, hn n hle, beq_ne e]⟩
  | ret d => exact ⟨_, hx, n0, fun n hle => by simp [PC.ev, hn n hle]⟩

/-- what code must be shown to do, up to its loops -/
def wpC (T : Funs') : PC → Env → (Out → Prop) → Prop
  | .skip, ρ, Q => Q (.next ρ)
  | .is l, ρ, Q => wpI T l ρ fun ρ' => Q (.next ρ')
  | .seq a b, ρ, Q => wpC T a ρ (seqQ (fun ρ' => wpC T b ρ' Q) Q)
  | .ite c lr lo a b, ρ, Q => if (c.ev ρ).b = true then wpC T a ρ (joinQ ρ lr lo Q) else wpC T b ρ (joinQ ρ lr lo Q)
  | .block id lr lo a, ρ, Q => wpC T a ρ (blockQ ρ id lr lo Q)
  | .loop lr lo a, ρ, Q => EvP T (.loop lr lo a) ρ Q
  | .exit id, ρ, Q => Q (.exit id ρ)
  | .ret e, ρ, Q => Q (.ret (e.ev ρ))
  | .each e ps lo rt a, ρ, Q => EvP T (.each e ps lo rt a) ρ Q

theorem wpC_ok {T : Funs'} : ∀ (c : PC) {ρ : Env} {Q : Out → Prop}, wpC T c ρ Q → EvP T c ρ Q
  | .skip, ρ, Q, h => .skip h
  | .is l, ρ, Q, h => .is h
  | .seq a b, ρ, Q, h => .seq ((wpC_ok a h).mono fun x hx => by
      cases x with
      | next ρ' => exact wpC_ok b hx
      | exit id ρ' => exact hx
      | ret d => exact hx)
  | .ite c lr lo a b, ρ, Q, h => .ite (by
      unfold wpC at h
      split at h
      · rename_i hc; rw [if_pos hc]; exact wpC_ok a h
      · rename_i hc; rw [if_neg hc]; exact wpC_ok b h)
  | .block id lr lo a, ρ, Q, h => .block (wpC_ok a h)
  | .loop lr lo a, ρ, Q, h => h
  | .exit id, ρ, Q, h => .exit h
  | .ret e, ρ, Q, h => .ret h
  | .each e ps lo rt a, ρ, Q, h => h

/-- A loop: an invariant, a measure. -/
theorem EvP.loop {T : Funs'} {lr lo : List Nat} {a : PC} {ρ : Env} {Q : Out → Prop} {α : Type} (inv : α → List D → List D → Prop) (meas : α → Nat) (s0 : α) (h0 : inv s0 (lr.map ρ.r) (lo.map ρ.o))
    (step : ∀ s vr vo, inv s vr vo → EvP T a (ρ.put lr vr lo vo) (seqQ (fun ρ' => ∃ s', meas s' < meas s ∧ inv s' (lr.map ρ'.r) (lo.map ρ'.o)) Q)) : EvP T (.loop lr lo a) ρ Q := by
  have key : ∀ (m : Nat) (s : α) (vr vo : List D), meas s ≤ m → inv s vr vo → ∃ x, Q x ∧ ∃ n0, ∀ n k, n0 ≤ n → n0 ≤ k → loopI (a.ev (T n) n) ρ lr lo k vr vo = some x := by
    intro m
    induction m with
    | zero =>
      intro s vr vo hm hi
      obtain ⟨x, hx, n0, hn⟩ := step s vr vo hi
      cases x with
      | next ρ' => obtain ⟨s', hlt, _⟩ := hx; omega
      | exit id ρ' =>
        refine ⟨_, hx, n0 + 1, fun n k hle hk => ?_⟩
        obtain ⟨k', rfl⟩ : ∃ k', k = k' + 1 := ⟨k - 1, by omega⟩
        simp [loopI, hn n (by omega)]
      | ret d =>
        refine ⟨_, hx, n0 + 1, fun n k hle hk => ?_⟩
        obtain ⟨k', rfl⟩ : ∃ k', k = k' + 1 := ⟨k - 1, by omega⟩
        simp [loopI, hn n (by omega)]
    | succ m ih =>
      intro s vr vo hm hi
      obtain ⟨x, hx, n0, hn⟩ := step s vr vo hi
      cases x with
      | next ρ' =>
        obtain ⟨s', hlt, hi'⟩ := hx
        obtain ⟨y, hy, n1, h1⟩ := ih s' _ _ (by omega) hi'
        refine ⟨y, hy, max n0 n1 + 1, fun n k hle hk => ?_⟩
        obtain ⟨k', rfl⟩ : ∃ k', k = k' + 1 := ⟨k - 1, by omega⟩
        simp [loopI, hn n (by omega), h1 n k' (by omega) (by omega)]
      | exit id ρ' =>
        refine ⟨_, hx, n0 + 1, fun n k hle hk => ?_⟩
        obtain ⟨k', rfl⟩ : ∃ k', k = k' + 1 := ⟨k - 1, by omega⟩
        simp [loopI, hn n (by omega)]
      | ret d =>
        refine ⟨_, hx, n0 + 1, fun n k hle hk => ?_⟩
        obtain ⟨k', rfl⟩ : ∃ k', k = k' + 1 := ⟨k - 1, by omega⟩
        simp [loopI, hn n (by omega)]
  obtain ⟨x, hx, n0, hn⟩ := key (meas s0) s0 _ _ (Nat.le_refl _) h0
  exact ⟨x, hx, n0, fun n hle => by simp only [PC.ev]; exact hn n n hle hle⟩

/-- Round by round: 'st k' are the values at the head of round k; N: how many rounds go on. -/
theorem EvP.rounds {T : Funs'} {lr lo : List Nat} {a : PC} {ρ : Env} {Q : Out → Prop} (N : Nat) (str sto : Nat → List D) (h0 : lr.map ρ.r = str 0 ∧ lo.map ρ.o = sto 0)
    (step : ∀ k, k < N → EvP T a (ρ.put lr (str k) lo (sto k)) (seqQ (fun ρ' => lr.map ρ'.r = str (k + 1) ∧ lo.map ρ'.o = sto (k + 1)) Q))
    (last : EvP T a (ρ.put lr (str N) lo (sto N)) (seqQ (fun _ => False) Q)) : EvP T (.loop lr lo a) ρ Q := by
  refine EvP.loop (α := Nat) (fun k vr vo => k ≤ N ∧ vr = str k ∧ vo = sto k) (fun k => N - k) 0 ⟨Nat.zero_le _, h0.1, h0.2⟩ ?_
  rintro k vr vo ⟨hk, rfl, rfl⟩
  by_cases hlt : k < N
  · refine (step k hlt).mono fun x hx => ?_
    cases x with
    | next ρ' => exact ⟨k + 1, by omega, by omega, hx.1, hx.2⟩
    | exit id ρ' => exact hx
    | ret d => exact hx
  · obtain rfl : k = N := by omega
    refine last.mono fun x hx => ?_
    cases x with
    | next ρ' => exact hx.elim
    | exit id ρ' => exact hx
    | ret d => exact hx

/-- for each element of a list -/
def eachQ (ρ : Env) (lo : List Nat) (rt : Option PE) (K : List D → Prop) (Q : Out → Prop) : Out → Prop
  | .next ρ' => K (lo.map ρ'.o)
  | .exit id ρ' => if id = retId then ∃ e, rt = some e ∧ Q (.ret (e.ev (ρ.put [] [] lo (lo.map ρ'.o)))) else Q (.exit id (ρ.put [] [] lo (lo.map ρ'.o)))
  | .ret _ => False
theorem EvP.each {T : Funs'} {e : PE} {ps lo : List Nat} {rt : Option PE} {a : PC} {ρ : Env} {Q : Out → Prop} (xs : List D) (he : (e.ev ρ).l = xs) (inv : Nat → List D → Prop) (h0 : inv 0 (lo.map ρ.o))
    (step : ∀ k x vo, xs[k]? = some x → inv k vo → EvP T a (ρ.put ps (partsOf ps x) lo vo) (eachQ ρ lo rt (inv (k + 1)) Q)) (done : ∀ vo, inv xs.length vo → Q (.next (ρ.put [] [] lo vo))) : EvP T (.each e ps lo rt a) ρ Q := by
  have key : ∀ (r k : Nat) (vo : List D), k + r = xs.length → inv k vo → ∃ x, Q x ∧ ∃ n0, ∀ n, n0 ≤ n → eachI (a.ev (T n) n) ρ ps lo rt (xs.drop k) vo = some x := by
    intro r
    induction r with
    | zero =>
      intro k vo hk hi
      have : xs.drop k = [] := by rw [List.drop_eq_nil_iff]; omega
      obtain rfl : k = xs.length := by omega
      exact ⟨_, done vo hi, 0, fun n _ => by rw [this]; rfl⟩
    | succ r ih =>
      intro k vo hk hi
      have hlt : k < xs.length := by omega
      rw [List.drop_eq_getElem_cons hlt]
      obtain ⟨y, hy, n0, hn⟩ := step k xs[k] vo (List.getElem?_eq_getElem hlt) hi
      cases y with
      | next ρ' =>
        obtain ⟨z, hz, n1, h1⟩ := ih (k + 1) _ (by omega) hy
        exact ⟨z, hz, max n0 n1, fun n hle => by simp only [eachI, hn n (by omega)]; exact h1 n (by omega)⟩
      | exit id ρ' =>
        simp only [eachQ] at hy
        split at hy
        · rename_i hid
          obtain ⟨e, h1, h2⟩ := hy
          exact ⟨_, h2, n0, fun n hle => by subst hid; simp [eachI, hn n hle, h1]⟩
        · rename_i hid
          exact ⟨_, hy, n0, fun n hle => by simp [eachI, hn n hle, beq_ne hid]⟩
      | ret d => exact hy.elim
  obtain ⟨x, hx, n0, hn⟩ := key xs.length 0 _ (by omega) h0
  exact ⟨x, hx, n0, fun n hle => by simp only [PC.ev, he]; exact hn n hle⟩

/-- finitely many bounds have one -/
theorem bounded {Q : Nat → Nat → Prop} : ∀ (L : Nat), (∀ m, m ≤ L → ∃ n0, ∀ n, n0 ≤ n → Q m n) → ∃ n0, ∀ n, n0 ≤ n → ∀ m, m ≤ L → Q m n
  | 0, h => by
    obtain ⟨n0, hn⟩ := h 0 (Nat.le_refl _)
    exact ⟨n0, fun n hle m hm => by obtain rfl : m = 0 := by omega
                                    exact hn n hle⟩
  | L + 1, h => by
    obtain ⟨n0, hn⟩ := bounded L fun m hm => h m (by omega)
    obtain ⟨n1, h1⟩ := h (L + 1) (Nat.le_refl _)
    refine ⟨max n0 n1, fun n hle m hm => ?_⟩
    by_cases e : m = L + 1
    · subst e; exact h1 n (by omega)
    · exact hn n (by omega) m (by omega)

theorem Runs.of_pc {tab : Nat → Option PC} {ext : Nat → Option (Funs → List D → Option D)} {f : Nat} {pc : PC} {ds : List D} {d : D} (hx : ext f = none) (ht : tab f = some pc) (h : EvP (Tab tab ext) pc (env0 ds) (fun x => x = .ret d)) : Runs (Tab tab ext) f ds d := by
  obtain ⟨x, rfl, n0, hn⟩ := h
  refine ⟨n0 + 1, fun n hle => ?_⟩
  obtain ⟨k, rfl⟩ : ∃ k, n = k + 1 := ⟨n - 1, by omega⟩
  simp [Tab, hx, ht, hn k (by omega)]
theorem Runs.of_ext {tab : Nat → Option PC} {ext : Nat → Option (Funs → List D → Option D)} {f : Nat} {g : Funs → List D → Option D} {ds : List D} {d : D} (hx : ext f = some g) (h : ∃ n0, ∀ n, n0 ≤ n → g (Tab tab ext n) ds = some d) : Runs (Tab tab ext) f ds d := by
  obtain ⟨n0, hn⟩ := h
  refine ⟨n0 + 1, fun n hle => ?_⟩
  obtain ⟨k, rfl⟩ : ∃ k, n = k + 1 := ⟨n - 1, by omega⟩
  simp [Tab, hx, hn k (by omega)]
/-- the answers, at every fuel -/
noncomputable def yldT (T : Funs') (xs : List D) (m : Nat) : Funs' := fun n => yldΦ (T n) xs m
theorem Runs.yld {T : Funs'} {xs : List D} {m f : Nat} {ds : List D} {d : D} (h : Runs T f ds d) (hf : f ≠ yldF) : Runs (yldT T xs m) f ds d := by
  obtain ⟨n0, hn⟩ := h
  exact ⟨n0, fun n hle => by simp [yldT, yldΦ, hf, hn n hle]⟩
/-- what is answered: the first i elements have been yielded, and now the next one -/
theorem Runs.answer {T : Funs'} {xs l : List D} {m i : Nat} (hl : l = xs.take (i + 1)) (hi : i < xs.length) (hm : i ≤ m) : Runs (yldT T xs m) yldF [.list l] (.v (.bool (decide (i < m)))) := by
  subst hl
  refine ⟨0, fun n _ => ?_⟩
  have h1 : (xs.take (i + 1)).length = i + 1 := by rw [List.length_take]; omega
  simp only [yldT, yldΦ, if_true, h1]
  rw [if_pos ⟨by omega, by omega, trivial⟩]
  rfl
/-- An iterator yields. -/
theorem Runs.of_it {tab : Nat → Option PC} {ext : Nat → Option (Funs → List D → Option D)} {f : Nat} {pc : PC} {J k : Nat} {spec : List D → List D} {ds : List D} (hx : ext f = some (itG pc J k spec)) (hk : ∀ x, x ∈ spec ds → ∃ ds', x = .tup ds' ∧ ds'.length = k)
    (h : ∀ m, m ≤ (spec ds).length → EvP (yldT (Tab tab ext) (spec ds) m) pc (envI J ds) (fun x => x = .ret (.list ((spec ds).take (m + 1))))) : Runs (Tab tab ext) f ds (.list (spec ds)) := by
  refine Runs.of_ext hx ?_
  obtain ⟨n0, hn⟩ := bounded (Q := fun m n => pc.ev (yldΦ (Tab tab ext n) (spec ds) m) n (envI J ds) = some (.ret (.list ((spec ds).take (m + 1))))) (spec ds).length (fun m hm => by
    obtain ⟨x, rfl, n0, hn⟩ := h m hm
    exact ⟨n0, hn⟩)
  refine ⟨n0, fun n hle => ?_⟩
  unfold itG
  rw [if_pos]
  exact ⟨fun m hm => ⟨n, hn n hle m hm⟩, hk⟩
theorem yldΦ_mono {Φ Ψ : Funs} (h : ∀ f ds d, Φ f ds = some d → Ψ f ds = some d) (xs : List D) (m : Nat) : ∀ f ds d, yldΦ Φ xs m f ds = some d → yldΦ Ψ xs m f ds = some d := by
  intro f ds d e
  unfold yldΦ at e ⊢
  split at e
  · rename_i hf; rw [if_pos hf]; exact e
  · rename_i hf; rw [if_neg hf]; exact h f ds d e
theorem Runs.det {T : Funs'} {f : Nat} {ds : List D} {d d' : D} (h : Runs T f ds d) (k : Runs T f ds d') : d = d' := by
  obtain ⟨n0, hn⟩ := h
  obtain ⟨n1, h1⟩ := k
  have := (hn (max n0 n1) (by omega)).symm.trans (h1 (max n0 n1) (by omega))
  exact Option.some.inj this
theorem Runs.fnOK {C : Ctx} {tab : Nat → Option PC} {ext : Nat → Option (Funs → List D → Option D)} (h : TabOK C tab ext) {f : Nat} {s : Sig} {ds : List D} {d : D} (hs : C.sig f = some s) (hr : Runs (Tab tab ext) f ds d) (hm : isOb s.mode = false := by rfl) : FnOK C f s ds d := by
  obtain ⟨n0, hn⟩ := hr
  exact ((Tab_ok h n0).1 f ds d (hn n0 (Nat.le_refl _)) s hs).1 hm

/-! more fuel changes nothing -/
def Le (Φ Ψ : Funs) : Prop := ∀ f ds d, Φ f ds = some d → Ψ f ds = some d
theorem PI.run_mono {Φ Ψ : Funs} (h : Le Φ Ψ) {p : PI} {ρ ρ' : Env} (hr : p.run Φ ρ = some ρ') : p.run Ψ ρ = some ρ' := by
  cases p with
  | setR t e => exact hr
  | setO t e => exact hr
  | chk e => exact hr
  | call gs d f as =>
    simp only [PI.run] at hr ⊢
    cases hg : holds gs ρ <;> simp only [hg, cond_true, cond_false] at hr ⊢
    · exact hr
    · simp only [Option.map_eq_some_iff] at hr ⊢
      obtain ⟨x, hx, e⟩ := hr; exact ⟨x, h _ _ _ hx, e⟩
  | callc gs d f as =>
    simp only [PI.run] at hr ⊢
    cases hg : holds gs ρ <;> simp only [hg, cond_true, cond_false] at hr ⊢
    · exact hr
    · split at hr
      · simp only [Option.map_eq_some_iff] at hr ⊢
        obtain ⟨x, hx, e⟩ := hr; exact ⟨x, h _ _ _ hx, e⟩
      · cases hr
  | mcall j f as =>
    simp only [PI.run, Option.map_eq_some_iff] at hr ⊢
    obtain ⟨x, hx, e⟩ := hr; exact ⟨x, h _ _ _ hx, e⟩
theorem PI.runs_mono {Φ Ψ : Funs} (h : Le Φ Ψ) : ∀ {l : List PI} {ρ ρ' : Env}, PI.runs Φ l ρ = some ρ' → PI.runs Ψ l ρ = some ρ'
  | [], ρ, ρ', hr => hr
  | p :: l, ρ, ρ', hr => by
    simp only [PI.runs, Option.bind_eq_some_iff] at hr ⊢
    obtain ⟨x, hx, e⟩ := hr; exact ⟨x, PI.run_mono h hx, PI.runs_mono h e⟩
theorem loopI_mono {b c : Env → Option Out} (h : ∀ ρ x, b ρ = some x → c ρ = some x) {ρ : Env} {lr lo : List Nat} : ∀ {n m : Nat} {vr vo : List D} {x : Out}, n ≤ m → loopI b ρ lr lo n vr vo = some x → loopI c ρ lr lo m vr vo = some x
  | 0, m, vr, vo, x, _, hr => by simp [loopI] at hr
  | n + 1, m, vr, vo, x, hle, hr => by
    obtain ⟨m, rfl⟩ : ∃ k, m = k + 1 := ⟨m - 1, by omega⟩
    simp only [loopI] at hr ⊢
    cases hb : b (ρ.put lr vr lo vo) with
    | none => rw [hb] at hr; cases hr
    | some y =>
      rw [h _ _ hb]
      rw [hb] at hr
      cases y with
      | next ρ' => exact loopI_mono h (by omega) hr
      | exit id ρ' => exact hr
      | ret d => exact hr
theorem eachI_mono {b c : Env → Option Out} (h : ∀ ρ x, b ρ = some x → c ρ = some x) {ρ : Env} {ps lo : List Nat} {rt : Option PE} : ∀ {xs vo : List D} {x : Out}, eachI b ρ ps lo rt xs vo = some x → eachI c ρ ps lo rt xs vo = some x
  | [], vo, x, hr => hr
  | y :: xs, vo, x, hr => by
    simp only [eachI] at hr ⊢
    cases hb : b (ρ.put ps (partsOf ps y) lo vo) with
    | none => rw [hb] at hr; cases hr
    | some z =>
      rw [h _ _ hb]
      rw [hb] at hr
      cases z with
      | next ρ' => exact eachI_mono h hr
      | exit id ρ' => exact hr
      | ret d => cases hr
theorem PC.ev_mono {Φ Ψ : Funs} (h : Le Φ Ψ) {n m : Nat} (hle : n ≤ m) : ∀ {c : PC} {ρ : Env} {x : Out}, c.ev Φ n ρ = some x → c.ev Ψ m ρ = some x := by
  intro c
  induction c with
  | skip => intro ρ x hr; exact hr
  | is l =>
    intro ρ x hr
    simp only [PC.ev, Option.map_eq_some_iff] at hr ⊢
    obtain ⟨y, hy, e⟩ := hr; exact ⟨y, PI.runs_mono h hy, e⟩
  | seq a b iha ihb =>
    intro ρ x hr
    simp only [PC.ev] at hr ⊢
    cases ha : a.ev Φ n ρ with
    | none => rw [ha] at hr; cases hr
    | some y => rw [iha ha]; rw [ha] at hr; cases y <;> first | exact ihb hr | exact hr
  | ite c lr lo a b iha ihb =>
    intro ρ x hr
    simp only [PC.ev] at hr ⊢
    cases hc : (c.ev ρ).b <;> simp only [hc, cond_true, cond_false] at hr ⊢
    · cases ha : b.ev Φ n ρ with
      | none => rw [ha] at hr; cases hr
      | some y => rw [ihb ha]; rw [ha] at hr; exact hr
    · cases ha : a.ev Φ n ρ with
      | none => rw [ha] at hr; cases hr
      | some y => rw [iha ha]; rw [ha] at hr; exact hr
  | block id lr lo a iha =>
    intro ρ x hr
    simp only [PC.ev] at hr ⊢
    cases ha : a.ev Φ n ρ with
    | none => rw [ha] at hr; cases hr
    | some y => rw [iha ha]; rw [ha] at hr; exact hr
  | loop lr lo a iha => intro ρ x hr; exact loopI_mono (fun ρ x => iha) hle hr
  | exit id => intro ρ x hr; exact hr
  | ret e => intro ρ x hr; exact hr
  | each e ps lo rt a iha => intro ρ x hr; exact eachI_mono (fun ρ x => iha) hr
theorem Tab_mono {tab : Nat → Option PC} {ext : Nat → Option (Funs → List D → Option D)} (hx : ∀ f g, ext f = some g → ∀ Φ Ψ, Le Φ Ψ → ∀ ds d, g Φ ds = some d → g Ψ ds = some d) : ∀ {n m : Nat}, n ≤ m → Le (Tab tab ext n) (Tab tab ext m)
  | 0, m, _ => fun f ds d h => by simp [Tab] at h
  | n + 1, m, hle => by
    obtain ⟨m, rfl⟩ : ∃ k, m = k + 1 := ⟨m - 1, by omega⟩
    have ih := Tab_mono (tab := tab) hx (n := n) (m := m) (by omega)
    intro f ds d h
    simp only [Tab] at h ⊢
    split at h
    · rename_i g hg; exact hx f g hg _ _ ih ds d h
    · split at h
      · rename_i pc _
        cases he : pc.ev (Tab tab ext n) n (env0 ds) with
        | none => rw [he] at h; cases h
        | some x =>
          rw [PC.ev_mono ih (by omega) he]
          rw [he] at h; exact h
      · cases h
theorem itG_mono {pc : PC} {J k : Nat} {spec : List D → List D} {Φ Ψ : Funs} (h : Le Φ Ψ) {ds : List D} {d : D} (e : itG pc J k spec Φ ds = some d) : itG pc J k spec Ψ ds = some d := by
  unfold itG at e ⊢
  split at e
  · rename_i hs
    rw [if_pos]
    · exact e
    · exact ⟨fun m hm => let ⟨N, hN⟩ := hs.1 m hm; ⟨N, PC.ev_mono (yldΦ_mono h _ m) (Nat.le_refl _) hN⟩, hs.2⟩
  · cases e
/-- at one fuel, and so at all greater ones -/
theorem Runs.of_at {tab : Nat → Option PC} {ext : Nat → Option (Funs → List D → Option D)} (hx : ∀ f g, ext f = some g → ∀ Φ Ψ, Le Φ Ψ → ∀ ds d, g Φ ds = some d → g Ψ ds = some d) (n : Nat) {f : Nat} {ds : List D} {d : D} (h : Tab tab ext n f ds = some d) : Runs (Tab tab ext) f ds d :=
  ⟨n, fun m hm => Tab_mono hx hm f ds d h⟩

/-! what is looked up -/
theorem Env.setR_r (ρ : Env) (t u : Nat) (d : D) : (ρ.setR t d).r u = if u = t then d else ρ.r u := by simp only [Env.setR, upd_apply]
theorem Env.setR_o (ρ : Env) (t u : Nat) (d : D) : (ρ.setR t d).o u = ρ.o u := rfl
theorem Env.setO_o (ρ : Env) (t u : Nat) (d : D) : (ρ.setO t d).o u = if u = t then d else ρ.o u := by simp only [Env.setO, upd_apply]
theorem Env.setO_r (ρ : Env) (t u : Nat) (d : D) : (ρ.setO t d).r u = ρ.r u := rfl
theorem Env.put_r (ρ : Env) (lr lo : List Nat) (vr vo : List D) (u : Nat) : (ρ.put lr vr lo vo).r u = putL ρ.r lr vr u := rfl
theorem Env.put_o (ρ : Env) (lr lo : List Nat) (vr vo : List D) (u : Nat) : (ρ.put lr vr lo vo).o u = putL ρ.o lo vo u := rfl
theorem Env.join_r (ρ ρ' : Env) (lr lo : List Nat) (u : Nat) : (ρ.join lr lo ρ').r u = if u ∈ lr then ρ'.r u else ρ.r u := by simp only [Env.join, Env.put, putL_map]
theorem Env.join_o (ρ ρ' : Env) (lr lo : List Nat) (u : Nat) : (ρ.join lr lo ρ').o u = if u ∈ lo then ρ'.o u else ρ.o u := by simp only [Env.join, Env.put, putL_map]
theorem putL_cons (f : Nat → D) (i : Nat) (is : List Nat) (x : D) (xs : List D) (u : Nat) : putL f (i :: is) (x :: xs) u = if u = i then x else putL f is xs u := by simp only [putL, upd_apply]
theorem putL_nil (f : Nat → D) (xs : List D) (u : Nat) : putL f [] xs u = f u := by cases xs <;> rfl
theorem env0_r (ds : List D) (u : Nat) : (env0 ds).r u = ds.getD u .none := rfl
theorem env0_o (ds : List D) (u : Nat) : (env0 ds).o u = .none := rfl
theorem holds_nil (ρ : Env) : holds [] ρ = true := rfl
theorem holds_cons (g : Nat × Bool) (gs : List (Nat × Bool)) (ρ : Env) : holds (g :: gs) ρ = ((ρ.r g.1).b == g.2 && holds gs ρ) := rfl
theorem D.b_bool' (x : Bool) : (D.bool x).b = x := rfl
theorem D.i_int' (n : Int) : (D.int n).i = n := rfl
theorem D.cells_list (x : List D) : (D.list x).cells = [.list x] := rfl
theorem D.cells_v (x : Value) : (D.v x).cells = [.v x] := rfl
theorem D.cells_map (x : List (D × D)) : (D.map x).cells = [.map x] := rfl
theorem D.cells_none : D.none.cells = [.none] := rfl
theorem D.tget_tup (x : List D) (i : Nat) : (D.tup x).tget i = x.getD i .none := rfl
theorem D.deref_ref (x : D) : (D.ref x).deref = x := rfl
theorem D.m_map (x : List (D × D)) : (D.map x).m = x := rfl
theorem D.c_agg (x : List D) (i : Nat) : (D.agg x).c i = x.getD i .none := rfl
end Cx
