/-
  Div64 divides.
-/
import Derived.Test.YtjkeifcibnadcaaEsE
set_option linter.unusedSimpArgs false
set_option linter.unusedVariables false
namespace Esta
open Go Go.Proofs Cx

/-- A loop in its block. -/
theorem wpC_loop {T : Funs'} {id : Nat} {lrb lob lr lo : List Nat} {a : PC} {ρ : Env} {Q : Out → Prop} {α : Type} (inv : α → List D → List D → Prop) (meas : α → Nat) (s0 : α) (h0 : inv s0 (lr.map ρ.r) (lo.map ρ.o))
    (step : ∀ s vr vo, inv s vr vo → PTwp T (round id lrb lob lr lo a) (ρ.put lr vr lo vo) (roundQ ρ id lrb lob lr lo (fun vr vo => ∃ s', meas s' < meas s ∧ inv s' vr vo) Q)) : wpC T (.block id lrb lob (.loop lr lo a)) ρ Q := by
  show EvP T (.loop lr lo a) ρ (blockQ ρ id lrb lob Q)
  refine (.loop inv meas s0 h0 fun s vr vo hi => ?_)
  have h := step s vr vo hi
  refine sx_ok (s := .id) a (Asm.ok_nil _) h (fun ρ' asm s' _ _ h => ?_) (fun ρ' asm id' s' _ _ h => ?_) (fun _ id' ρ' h => ?_) (fun d h => h)
  · simp only [PTwp, roundQ] at h
    rw [SE.keep_r, SE.keep_o] at h
    exact h
  · simp only [seqQ, blockQ]
    by_cases hid : id' = id
    · subst hid
      simp only [Nat.beq_refl, cond_true, PTwp, roundQ, if_true] at h
      rw [SE.keep_r, SE.keep_o] at h
      rw [if_pos rfl]; exact h
    · rw [beq_ne hid, cond_false] at h
      simp only [PTwp, roundQ] at h
      rw [if_neg hid] at h ⊢; exact h
  · simp only [seqQ, blockQ]
    simp only [roundQ] at h
    split
    · rename_i e; rw [if_pos e] at h; exact h
    · rename_i e; rw [if_neg e] at h; exact h
theorem digit_init {v1 v0 u32 d : Nat} (hv : 0 < v1) (hd : d < 4294967296) (hu : u32 < v1 * 4294967296 + v0) : (u32 * 4294967296 + d) / (v1 * 4294967296 + v0) ≤ u32 / v1 := by
  have h1 : (u32 * 4294967296 + d) / (v1 * 4294967296 + v0) ≤ (u32 * 4294967296 + d) / (v1 * 4294967296) := Nat.div_le_div_left (by omega) (by omega)
  have h2 : (u32 * 4294967296 + d) / (v1 * 4294967296) = u32 / v1 := by
    rw [Nat.mul_comm v1, ← Nat.div_div_eq_div_mul]
    congr 1; omega
  omega
theorem digit_top {v1 v0 u32 : Nat} (hv0 : v0 < 4294967296) (hv1 : 2147483648 ≤ v1) (hu : u32 < v1 * 4294967296 + v0) : u32 / v1 ≤ 4294967297 := by
  have h1 : u32 / v1 * v1 ≤ u32 := Nat.div_mul_le_self u32 v1
  have h2 : u32 / v1 * v1 < 4294967298 * v1 := by omega
  have := Nat.lt_of_mul_lt_mul_right h2
  omega
theorem digit_mul (q v1 v0 : Nat) : q * (v1 * 4294967296 + v0) = q * v1 * 4294967296 + q * v0 := by rw [Nat.mul_add, Nat.mul_assoc]
theorem digit_more {v1 v0 u32 d q r : Nat} (hu : u32 < v1 * 4294967296 + v0) (hd : d < 4294967296) (h1 : q * v1 + r = u32) (c : 4294967296 ≤ q ∨ 4294967296 * r + d < q * v0) : (u32 * 4294967296 + d) / (v1 * 4294967296 + v0) < q := by
  rw [Nat.div_lt_iff_lt_mul (by omega)]
  rcases c with c | c
  · have h2 : 4294967296 * (v1 * 4294967296 + v0) ≤ q * (v1 * 4294967296 + v0) := Nat.mul_le_mul_right _ c
    omega
  · rw [digit_mul]; omega
theorem digit_less {v1 v0 u32 d q r : Nat} (hv : 0 < v1) (h1 : q * v1 + r = u32) (c : q * v0 ≤ 4294967296 * r + d) : q ≤ (u32 * 4294967296 + d) / (v1 * 4294967296 + v0) := by
  rw [Nat.le_div_iff_mul_le (by omega), digit_mul]; omega
theorem digit_done {v1 v0 u32 d q r : Nat} (hv0 : v0 < 4294967296) (h1 : q * v1 + r = u32) (hu : u32 < v1 * 4294967296 + v0) (c : 4294967296 ≤ r) : q ≤ (u32 * 4294967296 + d) / (v1 * 4294967296 + v0) := by
  have hv : 0 < v1 * 4294967296 + v0 := by omega
  have hq : q < 4294967296 := by
    rcases Nat.lt_or_ge q 4294967296 with h | h
    · exact h
    · have : 4294967296 * v1 ≤ q * v1 := Nat.mul_le_mul_right _ h
      omega
  have h2 : q * v0 ≤ 4294967295 * 4294967295 := Nat.mul_le_mul (by omega) (by omega)
  rw [Nat.le_div_iff_mul_le hv, digit_mul]; omega

theorem loop0_ok (ρ : Env) (q0 r0 v1 v0 u32 d : Nat) (hv0 : v0 < 4294967296) (hv1 : 2147483648 ≤ v1) (hv1' : v1 < 4294967296) (hd : d < 4294967296) (hu : u32 < v1 * 4294967296 + v0)
    (hq : q0 = u32 / v1) (hr : r0 = u32 % v1) (h9 : ρ.r 9 = u v1) (h10 : ρ.r 10 = u v0) (hdr : ρ.r 13 = u d) (hqr : ρ.r 15 = u q0) (hrr : ρ.r 16 = u r0) (K : Env → Prop) (Q : Out → Prop)
    (hK : ∀ ρ' : Env, ρ'.r 15 = u ((u32 * 4294967296 + d) / (v1 * 4294967296 + v0)) → (∀ t, t ∉ [15, 16, 67, 68, 69, 78] → ρ'.r t = ρ.r t) → K ρ') : wpC T lp57_0 ρ (seqQ K Q) := by
  have dm := fun q r => digit_more (v1 := v1) (v0 := v0) (u32 := u32) (d := d) (q := q) (r := r) hu hd
  have dl := fun q r => digit_less (v1 := v1) (v0 := v0) (u32 := u32) (d := d) (q := q) (r := r) (by omega)
  have dd := fun q r => digit_done (v1 := v1) (v0 := v0) (u32 := u32) (d := d) (q := q) (r := r) hv0
  have di := digit_init (v1 := v1) (v0 := v0) (u32 := u32) (d := d) (by omega) hd hu
  have hQ0 : 0 ≤ (u32 * 4294967296 + d) / (v1 * 4294967296 + v0) := Nat.zero_le _
  generalize (u32 * 4294967296 + d) / (v1 * 4294967296 + v0) = QQ at *
  refine wpC_loop (α := Nat × Nat) (fun s vr vo => s.1 * v1 + s.2 = u32 ∧ QQ ≤ s.1 ∧ s.2 < 4294967296 ∧ s.1 ≤ 4294967297 ∧ vr = [u s.1, u s.2] ∧ vo = []) (fun s => s.1) (q0, r0) ⟨?_, ?_, ?_, ?_, ?_, rfl⟩ ?_
  · subst hq hr; exact Nat.div_add_mod' u32 v1
  · subst hq; exact di
  · subst hr; have := Nat.mod_lt u32 (show v1 > 0 by omega); omega
  · subst hq; exact digit_top hv0 hv1 hu
  · simp [hqr, hrr]
  · rintro ⟨q, r⟩ vr vo ⟨h1, h2, h3, h4, rfl, rfl⟩
    dsimp only at h1 h2 h3 h4
    have hm : q * v0 ≤ 4294967297 * 4294967295 := Nat.mul_le_mul h4 (by omega)
    have w1 : IntKind.u64.wrap ((q : Int) * (v0 : Int)) = (q * v0 : Nat) := by rw [← Int.natCast_mul]; exact wu64_nat (by omega)
    have w2 : IntKind.u64.wrap (4294967296 * (r : Int)) = (4294967296 * r : Nat) := by rw [wu64 (by omega)]; omega
    have w3 : IntKind.u64.wrap (((4294967296 * r : Nat) : Int) + (d : Int)) = (4294967296 * r + d : Nat) := by rw [wu64 (by omega)]; omega
    have dm := dm q r h1
    have dl := dl q r h1
    generalize q * v0 = M at *
    by_cases c : 4294967296 ≤ q ∨ 4294967296 * r + d < M
    · have hlt := dm c
      have w4 : IntKind.u64.wrap ((q : Int) - 1) = (q - 1 : Nat) := by rw [wu64 (by omega)]; omega
      have w5 : IntKind.u64.wrap ((r : Int) + (v1 : Int)) = (r + v1 : Nat) := by rw [wu64 (by omega)]; omega
      have e1 : (q - 1) * v1 + (r + v1) = u32 := by rw [Nat.sub_mul, Nat.one_mul]; have : v1 ≤ q * v1 := Nat.le_mul_of_pos_left v1 (by omega); omega
      have cI2 : (4294967296 : Int) ≤ (q : Int) ∨ 4294967296 * r + d < M := by omega
      by_cases c2 : 4294967296 ≤ r + v1
      · have c2I : (4294967296 : Int) ≤ ((r + v1 : Nat) : Int) := by omega
        have := dd _ _ e1 hu c2
        have e2 : q - 1 = QQ := by omega
        simp [rd57_0_eq, rd57_0, h9, h10, hdr, w1, w2, w3, w4, w5, cI2, c2I, -Int.natCast_add, -Int.natCast_mul]
        refine hK _ ?_ ?_
        · simp [w4, e2]
        · intro t ht; simp at ht; simp [ht]
      · have c2I : ¬ (4294967296 : Int) ≤ ((r + v1 : Nat) : Int) := by omega
        simp [rd57_0_eq, rd57_0, h9, h10, hdr, w1, w2, w3, w4, w5, cI2, c2I, -Int.natCast_add, -Int.natCast_mul]
        exact ⟨q - 1, by omega, r + v1, e1, by omega, by omega, by omega, rfl, rfl⟩
    · have := dl (by omega)
      have e2 : q = QQ := by omega
      have cI2 : ¬ ((4294967296 : Int) ≤ (q : Int)) := by omega
      have cI3 : ¬ (4294967296 * r + d < M) := by omega
      simp [rd57_0_eq, rd57_0, h9, h10, hdr, w1, w2, w3, cI2, cI3, -Int.natCast_add, -Int.natCast_mul]
      refine hK _ ?_ ?_
      · simp [e2]
      · intro t ht; simp at ht; simp [ht]

theorem loop1_ok (ρ : Env) (q0 r0 v1 v0 u32 d : Nat) (hv0 : v0 < 4294967296) (hv1 : 2147483648 ≤ v1) (hv1' : v1 < 4294967296) (hd : d < 4294967296) (hu : u32 < v1 * 4294967296 + v0)
    (hq : q0 = u32 / v1) (hr : r0 = u32 % v1) (h9 : ρ.r 9 = u v1) (h10 : ρ.r 10 = u v0) (hdr : ρ.r 14 = u d) (hqr : ρ.r 18 = u q0) (hrr : ρ.r 16 = u r0) (K : Env → Prop) (Q : Out → Prop)
    (hK : ∀ ρ' : Env, ρ'.r 18 = u ((u32 * 4294967296 + d) / (v1 * 4294967296 + v0)) → (∀ t, t ∉ [16, 18, 102, 103, 104, 113] → ρ'.r t = ρ.r t) → K ρ') : wpC T lp57_1 ρ (seqQ K Q) := by
  have dm := fun q r => digit_more (v1 := v1) (v0 := v0) (u32 := u32) (d := d) (q := q) (r := r) hu hd
  have dl := fun q r => digit_less (v1 := v1) (v0 := v0) (u32 := u32) (d := d) (q := q) (r := r) (by omega)
  have dd := fun q r => digit_done (v1 := v1) (v0 := v0) (u32 := u32) (d := d) (q := q) (r := r) hv0
  have di := digit_init (v1 := v1) (v0 := v0) (u32 := u32) (d := d) (by omega) hd hu
  have hQ0 : 0 ≤ (u32 * 4294967296 + d) / (v1 * 4294967296 + v0) := Nat.zero_le _
  generalize (u32 * 4294967296 + d) / (v1 * 4294967296 + v0) = QQ at *
  refine wpC_loop (α := Nat × Nat) (fun s vr vo => s.1 * v1 + s.2 = u32 ∧ QQ ≤ s.1 ∧ s.2 < 4294967296 ∧ s.1 ≤ 4294967297 ∧ vr = [u s.2, u s.1] ∧ vo = []) (fun s => s.1) (q0, r0) ⟨?_, ?_, ?_, ?_, ?_, rfl⟩ ?_
  · subst hq hr; exact Nat.div_add_mod' u32 v1
  · subst hq; exact di
  · subst hr; have := Nat.mod_lt u32 (show v1 > 0 by omega); omega
  · subst hq; exact digit_top hv0 hv1 hu
  · simp [hqr, hrr]
  · rintro ⟨q, r⟩ vr vo ⟨h1, h2, h3, h4, rfl, rfl⟩
    dsimp only at h1 h2 h3 h4
    have hm : q * v0 ≤ 4294967297 * 4294967295 := Nat.mul_le_mul h4 (by omega)
    have w1 : IntKind.u64.wrap ((q : Int) * (v0 : Int)) = (q * v0 : Nat) := by rw [← Int.natCast_mul]; exact wu64_nat (by omega)
    have w2 : IntKind.u64.wrap (4294967296 * (r : Int)) = (4294967296 * r : Nat) := by rw [wu64 (by omega)]; omega
    have w3 : IntKind.u64.wrap (((4294967296 * r : Nat) : Int) + (d : Int)) = (4294967296 * r + d : Nat) := by rw [wu64 (by omega)]; omega
    have dm := dm q r h1
    have dl := dl q r h1
    generalize q * v0 = M at *
    by_cases c : 4294967296 ≤ q ∨ 4294967296 * r + d < M
    · have hlt := dm c
      have w4 : IntKind.u64.wrap ((q : Int) - 1) = (q - 1 : Nat) := by rw [wu64 (by omega)]; omega
      have w5 : IntKind.u64.wrap ((r : Int) + (v1 : Int)) = (r + v1 : Nat) := by rw [wu64 (by omega)]; omega
      have e1 : (q - 1) * v1 + (r + v1) = u32 := by rw [Nat.sub_mul, Nat.one_mul]; have : v1 ≤ q * v1 := Nat.le_mul_of_pos_left v1 (by omega); omega
      have cI2 : (4294967296 : Int) ≤ (q : Int) ∨ 4294967296 * r + d < M := by omega
      by_cases c2 : 4294967296 ≤ r + v1
      · have c2I : (4294967296 : Int) ≤ ((r + v1 : Nat) : Int) := by omega
        have := dd _ _ e1 hu c2
        have e2 : q - 1 = QQ := by omega
        simp [rd57_1_eq, rd57_1, h9, h10, hdr, w1, w2, w3, w4, w5, cI2, c2I, -Int.natCast_add, -Int.natCast_mul]
        refine hK _ ?_ ?_
        · simp [w4, e2]
        · intro t ht; simp at ht; simp [ht]
      · have c2I : ¬ (4294967296 : Int) ≤ ((r + v1 : Nat) : Int) := by omega
        simp [rd57_1_eq, rd57_1, h9, h10, hdr, w1, w2, w3, w4, w5, cI2, c2I, -Int.natCast_add, -Int.natCast_mul]
        exact ⟨q - 1, by omega, r + v1, e1, by omega, by omega, by omega, rfl, rfl⟩
    · have := dl (by omega)
      have e2 : q = QQ := by omega
      have cI2 : ¬ ((4294967296 : Int) ≤ (q : Int)) := by omega
      have cI3 : ¬ (4294967296 * r + d < M) := by omega
      simp [rd57_1_eq, rd57_1, h9, h10, hdr, w1, w2, w3, cI2, cI3, -Int.natCast_add, -Int.natCast_mul]
      refine hK _ ?_ ?_
      · simp [e2]
      · intro t ht; simp at ht; simp [ht]
end Esta
