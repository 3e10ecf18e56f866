/-
  Div64 and part.
-/
import Derived.Test.YtjkeifcibnadcaaEsF
set_option linter.unusedSimpArgs false
set_option linter.unusedVariables false
namespace Esta
open Go Go.Proofs Cx

theorem lz_runs (y : Nat) (h : y < 18446744073709551616) : Runs T 61 [u y] (.int ((64 - l64 y : Nat) : Int)) := by
  refine .of_tree rfl rfl tr61_eq ?_
  have hb := (l64_bl h).2.2.2
  have hw : IntKind.i64.wrap (64 - (l64 y : Nat)) = ((64 - l64 y : Nat) : Int) := by rw [wrap64_id (by omega)]; omega
  simp [tr61]
  refine ⟨_, len64_runs y h, ?_⟩
  simp [hw]

set_option maxHeartbeats 4000000 in
theorem div64_runs (hi lo y : Nat) (hy : 0 < y) (hhi : hi < y) (hlo : lo < 18446744073709551616) (hy2 : y < 18446744073709551616) :
    ∃ d2, Runs T 57 [u hi, u lo, u y] (.tup [u ((hi * 18446744073709551616 + lo) / y), d2]) := by
  suffices h : EvP T pc57 (env0 [u hi, u lo, u y]) (fun x => ∃ d2, x = .ret (.tup [u ((hi * 18446744073709551616 + lo) / y), d2])) by
    obtain ⟨x, ⟨d2, rfl⟩, hx⟩ := h
    exact ⟨d2, .of_pc rfl rfl ⟨_, rfl, hx⟩⟩
  refine wpC_ok _ ?_
  have c1 : ¬ y = 0 := by omega
  have c2 : ¬ y ≤ hi := by omega
  by_cases c3 : hi = 0
  · subst c3
    have hq : IntKind.u64.wrap ((lo : Int) / (y : Int)) = ((lo / y : Nat) : Int) := by
      rw [← Int.natCast_ediv]
      exact wu64_nat (Nat.lt_of_le_of_lt (Nat.div_le_self ..) hlo)
    simp [pc57, wpC, wpI, seqQ, joinQ, c1, c2, hq]
  · have hb := l64_bl hy2
    obtain ⟨L, hL⟩ : ∃ L, L = l64 y := ⟨_, rfl⟩
    have hlz := lz_runs y hy2
    rw [← hL] at hb hlz
    have hL0 : 0 < L := by
      rcases Nat.eq_zero_or_pos L with h | h
      · have := hb.1 h; omega
      · exact h
    have hLs := hb.2.2.2
    obtain ⟨s, hs⟩ : ∃ s, s = 64 - L := ⟨_, rfl⟩
    obtain ⟨s', hs'⟩ : ∃ s', s' = L := ⟨_, rfl⟩
    rw [← hs] at hlz
    have hpw : 2 ^ s' * 2 ^ s = 18446744073709551616 := by rw [← Nat.pow_add, show s' + s = 64 by omega]
    have hpw2 : 2 ^ (L - 1) * 2 ^ s = 9223372036854775808 := by rw [← Nat.pow_add, show L - 1 + s = 63 by omega]
    have hv1 : y * 2 ^ s < 18446744073709551616 := by rw [← hpw]; exact Nat.mul_lt_mul_of_pos_right (by rw [hs']; exact hb.2.2.1) (Nat.two_pow_pos s)
    have hv2 : 9223372036854775808 ≤ y * 2 ^ s := by rw [← hpw2]; exact Nat.mul_le_mul_right _ (hb.2.1 hL0)
    have ws : IntKind.u64.wrap (s : Int) = s := wu64_nat (by omega)
    have e39 : arI .shl .u64 (y : Int) (s : Int) = ((y * 2 ^ s : Nat) : Int) := by rw [shl_nat y s (by omega), Nat.mod_eq_of_lt hv1]
    have hlob : lo / 2 ^ s' < 2 ^ s := by rw [Nat.div_lt_iff_lt_mul (Nat.two_pow_pos s'), Nat.mul_comm, hpw]; exact hlo
    have hps : 0 < 2 ^ s := Nat.two_pow_pos s
    have hhi2 : hi * 2 ^ s + 2 ^ s ≤ y * 2 ^ s := by rw [← Nat.succ_mul]; exact Nat.mul_le_mul_right _ hhi
    have e46 : arI .shl .u64 (hi : Int) (s : Int) = ((hi * 2 ^ s : Nat) : Int) := by rw [shl_nat hi s (by omega), Nat.mod_eq_of_lt (by omega)]
    have e49 : IntKind.u64.wrap (64 - (s : Int)) = s' := by rw [wu64 (by omega)]; omega
    have e50 : arI .shr .u64 (lo : Int) (s' : Int) = ((lo / 2 ^ s' : Nat) : Int) := shr_nat lo s' (by omega)
    have e51 : arI .or .u64 ((hi * 2 ^ s : Nat) : Int) ((lo / 2 ^ s' : Nat) : Int) = ((hi * 2 ^ s + lo / 2 ^ s' : Nat) : Int) := or_nat _ _ s (by omega) hlob (Nat.mul_mod_left ..) (by omega)
    have e54 : arI .shl .u64 (lo : Int) (s : Int) = ((lo * 2 ^ s % 18446744073709551616 : Nat) : Int) := shl_nat lo s (by omega)
    -- the numbers' own law
    have law : ((hi * 2 ^ s + lo / 2 ^ s') * 18446744073709551616 + lo * 2 ^ s % 18446744073709551616) / (y * 2 ^ s) = (hi * 18446744073709551616 + lo) / y := by
      have h1 : lo * 2 ^ s / 18446744073709551616 = lo / 2 ^ s' := by rw [← hpw]; exact Nat.mul_div_mul_right _ _ (Nat.two_pow_pos s)
      have h2 := Nat.div_add_mod (lo * 2 ^ s) 18446744073709551616
      rw [h1] at h2
      have h3 : (hi * 2 ^ s + lo / 2 ^ s') * 18446744073709551616 + lo * 2 ^ s % 18446744073709551616 = (hi * 18446744073709551616 + lo) * 2 ^ s := by
        rw [Nat.add_mul, Nat.add_mul, Nat.mul_right_comm hi]
        omega
      rw [h3]; exact Nat.mul_div_mul_right _ _ (Nat.two_pow_pos s)
    have hu : hi * 2 ^ s + lo / 2 ^ s' < y * 2 ^ s := by omega
    have hun : lo * 2 ^ s % 18446744073709551616 < 18446744073709551616 := Nat.mod_lt _ (by decide)
    clear hb hpw hpw2 hlob hhi2 hL
    rw [← law]
    clear law
    generalize y * 2 ^ s = v at *
    generalize hi * 2 ^ s + lo / 2 ^ s' = u32 at *
    generalize lo * 2 ^ s % 18446744073709551616 = un at *
    have e41 : arI .shr .u64 (v : Int) 32 = ((v / 4294967296 : Nat) : Int) := shr32 v
    have e43 : arI .and .u64 (v : Int) 4294967295 = ((v % 4294967296 : Nat) : Int) := and_nat v hv1
    have e56 : arI .shr .u64 (un : Int) 32 = ((un / 4294967296 : Nat) : Int) := shr32 un
    have e58 : arI .and .u64 (un : Int) 4294967295 = ((un % 4294967296 : Nat) : Int) := and_nat un hun
    have hv : v = v / 4294967296 * 4294967296 + v % 4294967296 := by omega
    have hn : un = un / 4294967296 * 4294967296 + un % 4294967296 := by omega
    have hv1a : 2147483648 ≤ v / 4294967296 := by omega
    have hv1b : v / 4294967296 < 4294967296 := by omega
    have hv0 : v % 4294967296 < 4294967296 := by omega
    have hn1 : un / 4294967296 < 4294967296 := by omega
    have hn0 : un % 4294967296 < 4294967296 := by omega
    generalize v / 4294967296 = v1 at *
    generalize v % 4294967296 = v0 at *
    generalize un / 4294967296 = n1 at *
    generalize un % 4294967296 = n0 at *
    have ev1 : ¬ v1 = 0 := by omega
    have e61 : IntKind.u64.wrap ((u32 : Int) / (v1 : Int)) = ((u32 / v1 : Nat) : Int) := by
      rw [← Int.natCast_ediv]; exact wu64_nat (Nat.lt_of_le_of_lt (Nat.div_le_self ..) (by omega))
    have hqv : u32 / v1 * v1 + u32 % v1 = u32 := Nat.div_add_mod' u32 v1
    have e65 : IntKind.u64.wrap (((u32 / v1 : Nat) : Int) * (v1 : Int)) = ((u32 / v1 * v1 : Nat) : Int) := by
      rw [← Int.natCast_mul]; exact wu64_nat (by omega)
    have e66 : IntKind.u64.wrap ((u32 : Int) - ((u32 / v1 * v1 : Nat) : Int)) = ((u32 % v1 : Nat) : Int) := by
      rw [wu64 (by omega)]; omega
    simp [pc57, wpC, wpI, seqQ, joinQ, c1, c2, c3, -shr32, -Int.natCast_add, -Int.natCast_mul, -Int.natCast_ediv, -Int.natCast_emod]
    refine ⟨_, hlz, ?_⟩
    simp [-shr32, -Int.natCast_add, -Int.natCast_mul, -Int.natCast_ediv, -Int.natCast_emod, ws, e39, e41, e43, e46, e49, e50, e51, e54, e56, e58, ev1, e61, e65, e66]
    refine loop0_ok _ (u32 / v1) (u32 % v1) v1 v0 u32 n1 hv0 hv1a hv1b hn1 (by omega) rfl rfl (by simp) (by simp) (by simp) (by simp) (by simp) _ _ fun ρ hq hk => ?_
    have k2 : ρ.r 2 = u v := by rw [hk 2 (by simp)]; simp
    have k8 : ρ.r 8 = u s := by rw [hk 8 (by simp)]; simp
    have k9 : ρ.r 9 = u v1 := by rw [hk 9 (by simp)]; simp
    have k10 : ρ.r 10 = u v0 := by rw [hk 10 (by simp)]; simp
    have k11 : ρ.r 11 = u u32 := by rw [hk 11 (by simp)]; simp
    have k13 : ρ.r 13 = u n1 := by rw [hk 13 (by simp)]; simp
    have k14 : ρ.r 14 = u n0 := by rw [hk 14 (by simp)]; simp
    clear hk
    rw [← hv] at hq
    obtain ⟨q1, hq1⟩ : ∃ q1, q1 = (u32 * 4294967296 + n1) / v := ⟨_, rfl⟩
    obtain ⟨R, hR⟩ : ∃ R, R = (u32 * 4294967296 + n1) % v := ⟨_, rfl⟩
    rw [← hq1] at hq
    have hvp : 0 < v := by omega
    have hRlt : R < v := by rw [hR]; exact Nat.mod_lt _ hvp
    have hqR : q1 * v + R = u32 * 4294967296 + n1 := by rw [hq1, hR]; exact Nat.div_add_mod' _ v
    have hq1b : q1 < 4294967296 := by rw [hq1, Nat.div_lt_iff_lt_mul hvp]; omega
    have e93 : IntKind.u64.wrap (IntKind.u64.wrap (IntKind.u64.wrap ((u32 : Int) * 4294967296) + (n1 : Int)) - IntKind.u64.wrap ((q1 : Int) * (v : Int))) = (R : Int) := by
      have h1 : (q1 : Int) * (v : Int) + (R : Int) = (u32 : Int) * 4294967296 + n1 := by rw [← Int.natCast_mul]; omega
      simp only [wu64_mod]
      generalize (q1 : Int) * (v : Int) = M at *
      omega
    have e96 : IntKind.u64.wrap ((R : Int) / (v1 : Int)) = ((R / v1 : Nat) : Int) := by
      rw [← Int.natCast_ediv]; exact wu64_nat (Nat.lt_of_le_of_lt (Nat.div_le_self ..) (by omega))
    have hqv2 : R / v1 * v1 + R % v1 = R := Nat.div_add_mod' R v1
    have e100 : IntKind.u64.wrap (((R / v1 : Nat) : Int) * (v1 : Int)) = ((R / v1 * v1 : Nat) : Int) := by
      rw [← Int.natCast_mul]; exact wu64_nat (by omega)
    have e101 : IntKind.u64.wrap ((R : Int) - ((R / v1 * v1 : Nat) : Int)) = ((R % v1 : Nat) : Int) := by
      rw [wu64 (by omega)]; omega
    simp [-shr32, -Int.natCast_add, -Int.natCast_mul, -Int.natCast_ediv, -Int.natCast_emod, k2, k9, k11, k13, hq, ev1, e93, e96, e100, e101]
    refine loop1_ok _ (R / v1) (R % v1) v1 v0 R n0 hv0 hv1a hv1b hn0 (by omega) rfl rfl (by simp [k9]) (by simp [k10]) (by simp [k14]) (by simp) (by simp) _ _ fun σ hq2 hk => ?_
    have j15 : σ.r 15 = u q1 := by rw [hk 15 (by simp)]; simp [hq]
    have j8 : σ.r 8 = u s := by rw [hk 8 (by simp)]; simp [k8]
    rw [← hv] at hq2
    clear hk
    obtain ⟨q0, hq0⟩ : ∃ q0, q0 = (R * 4294967296 + n0) / v := ⟨_, rfl⟩
    rw [← hq0] at hq2
    have hq0b : q0 < 4294967296 := by rw [hq0, Nat.div_lt_iff_lt_mul hvp]; omega
    have w1 : IntKind.u64.wrap (IntKind.u64.wrap ((q1 : Int) * 4294967296) + (q0 : Int)) = ((q1 * 4294967296 + q0 : Nat) : Int) := by
      rw [wu64 (n := (q1 : Int) * 4294967296) (by omega), wu64 (by omega)]; omega
    have fin : (u32 * 18446744073709551616 + un) / v = q1 * 4294967296 + q0 := by
      have h1 : u32 * 18446744073709551616 + un = R * 4294967296 + n0 + v * (q1 * 4294967296) := by
        have : v * (q1 * 4294967296) = (q1 * v) * 4294967296 := by rw [← Nat.mul_assoc, Nat.mul_comm v q1]
        omega
      rw [h1, Nat.add_mul_div_left _ _ hvp, ← hq0]; omega
    rw [fin]
    simp [wpC, wpI, seqQ, j8, j15, hq2, w1, -Int.natCast_add, -Int.natCast_mul]

set_option maxHeartbeats 2000000 in
theorem mul64_runs (a b : Nat) (ha : a < 18446744073709551616) (hb : b < 18446744073709551616) : Runs T 56 [u a, u b] (.tup [u (a * b / 18446744073709551616), u (a * b % 18446744073709551616)]) := by
  refine .of_tree rfl rfl tr56_eq ?_
  obtain ⟨h1, h2, h3, h4⟩ := Go.Lib.mul64_hi a b ha hb
  have elo : IntKind.u64.wrap ((a : Int) * (b : Int)) = ((a * b % 18446744073709551616 : Nat) : Int) := by rw [wu64_mod, Int.natCast_emod, Int.natCast_mul]; rfl
  have ea1 : arI .shr .u64 (a : Int) 32 = ((a / 4294967296 : Nat) : Int) := shr32 a
  have ea0 : arI .and .u64 (a : Int) 4294967295 = ((a % 4294967296 : Nat) : Int) := and_nat a ha
  have eb1 : arI .shr .u64 (b : Int) 32 = ((b / 4294967296 : Nat) : Int) := shr32 b
  have eb0 : arI .and .u64 (b : Int) 4294967295 = ((b % 4294967296 : Nat) : Int) := and_nat b hb
  have hm11 := Go.Lib.half_mul_le (a := a / 4294967296) (b := b / 4294967296) (by omega) (by omega)
  have hm10 := Go.Lib.half_mul_le (a := a / 4294967296) (b := b % 4294967296) (by omega) (by omega)
  have hm01 := Go.Lib.half_mul_le (a := a % 4294967296) (b := b / 4294967296) (by omega) (by omega)
  have hm00 := Go.Lib.half_mul_le (a := a % 4294967296) (b := b % 4294967296) (by omega) (by omega)
  have hhi : a * b / 18446744073709551616 < 18446744073709551616 := by
    have : a * b < 18446744073709551616 * 18446744073709551616 := Nat.mul_lt_mul'' ha hb
    exact Nat.div_lt_of_lt_mul this
  simp only [tr56]
  generalize a / 4294967296 = a1 at *
  generalize a % 4294967296 = a0 at *
  generalize b / 4294967296 = b1 at *
  generalize b % 4294967296 = b0 at *
  have p11 : IntKind.u64.wrap ((a1 : Int) * (b1 : Int)) = ((a1 * b1 : Nat) : Int) := by rw [← Int.natCast_mul]; exact wu64_nat (by omega)
  have p10 : IntKind.u64.wrap ((a1 : Int) * (b0 : Int)) = ((a1 * b0 : Nat) : Int) := by rw [← Int.natCast_mul]; exact wu64_nat (by omega)
  have p01 : IntKind.u64.wrap ((a0 : Int) * (b1 : Int)) = ((a0 * b1 : Nat) : Int) := by rw [← Int.natCast_mul]; exact wu64_nat (by omega)
  have p00 : IntKind.u64.wrap ((a0 : Int) * (b0 : Int)) = ((a0 * b0 : Nat) : Int) := by rw [← Int.natCast_mul]; exact wu64_nat (by omega)
  rw [← h4] at hhi ⊢
  generalize a1 * b1 = P at *
  generalize a1 * b0 = Q at *
  generalize a0 * b1 = R at *
  generalize a0 * b0 = S at *
  have s1 : arI .shr .u64 (S : Int) 32 = ((S / 4294967296 : Nat) : Int) := shr32 S
  have s2 : IntKind.u64.wrap ((Q : Int) + ((S / 4294967296 : Nat) : Int)) = ((Q + S / 4294967296 : Nat) : Int) := by rw [wu64 (by omega)]; omega
  generalize S / 4294967296 = S1 at *
  generalize hT : Q + S1 = TT at *
  have s3 : arI .shr .u64 (TT : Int) 32 = ((TT / 4294967296 : Nat) : Int) := shr32 TT
  have s4 : arI .and .u64 (TT : Int) 4294967295 = ((TT % 4294967296 : Nat) : Int) := and_nat TT (by omega)
  have s5 : IntKind.u64.wrap (((TT % 4294967296 : Nat) : Int) + (R : Int)) = ((TT % 4294967296 + R : Nat) : Int) := by rw [wu64 (by omega)]; omega
  generalize hU : TT % 4294967296 + R = U at *
  have s6 : arI .shr .u64 (U : Int) 32 = ((U / 4294967296 : Nat) : Int) := shr32 U
  have s7 : IntKind.u64.wrap ((P : Int) + ((TT / 4294967296 : Nat) : Int)) = ((P + TT / 4294967296 : Nat) : Int) := by rw [wu64 (by omega)]; omega
  have s8 : IntKind.u64.wrap (((P + TT / 4294967296 : Nat) : Int) + ((U / 4294967296 : Nat) : Int)) = ((P + TT / 4294967296 + U / 4294967296 : Nat) : Int) := by rw [wu64 (by omega)]; omega
  simp [-shr32, -Int.natCast_add, -Int.natCast_mul, -Int.natCast_ediv, -Int.natCast_emod, elo, ea1, ea0, eb1, eb0, p11, p10, p01, p00, s1, s2, s3, s4, s5, s6, s7, s8]

/-- the product of two numbers, divided -/
theorem part_runs (a b c : Nat) (ha : a ≤ 1099511627776) (hb : b ≤ 1099511627776) (hc : b ≤ c) (hc0 : 0 < c) (hc2 : c < 9223372036854775808) (hr : a * b / c < 9223372036854775808) : Runs T 54 [.int a, .int b, .int c] (.int ((a * b / c : Nat) : Int)) := by
  refine .of_tree rfl rfl tr54_eq ?_
  have ha2 : a < 18446744073709551616 := by omega
  have hb2 : b < 18446744073709551616 := by omega
  have wa : IntKind.u64.wrap (a : Int) = a := wu64_nat ha2
  have wb : IntKind.u64.wrap (b : Int) = b := wu64_nat hb2
  have wc : IntKind.u64.wrap (c : Int) = c := wu64_nat (by omega)
  have hm : a * b ≤ 1099511627776 * b := Nat.mul_le_mul_right _ ha
  have hhi : a * b / 18446744073709551616 < c := by omega
  obtain ⟨d2, hdiv⟩ := div64_runs (a * b / 18446744073709551616) (a * b % 18446744073709551616) c hc0 hhi (Nat.mod_lt _ (by decide)) (by omega)
  have e1 : a * b / 18446744073709551616 * 18446744073709551616 + a * b % 18446744073709551616 = a * b := Nat.div_add_mod' _ _
  rw [e1] at hdiv
  have wr : IntKind.i64.wrap ((a * b / c : Nat) : Int) = ((a * b / c : Nat) : Int) := by
    have := Int.natCast_nonneg (a * b / c)
    have h2 : ((a * b / c : Nat) : Int) < 9223372036854775808 := by exact Int.ofNat_lt.2 hr
    exact wrap64_id (by omega)
  generalize a * b / c = z at *
  simp [tr54, wa, wb, wc]
  refine ⟨_, mul64_runs a b ha2 hb2, ?_⟩
  simp [wc, -Int.natCast_add, -Int.natCast_mul, -Int.natCast_ediv, -Int.natCast_emod]
  refine ⟨_, hdiv, ?_⟩
  simp [wr, -Int.natCast_add, -Int.natCast_mul, -Int.natCast_ediv, -Int.natCast_emod]
end Esta
