/-
  Numbers of 64 bits without a sign; Len64; what Mul64 computes.
-/
import Derived.Test.YtjkeifcibnadcaaEsD
import Derived.Lib.Mul64
set_option linter.unusedSimpArgs false
set_option linter.unusedVariables false
namespace Esta
open Go Go.Proofs Cx

abbrev u (n : Nat) : D := .v (.int .u64 n)
theorem wu64_mod (n : Int) : IntKind.u64.wrap n = n % 18446744073709551616 := rfl
theorem wu64 {n : Int} (h : 0 ≤ n ∧ n < 18446744073709551616) : IntKind.u64.wrap n = n := by
  rw [wu64_mod]; omega
theorem wu64_nat {n : Nat} (h : n < 18446744073709551616) : IntKind.u64.wrap (n : Int) = n := wu64 (by omega)
theorem shr_nat (a s : Nat) (h : s ≤ 64) : arI .shr .u64 a s = ((a / 2 ^ s : Nat) : Int) := by
  show Int.fdiv (a : Int) (2 ^ (min (s : Int).toNat 64)) = _
  have : min (s : Int).toNat 64 = s := by simp; omega
  rw [this, Int.fdiv_eq_ediv_of_nonneg _ (Int.le_of_lt (Int.pow_pos (by decide)))]
  rw [Int.natCast_ediv, Int.natCast_pow]; rfl
theorem shl_nat (a s : Nat) (h : s ≤ 64) : arI .shl .u64 a s = ((a * 2 ^ s % 18446744073709551616 : Nat) : Int) := by
  show IntKind.u64.wrap ((a : Int) * (2 ^ (min (s : Int).toNat 64))) = _
  have : min (s : Int).toNat 64 = s := by simp; omega
  rw [this, wu64_mod, Int.natCast_emod, Int.natCast_mul, Int.natCast_pow]; rfl
theorem and_nat (a : Nat) (h : a < 18446744073709551616) : arI .and .u64 a 4294967295 = ((a % 4294967296 : Nat) : Int) := by
  show IntKind.u64.wrap ((BitVec.ofInt 64 (a : Int) &&& BitVec.ofInt 64 4294967295).toNat : Nat) = _
  have e : (BitVec.ofInt 64 (a : Int) &&& BitVec.ofInt 64 4294967295).toNat = a % 4294967296 := by
    rw [BitVec.toNat_and]
    have e1 : (BitVec.ofInt 64 (a : Int)).toNat = a := by simp [BitVec.ofInt, BitVec.toNat_ofNat]; omega
    have e2 : (BitVec.ofInt 64 4294967295).toNat = 2 ^ 32 - 1 := by decide
    rw [e1, e2, Nat.and_two_pow_sub_one_eq_mod]
  rw [e, wu64_nat (by omega)]
theorem or_nat (a b s : Nat) (h : a < 18446744073709551616) (hb : b < 2 ^ s) (ha : a % 2 ^ s = 0) (hs : s ≤ 64) : arI .or .u64 a b = ((a + b : Nat) : Int) := by
  show IntKind.u64.wrap ((BitVec.ofInt 64 (a : Int) ||| BitVec.ofInt 64 (b : Int)).toNat : Nat) = _
  have hb' : b < 18446744073709551616 := Nat.lt_of_lt_of_le hb (by have := Nat.pow_le_pow_right (n := 2) (by decide) hs; simpa using this)
  have e1 : ∀ n : Nat, n < 18446744073709551616 → (BitVec.ofInt 64 (n : Int)).toNat = n := fun n hn => by simp [BitVec.ofInt, BitVec.toNat_ofNat]; omega
  have e : (BitVec.ofInt 64 (a : Int) ||| BitVec.ofInt 64 (b : Int)).toNat = a + b := by
    rw [BitVec.toNat_or, e1 a h, e1 b hb']
    have e3 : a = 2 ^ s * (a / 2 ^ s) := by have := Nat.div_add_mod a (2 ^ s); omega
    rw [e3]
    exact (Nat.two_pow_add_eq_or_of_lt hb (a / 2 ^ s)).symm
  have hlt : a + b < 18446744073709551616 := by rw [← e]; exact BitVec.isLt _
  rw [e, wu64_nat hlt]

def bl (x L : Nat) : Prop := (L = 0 → x = 0) ∧ (0 < L → 2 ^ (L - 1) ≤ x) ∧ x < 2 ^ L ∧ L ≤ 64
def len8B : ByteArray := ⟨#[0, 1, 2, 2, 3, 3, 3, 3, 4, 4, 4, 4, 4, 4, 4, 4, 5, 5, 5, 5, 5, 5, 5, 5, 5, 5, 5, 5, 5, 5, 5, 5, 6, 6, 6, 6, 6, 6, 6, 6, 6, 6, 6, 6, 6, 6, 6, 6, 6, 6, 6, 6, 6, 6, 6, 6, 6, 6, 6, 6, 6, 6, 6, 6, 7, 7, 7, 7, 7, 7, 7, 7, 7, 7, 7, 7, 7, 7, 7, 7, 7, 7, 7, 7, 7, 7, 7, 7, 7, 7, 7, 7, 7, 7, 7, 7, 7, 7, 7, 7, 7, 7, 7, 7, 7, 7, 7, 7, 7, 7, 7, 7, 7, 7, 7, 7, 7, 7, 7, 7, 7, 7, 7, 7, 7, 7, 7, 7, 8, 8, 8, 8, 8, 8, 8, 8, 8, 8, 8, 8, 8, 8, 8, 8, 8, 8, 8, 8, 8, 8, 8, 8, 8, 8, 8, 8, 8, 8, 8, 8, 8, 8, 8, 8, 8, 8, 8, 8, 8, 8, 8, 8, 8, 8, 8, 8, 8, 8, 8, 8, 8, 8, 8, 8, 8, 8, 8, 8, 8, 8, 8, 8, 8, 8, 8, 8, 8, 8, 8, 8, 8, 8, 8, 8, 8, 8, 8, 8, 8, 8, 8, 8, 8, 8, 8, 8, 8, 8, 8, 8, 8, 8, 8, 8, 8, 8, 8, 8, 8, 8, 8, 8, 8, 8, 8, 8, 8, 8, 8, 8, 8, 8, 8, 8, 8, 8, 8, 8, 8, 8, 8, 8, 8, 8, 8, 8]⟩
def len8 (y : Nat) : Nat := (len8B.data.getD y 0).toNat
theorem len8_all : (List.range 256).all (fun y => (len8 y == 0 && y == 0 || Nat.ble (2 ^ (len8 y - 1)) y && Nat.blt 0 (len8 y)) && Nat.blt y (2 ^ len8 y) && Nat.ble (len8 y) 8) = true := by kernel_rfl
theorem len8_bl {y : Nat} (h : y < 256) : ((len8 y = 0 ∧ y = 0) ∨ (2 ^ (len8 y - 1) ≤ y ∧ 0 < len8 y)) ∧ y < 2 ^ len8 y ∧ len8 y ≤ 8 := by
  have := List.all_eq_true.1 len8_all y (List.mem_range.2 h)
  simp only [Bool.and_eq_true, Bool.or_eq_true, beq_iff_eq, Nat.ble_eq, Nat.blt_eq] at this
  exact ⟨this.1.1, this.1.2, this.2⟩
theorem bl_small {y : Nat} (h : y < 256) : bl y (len8 y) := by
  obtain ⟨h1, h2, h3⟩ := len8_bl h
  refine ⟨fun h0 => ?_, fun h0 => ?_, h2, by omega⟩
  · rcases h1 with h1 | h1
    · exact h1.2
    · omega
  · rcases h1 with h1 | h1
    · omega
    · exact h1.1
theorem bl_up {x s L : Nat} (hx : 2 ^ s ≤ x) (h : bl (x / 2 ^ s) L) (hs : L + s ≤ 64) : bl x (L + s) := by
  have hp : 0 < 2 ^ s := Nat.two_pow_pos s
  have hL : 0 < L := by
    rcases Nat.eq_zero_or_pos L with h0 | h0
    · have := h.1 h0
      have := Nat.div_pos hx hp
      omega
    · exact h0
  refine ⟨fun h0 => by omega, fun _ => ?_, ?_, hs⟩
  · have h1 := h.2.1 hL
    have e : L + s - 1 = (L - 1) + s := by omega
    rw [e, Nat.pow_add]
    exact (Nat.le_div_iff_mul_le hp).1 h1
  · rw [Nat.pow_add]
    exact (Nat.div_lt_iff_lt_mul hp).1 h.2.2.1
@[simp] theorem ev_sidx' (ρ : Env) (x i : PE) : PE.ev ρ (.sidx x i) = .v (.int .u8 ((PE.ev ρ x).s.data.getD (PE.ev ρ i).i.toNat 0).toNat) := _root_.id rfl
@[simp] theorem ev_sok' (ρ : Env) (x i : PE) : PE.ev ρ (.sok x i) = .v (.bool (decide (0 ≤ (PE.ev ρ i).i ∧ (PE.ev ρ i).i < (PE.ev ρ x).s.size))) := _root_.id rfl
@[simp] theorem wu8 {n : Nat} (h : n < 256) : IntKind.u8.wrap (n : Int) = n := by
  show (n : Int) % 256 = n
  omega
@[simp] theorem shr32 (a : Nat) : arI .shr .u64 a 32 = ((a / 4294967296 : Nat) : Int) := shr_nat a 32 (by decide)
@[simp] theorem shr16 (a : Nat) : arI .shr .u64 a 16 = ((a / 65536 : Nat) : Int) := shr_nat a 16 (by decide)
@[simp] theorem shr8 (a : Nat) : arI .shr .u64 a 8 = ((a / 256 : Nat) : Int) := shr_nat a 8 (by decide)
theorem len8B_eq : (⟨#[0, 1, 2, 2, 3, 3, 3, 3, 4, 4, 4, 4, 4, 4, 4, 4, 5, 5, 5, 5, 5, 5, 5, 5, 5, 5, 5, 5, 5, 5, 5, 5, 6, 6, 6, 6, 6, 6, 6, 6, 6, 6, 6, 6, 6, 6, 6, 6, 6, 6, 6, 6, 6, 6, 6, 6, 6, 6, 6, 6, 6, 6, 6, 6, 7, 7, 7, 7, 7, 7, 7, 7, 7, 7, 7, 7, 7, 7, 7, 7, 7, 7, 7, 7, 7, 7, 7, 7, 7, 7, 7, 7, 7, 7, 7, 7, 7, 7, 7, 7, 7, 7, 7, 7, 7, 7, 7, 7, 7, 7, 7, 7, 7, 7, 7, 7, 7, 7, 7, 7, 7, 7, 7, 7, 7, 7, 7, 7, 8, 8, 8, 8, 8, 8, 8, 8, 8, 8, 8, 8, 8, 8, 8, 8, 8, 8, 8, 8, 8, 8, 8, 8, 8, 8, 8, 8, 8, 8, 8, 8, 8, 8, 8, 8, 8, 8, 8, 8, 8, 8, 8, 8, 8, 8, 8, 8, 8, 8, 8, 8, 8, 8, 8, 8, 8, 8, 8, 8, 8, 8, 8, 8, 8, 8, 8, 8, 8, 8, 8, 8, 8, 8, 8, 8, 8, 8, 8, 8, 8, 8, 8, 8, 8, 8, 8, 8, 8, 8, 8, 8, 8, 8, 8, 8, 8, 8, 8, 8, 8, 8, 8, 8, 8, 8, 8, 8, 8, 8, 8, 8, 8, 8, 8, 8, 8, 8, 8, 8, 8, 8, 8, 8, 8, 8, 8, 8]⟩ : ByteArray) = len8B := rfl
theorem len8B_size : len8B.size = 256 := by kernel_rfl
theorem len8_eq (y : Nat) : (len8B.data[y]?.getD 0).toNat = len8 y := by simp [len8]
def pc65t : PC :=
      .seq (.is [.setR 19 (.r 2),
        .setR 20 (.r 0),
        .setR 21 (.conv .u8 (.r 20)),
        .chk (.sok (.con (.v (.string len8B))) (.r 21)),
        .setR 22 (.sidx (.con (.v (.string len8B))) (.r 21)),
        .setR 23 (.conv .i64 (.r 22)),
        .setR 24 (.ai .add .i64 (.r 19) (.r 23)),
        .setR 2 (.r 24)])
      (.ret (.r 2))
theorem pc65t_ok (ρ : Env) (y n : Nat) (h : y < 256) (hn : n ≤ 100) (h0 : ρ.r 0 = u y) (h2 : ρ.r 2 = .int n) : EvP T pc65t ρ (fun x => x = .ret (.int (n + len8 y : Nat))) := by
  have hy := (len8_bl h).2.2
  have hw : IntKind.u8.wrap (y : Int) = y := wu8 h
  have hw2 : IntKind.i64.wrap ((len8 y : Nat) : Int) = len8 y := wrap64_id (by omega)
  have hw3 : IntKind.i64.wrap ((n : Int) + (len8 y : Nat)) = n + (len8 y : Nat) := wrap64_id (by omega)
  refine wpC_ok _ ?_
  unfold pc65t
  simp [wpC, wpI, seqQ, h0, h2, hw, len8B_size, len8_eq, hw2, hw3, D.s_str]
  omega
def pc65a : PC := .seq
    (.is [.setR 3 (.r 0),
      .setR 4 (.ci .geq (.r 3) (.con (.v (.int .u64 4294967296))))])
    (.ite (.r 4) [0, 2] []
     (.seq
      (.is [.setR 5 (.r 0),
        .chk (.ci .geq (.con (.v (.int .u64 32))) (.con (.int 0))),
        .setR 6 (.ai .shr .u64 (.r 5) (.con (.v (.int .u64 32)))),
        .setR 0 (.r 6)])
      (.is [.setR 2 (.con (.int 32))]))
     .skip)
def pc65b (a b c e f : Nat) (K s : Nat) : PC := .seq
     (.is [.setR a (.r 0),
       .setR b (.ci .geq (.r a) (.con (.v (.int .u64 K))))])
     (.ite (.r b) [0, 2] []
      (.seq
       (.is [.setR c (.r 0),
         .chk (.ci .geq (.con (.v (.int .u64 s))) (.con (.int 0))),
         .setR (c + 1) (.ai .shr .u64 (.r c) (.con (.v (.int .u64 s)))),
         .setR 0 (.r (c + 1))])
       (.is [.setR e (.r 2),
         .setR f (.ai .add .i64 (.r e) (.con (.int s))),
         .setR 2 (.r f)]))
      .skip)
theorem pc65_eq : pc65 = .seq (.is [.setR 2 (.con (.int 0))]) (.seq pc65a (.seq (pc65b 7 8 9 11 12 65536 16) (.seq (pc65b 13 14 15 17 18 256 8) pc65t))) := by kernel_rfl
theorem pc65a_ok (ρ : Env) (x : Nat) (h0 : ρ.r 0 = u x) (h2 : ρ.r 2 = .int 0) (K : Env → Prop) (Q : Out → Prop)
    (hK : ∀ ρ' : Env, ρ'.r 0 = u (if 4294967296 ≤ x then x / 4294967296 else x) → ρ'.r 2 = .int ((if 4294967296 ≤ x then 32 else 0 : Nat) : Int) → K ρ') : EvP T pc65a ρ (seqQ K Q) := by
  refine wpC_ok _ ?_
  unfold pc65a
  by_cases h : 4294967296 ≤ x
  · have h' : (4294967296 : Int) ≤ x := by omega
    simp [wpC, wpI, seqQ, joinQ, h0, h2, h']
    refine hK _ ?_ ?_ <;> simp [h0, h2, h]
  · have h' : ¬ (4294967296 : Int) ≤ x := by omega
    simp [wpC, wpI, seqQ, joinQ, h0, h2, h']
    refine hK _ ?_ ?_ <;> simp [h0, h2, h]
theorem pc65b1_ok (ρ : Env) (x n : Nat) (hn : n ≤ 1000) (h0 : ρ.r 0 = u x) (h2 : ρ.r 2 = .int n) (K : Env → Prop) (Q : Out → Prop)
    (hK : ∀ ρ' : Env, ρ'.r 0 = u (if 65536 ≤ x then x / 65536 else x) → ρ'.r 2 = .int ((if 65536 ≤ x then n + 16 else n : Nat) : Int) → K ρ') : EvP T (pc65b 7 8 9 11 12 65536 16) ρ (seqQ K Q) := by
  refine wpC_ok _ ?_
  unfold pc65b
  have hw : IntKind.i64.wrap ((n : Int) + 16) = n + 16 := wrap64_id (by omega)
  by_cases h : 65536 ≤ x
  · have h' : (65536 : Int) ≤ x := by omega
    simp [wpC, wpI, seqQ, joinQ, h0, h2, h']
    refine hK _ ?_ ?_ <;> simp [h0, h2, h, hw]
  · have h' : ¬ (65536 : Int) ≤ x := by omega
    simp [wpC, wpI, seqQ, joinQ, h0, h2, h']
    refine hK _ ?_ ?_ <;> simp [h0, h2, h, hw]
theorem pc65b2_ok (ρ : Env) (x n : Nat) (hn : n ≤ 1000) (h0 : ρ.r 0 = u x) (h2 : ρ.r 2 = .int n) (K : Env → Prop) (Q : Out → Prop)
    (hK : ∀ ρ' : Env, ρ'.r 0 = u (if 256 ≤ x then x / 256 else x) → ρ'.r 2 = .int ((if 256 ≤ x then n + 8 else n : Nat) : Int) → K ρ') : EvP T (pc65b 13 14 15 17 18 256 8) ρ (seqQ K Q) := by
  refine wpC_ok _ ?_
  unfold pc65b
  have hw : IntKind.i64.wrap ((n : Int) + 8) = n + 8 := wrap64_id (by omega)
  by_cases h : 256 ≤ x
  · have h' : (256 : Int) ≤ x := by omega
    simp [wpC, wpI, seqQ, joinQ, h0, h2, h']
    refine hK _ ?_ ?_ <;> simp [h0, h2, h, hw]
  · have h' : ¬ (256 : Int) ≤ x := by omega
    simp [wpC, wpI, seqQ, joinQ, h0, h2, h']
    refine hK _ ?_ ?_ <;> simp [h0, h2, h, hw]

def l8 (x : Nat) : Nat := if 256 ≤ x then len8 (x / 256) + 8 else len8 x
def l16 (x : Nat) : Nat := if 65536 ≤ x then l8 (x / 65536) + 16 else l8 x
def l64 (x : Nat) : Nat := if 4294967296 ≤ x then l16 (x / 4294967296) + 32 else l16 x
theorem l8_bl {x : Nat} (h : x < 65536) : bl x (l8 x) := by
  unfold l8
  split
  · rename_i h1
    exact bl_up (s := 8) h1 (bl_small (by omega)) (by have := (len8_bl (y := x / 256) (by omega)).2.2; omega)
  · exact bl_small (by omega)
theorem l8_le {x : Nat} (h : x < 65536) : l8 x ≤ 16 := by
  unfold l8
  split
  · have := (len8_bl (y := x / 256) (by omega)).2.2; omega
  · have := (len8_bl (y := x) (by omega)).2.2; omega
theorem l16_bl {x : Nat} (h : x < 4294967296) : bl x (l16 x) ∧ l16 x ≤ 32 := by
  unfold l16
  split
  · rename_i h1
    have := l8_le (x := x / 65536) (by omega)
    exact ⟨bl_up (s := 16) h1 (l8_bl (by omega)) (by omega), by omega⟩
  · have := l8_le (x := x) (by omega)
    exact ⟨l8_bl (by omega), by omega⟩
theorem l64_bl {x : Nat} (h : x < 18446744073709551616) : bl x (l64 x) := by
  unfold l64
  split
  · rename_i h1
    have := l16_bl (x := x / 4294967296) (by omega)
    exact bl_up (s := 32) h1 this.1 (by omega)
  · exact (l16_bl (by omega)).1
theorem len64_runs (x : Nat) (h : x < 18446744073709551616) : Runs T 65 [u x] (.int (l64 x : Nat)) := by
  refine .of_pc rfl rfl ?_
  rw [pc65_eq]
  refine .seq (.is ?_)
  simp only [wpI, seqQ]
  refine .seq (pc65a_ok _ x rfl rfl _ _ fun ρ h0 h2 => .seq (pc65b1_ok ρ _ _ (by split <;> omega) h0 h2 _ _ fun ρ h0 h2 => .seq (pc65b2_ok ρ _ _ (by (repeat' split) <;> omega) h0 h2 _ _ fun ρ h0 h2 => ?_)))
  have hb : (if 256 ≤ (if 65536 ≤ (if 4294967296 ≤ x then x / 4294967296 else x) then (if 4294967296 ≤ x then x / 4294967296 else x) / 65536 else (if 4294967296 ≤ x then x / 4294967296 else x)) then (if 65536 ≤ (if 4294967296 ≤ x then x / 4294967296 else x) then (if 4294967296 ≤ x then x / 4294967296 else x) / 65536 else (if 4294967296 ≤ x then x / 4294967296 else x)) / 256 else (if 65536 ≤ (if 4294967296 ≤ x then x / 4294967296 else x) then (if 4294967296 ≤ x then x / 4294967296 else x) / 65536 else (if 4294967296 ≤ x then x / 4294967296 else x))) < 256 := by
    repeat' split
    all_goals omega
  refine (pc65t_ok ρ _ _ hb (by (repeat' split) <;> omega) h0 h2).mono fun y hy => ?_
  rw [hy]
  refine congrArg (fun n : Nat => Out.ret (D.int n)) ?_
  unfold l64 l16 l8
  by_cases h1 : 4294967296 ≤ x
  · by_cases h2 : 65536 ≤ x / 4294967296
    · by_cases h3 : 256 ≤ x / 4294967296 / 65536 <;> simp only [h1, h2, h3, if_true, if_false] <;> omega
    · by_cases h3 : 256 ≤ x / 4294967296 <;> simp only [h1, h2, h3, if_true, if_false] <;> omega
  · by_cases h2 : 65536 ≤ x
    · by_cases h3 : 256 ≤ x / 65536 <;> simp only [h1, h2, h3, if_true, if_false] <;> omega
    · by_cases h3 : 256 ≤ x <;> simp only [h1, h2, h3, if_true, if_false] <;> omega
end Esta
