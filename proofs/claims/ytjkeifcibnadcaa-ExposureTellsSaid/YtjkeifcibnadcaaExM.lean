/-
  Sets of a number's bits; their order; ExposureWorst.
-/
import Derived.Test.YtjkeifcibnadcaaExI
set_option linter.unusedSimpArgs false
set_option linter.unusedVariables false
namespace Expo
open Go Go.Proofs Cx

theorem bit_at (b g : Nat) (hg : g < 64) : arI .and .i64 (arI .shr .i64 (b : Int) (g : Int)) 1 = if b.testBit g then 1 else 0 := by
  have e1 : arI .shr .i64 (b : Int) (g : Int) = ((b / 2 ^ g : Nat) : Int) := by
    show (b : Int).fdiv (2 ^ (min (g : Int).toNat 64)) = _
    have : min (g : Int).toNat 64 = g := by simp; omega
    rw [this, Int.fdiv_eq_ediv_of_nonneg _ (by exact Int.le_of_lt (Int.pow_pos (by decide)))]
    norm_cast
  rw [e1]
  have e2 : ∀ q : Nat, (BitVec.ofInt IntKind.i64.bits (q : Int) &&& BitVec.ofInt IntKind.i64.bits 1).toNat = q % 2 := fun q => by
    show (BitVec.ofInt 64 (q : Int) &&& 1#64).toNat = _
    rw [BitVec.toNat_and, BitVec.ofInt_natCast, BitVec.toNat_ofNat, show (1#64).toNat = 1 from rfl, Nat.and_one_is_mod]
    omega
  show IntKind.i64.wrap _ = _
  rw [e2, wrap64_id (by omega), Nat.testBit_eq_decide_div_mod_eq]
  have : b / 2 ^ g % 2 < 2 := Nat.mod_lt _ (by omega)
  by_cases h : b / 2 ^ g % 2 = 1
  · simp [h]
  · have h0 : b / 2 ^ g % 2 = 0 := by omega
    simp [h0]

def membL (b n : Nat) : List Int := ((List.range n).filter fun g => b.testBit g).map fun (g : Nat) => (g : Int)
theorem membL_succ (b n : Nat) : membL b (n + 1) = membL b n ++ if b.testBit n then [(n : Int)] else [] := by
  unfold membL
  rw [List.range_succ, List.filter_append, List.map_append]
  congr 1
  by_cases h : b.testBit n <;> simp [h]
theorem membL_len (b : Nat) : ∀ n, (membL b n).length ≤ n
  | 0 => by simp [membL]
  | n + 1 => by
    have := membL_len b n
    rw [membL_succ, List.length_append]
    split <;> simp <;> omega
theorem members_runs (b : Nat) (n : Int) (hn : n ≤ 20) : Runs T 24 [.int b, .int n] (ints (membL b n.toNat)) := by
  refine .of_tree rfl rfl tr24_eq ?_
  simp only [tr24, wp_brk]
  refine EvP.forRounds n.toNat (fun k => [.none, .int k]) (fun k => [ints (membL b k)]) ?_ (fun k hk => ?_) ?_
  · simp [membL, ints]
  · have hw1 : IntKind.i64.wrap ((k : Int) + 1) = (k : Int) + 1 := wrap64_id (by omega)
    have hb := bit_at b k (by omega)
    have hl := membL_len b k
    have hlt : (k : Int) < n := by omega
    simp only [rd24_0_eq, rd24_0, wp_ite, wp_chk, wp_next, roundQ_next]
    rw [if_pos (by simp; exact hlt)]
    refine ⟨by simp, ?_⟩
    by_cases hc : b.testBit k
    · rw [if_pos (by simp [hb, hc])]
      refine ⟨by simp; omega, ?_⟩
      simp [hw1, membL_succ, hc, ints]
    · rw [if_neg (by simp [hb, hc])]
      simp [hw1, membL_succ, hc]
  · simp [rd24_0_eq, rd24_0]
    omega

theorem memb_pair (b : Nat) : ∀ n, (membL b n).Pairwise (· < ·) ∧ ∀ x, x ∈ membL b n → 0 ≤ x ∧ x < n
  | 0 => by simp [membL]
  | n + 1 => by
    have ih := memb_pair b n
    rw [membL_succ]
    by_cases h : b.testBit n
    · rw [if_pos h]
      refine ⟨List.pairwise_append.2 ⟨ih.1, by simp, fun x hx y hy => ?_⟩, fun x hx => ?_⟩
      · simp at hy; subst hy; exact (ih.2 x hx).2
      · rcases List.mem_append.1 hx with hx | hx
        · have := ih.2 x hx; omega
        · simp at hx; omega
    · rw [if_neg h, List.append_nil]
      exact ⟨ih.1, fun x hx => by have := ih.2 x hx; omega⟩
theorem vset_of_pair {n : Int} {c : List Int} (h : c.Pairwise (· < ·)) (hr : ∀ x, x ∈ c → 0 ≤ x ∧ x < n) : vset n c := by
  intro k hk
  have e : c.getD k 0 = c[k] := by rw [List.getD_eq_getElem?_getD, List.getElem?_eq_getElem hk]; rfl
  have h1 := hr c[k] (List.getElem_mem _)
  rw [e]
  refine ⟨h1.1, h1.2, fun h0 => ?_⟩
  have e2 : c.getD (k - 1) 0 = c[k - 1] := by rw [List.getD_eq_getElem?_getD, List.getElem?_eq_getElem (by omega)]; rfl
  rw [e2]
  exact List.pairwise_iff_getElem.1 h (k - 1) k (by omega) hk (by omega)
theorem memb_vset (b n : Nat) : vset n (membL b n) := vset_of_pair (memb_pair b n).1 (memb_pair b n).2
theorem vset.take {n : Int} {c : List Int} (h : vset n c) (k : Nat) : vset n (c.take k) := by
  intro j hj
  rw [List.length_take] at hj
  have e : ∀ i, i < k → (c.take k).getD i 0 = c.getD i 0 := fun i hi => by
    rw [List.getD_eq_getElem?_getD, List.getD_eq_getElem?_getD, List.getElem?_take, if_pos hi]
  have := h j (by omega)
  rw [e j (by omega)]
  exact ⟨this.1, this.2.1, fun h0 => by rw [e _ (by omega)]; exact this.2.2 h0⟩

noncomputable instance (a b : List Int) : Decidable (before a b) := Classical.propDecidable _
theorem before_runs (a b : List Int) (ha : a.length ≤ maxLen) (hb : b.length ≤ maxLen) : Runs T 25 [ints a, ints b] (.bool (decide (before a b))) := by
  rw [maxLen_eq] at ha hb
  refine .of_tree rfl rfl tr25_eq ?_
  simp only [tr25, wp_ite]
  by_cases hl : a.length = b.length
  case neg =>
    rw [if_pos (by simp; omega)]
    simp
    by_cases hlt : a.length < b.length
    · simp [hlt, before]
    · simp [hlt, before, hl]
  rw [if_neg (by simp [hl])]
  simp only [wp_brk]
  refine EvP.scan a.length (fun k => a.getD k 0 = b.getD k 0) (fun k => [.bool false, .int k]) (fun _ => []) ?_ (fun k hk hj ho => ?_) (fun k hk hj ho => ?_) (fun hj => ?_)
  · simp
  · have hw1 : IntKind.i64.wrap ((k : Int) + 1) = (k : Int) + 1 := wrap64_id (by omega)
    have hk' : k < b.length := by omega
    simp [hk, hk'] at ho
    simp [rd25_0_eq, rd25_0, hk, hk', ho, hw1]
  · have hk' : k < b.length := by omega
    have key : before a b ↔ a.getD k 0 < b.getD k 0 := by
      constructor
      · rintro (h | ⟨_, i, hi, h1, h2⟩)
        · omega
        · by_cases e : i = k
          · subst e; exact h2
          · by_cases hlt : i < k
            · have := hj i hlt; omega
            · exact absurd (h1 k (by omega)) ho
      · intro h; exact .inr ⟨hl, k, hk, hj, h⟩
    simp [hk, hk'] at ho key
    simp [rd25_0_eq, rd25_0, hk, hk', ho, key]
  · have : ¬ before a b := by
      rintro (h | ⟨_, i, hi, h1, h2⟩)
      · omega
      · have := hj i hi; omega
    simp [rd25_0_eq, rd25_0, this]
theorem sorted_loop (ρ : Env) (n : Int) (f : List Int) (hv : vset n f) (hf : f.length ≤ 100) (h1 : ρ.r 1 = .int n) (h11 : ρ.r 11 = ints f) (h8 : ρ.r 8 = .bool false) (h13 : ρ.r 13 = .int 0) {Q : Out → Prop}
    (hQ : ∀ v8 v13 v70 v71 v72 v73, Q (.next (ρ.put [8, 13, 70, 71, 72, 73] [v8, v13, v70, v71, v72, v73] [] []))) : EvP T lp4_0 ρ Q := by
  refine EvP.forRounds f.length (fun k => [.bool false, .int k]) (fun _ => []) ?_ (fun k hk => ?_) ?_
  · simp [h8, h13]
  · have hw1 : IntKind.i64.wrap ((k : Int) + 1) = (k : Int) + 1 := wrap64_id (by omega)
    have hvk := hv k hk
    have e : f.getD k 0 = f[k] := by rw [List.getD_eq_getElem?_getD, List.getElem?_eq_getElem hk]; rfl
    rw [e] at hvk
    by_cases hk0 : k = 0
    · subst hk0
      simp at hvk
      simp [rd4_0_eq, rd4_0, h11, h1, hk, hw1]
      omega
    · have hk1 : k - 1 < f.length := by omega
      have hw : IntKind.i64.wrap ((k : Int) - 1) = ((k - 1 : Nat) : Int) := by rw [wrap64_id (by omega)]; omega
      have e2 : f.getD (k - 1) 0 = f[k - 1] := by rw [List.getD_eq_getElem?_getD, List.getElem?_eq_getElem hk1]; rfl
      rw [e2] at hvk
      have h3 := hvk.2.2 (by omega)
      simp [rd4_0_eq, rd4_0, h11, h1, hk, hw1, hw, hk1, hk0]
      omega
  · simp [rd4_0_eq, rd4_0, h11]
    exact hQ _ _ _ _ _ _

set_option maxRecDepth 20000 in
theorem worst4_runs (l : List Held) (n k : Int) (b : Nat) (hb : b < 4294967296) (hl : l.length ≤ maxLen) (hg : ∀ h, h ∈ l → h.2.length ≤ maxLen) : Runs T 4 [helds l, .int n, .int k, .v (.int .u32 b)] (.bool true) := by
  refine .of_tree rfl rfl tr4_eq ?_
  simp only [tr4, wp_call, holds_nil', if_true]
  refine ⟨_, sane_runs, ?_⟩
  refine ⟨_, few_runs l hl, ?_⟩
  cases hfew : fewB l with
  | false => simp
  | true =>
    rw [if_pos (by simp)]
    refine ⟨_, right_runs l hl hg, ?_⟩
    by_cases hok : Rt l ∧ 0 ≤ n ∧ n ≤ 20 ∧ 0 ≤ k ∧ k ≤ 3 ∧ k ≤ n
    case neg =>
      simp only [wp_ite]
      rw [if_pos]
      · simp
      · by_cases hr : Rt l
        · simp [hr] at hok ⊢; omega
        · simp [hr]
    obtain ⟨hr, n0, n1, k0, k1, kn⟩ := hok
    simp only [wp_ite]
    rw [if_neg (by simp [hr]; omega)]
    obtain ⟨_, _, m, f, hw, hR⟩ := ((worst_runs l n k hl hg).resolve_left fun h => h.1 ⟨hr, n0, n1, k0, kn⟩).resolve_left fun h => by have := h.2.1; omega
    simp only [wp_call, holds_nil', if_true]
    refine ⟨_, by simpa using hR, ?_⟩
    obtain ⟨v1, v2, v3, v4⟩ := id hw
    have hflen := v1.len n0
    have hmx : (100 : Nat) ≤ maxLen := by rw [maxLen_eq]; omega
    have hfk : ¬ (k < (f.length : Int)) := by omega
    rw [if_pos (by simp [hfk])]
    refine ⟨_, by simpa using loss18_runs l f hl hg (by omega), ?_⟩
    simp only [wp_ite]
    rw [if_neg (by simp [hfk, lossS_eq hr, v3])]
    simp only [wp_brk]
    refine sorted_loop _ n f v1 (by omega) (by simp) (by simp) (by simp) (by simp) (fun _ _ _ _ _ _ => ?_)
    simp only [seqQ_next, wp_call, holds_nil', if_true]
    obtain ⟨N, rfl⟩ := Int.eq_ofNat_of_zero_le n0
    obtain ⟨K, rfl⟩ := Int.eq_ofNat_of_zero_le k0
    have hwb : IntKind.i64.wrap (b : Int) = b := wrap64_id (by omega)
    refine ⟨_, by simpa [hwb] using members_runs b N n1, ?_⟩
    have hml := membL_len b N
    have fin : ∀ other, vset N other → other.length ≤ K → (lossP l other < m ∨ (lossP l other = m ∧ ¬ before other f)) := fun other h1 h2 => v4 other h1 (by simpa using h2)
    simp only [wp_ite]
    by_cases hc : (K : Int) < (membL b N).length
    · rw [if_pos (by simp; omega)]
      have hvt := (memb_vset b N).take K
      have hlt : ((membL b N).take K).length ≤ K := by simp; omega
      have hfin := fin _ hvt hlt
      simp only [wp_chk, wp_call, holds_nil', if_true]
      refine ⟨by simp; omega, _, by simpa [ints, List.map_take] using loss18_runs l ((membL b N).take K) hl hg (by omega), ?_⟩
      by_cases hlt2 : lossP l ((membL b N).take K) < m
      · have hle : ¬ (m ≤ lossP l ((membL b N).take K)) := by omega
        simp [lossS_eq hr, hlt2, hle]
      · have heq := hfin.resolve_left hlt2
        simp [lossS_eq hr, heq.1]
        refine ⟨_, by simpa [ints, List.map_take] using before_runs ((membL b N).take K) f (by omega) (by omega), by simp [heq.2]⟩
    · rw [if_neg (by simp; omega)]
      have hfin := fin _ (memb_vset b N) (by omega)
      simp only [wp_chk, wp_call, holds_nil', if_true]
      refine ⟨_, by simpa using loss18_runs l (membL b N) hl hg (by omega), ?_⟩
      by_cases hlt2 : lossP l (membL b N) < m
      · have hle : ¬ (m ≤ lossP l (membL b N)) := by omega
        simp [lossS_eq hr, hlt2, hle]
      · have heq := hfin.resolve_left hlt2
        simp [lossS_eq hr, heq.1]
        refine ⟨_, by simpa using before_runs (membL b N) f (by omega) (by omega), by simp [heq.2]⟩
end Expo
