/-
  Masks, losses.
-/
import Derived.Test.YtjkeifcibnadcaaExC
set_option linter.unusedSimpArgs false
set_option linter.unusedVariables false
namespace Expo
open Go Go.Proofs Cx

def maskStep (m : BitVec 32) (g : Int) : BitVec 32 := if 0 ≤ g ∧ g < 20 then m ||| (1#32 <<< g.toNat) else m
def maskB (l : List Int) : BitVec 32 := l.foldl maskStep 0
def u32 (m : BitVec 32) : D := .v (.int .u32 m.toNat)

@[simp] theorem u32_i (m : BitVec 32) : (u32 m).i = m.toNat := rfl
theorem wrap_u32 (m : BitVec 32) : IntKind.u32.wrap (m.toNat : Int) = m.toNat := by
  have := m.isLt
  simp only [IntKind.wrap, IntKind.signed, IntKind.bits]; simp; omega
@[simp] theorem ofInt_u32 (m : BitVec 32) : BitVec.ofInt 32 (m.toNat : Int) = m := by
  apply BitVec.eq_of_toNat_eq; simp
theorem ar_or_u32 (a b : BitVec 32) : arI .or .u32 a.toNat b.toNat = (a ||| b).toNat := by
  show IntKind.u32.wrap ((BitVec.ofInt 32 _ ||| BitVec.ofInt 32 _).toNat : Int) = _
  rw [ofInt_u32, ofInt_u32, wrap_u32]
theorem ar_andNot_u32 (a b : BitVec 32) : arI .andNot .u32 a.toNat b.toNat = (a &&& ~~~b).toNat := by
  show IntKind.u32.wrap ((BitVec.ofInt 32 _ &&& ~~~BitVec.ofInt 32 _).toNat : Int) = _
  rw [ofInt_u32, ofInt_u32, wrap_u32]
theorem ar_shl_u32 {g : Int} (h0 : 0 ≤ g) (h1 : g < 20) : arI .shl .u32 1 g = (1#32 <<< g.toNat).toNat := by
  obtain ⟨n, rfl⟩ := Int.eq_ofNat_of_zero_le h0
  have hn : n < 20 := by omega
  show IntKind.u32.wrap (1 * 2 ^ (min (n : Int).toNat 32)) = _
  have hp : 2 ^ n < 2 ^ 32 := Nat.pow_lt_pow_right (by omega) (by omega)
  have e : min (n : Int).toNat 32 = n := by simp; omega
  rw [e]
  have e2 : (1#32 <<< (n : Int).toNat).toNat = 2 ^ n := by
    simp [BitVec.toNat_shiftLeft, Nat.shiftLeft_eq]
    simpa using hp
  rw [e2]
  have := wrap_u32 (BitVec.ofNat 32 (2 ^ n))
  simp only [BitVec.toNat_ofNat, Nat.mod_eq_of_lt hp] at this
  rw [← this]; simp

theorem ar_or_shl (m : BitVec 32) {g : Int} (h0 : 0 ≤ g) (h1 : g < 20) : arI .or .u32 m.toNat (arI .shl .u32 1 g) = (m ||| 1#32 <<< g.toNat).toNat := by
  rw [ar_shl_u32 h0 h1, ar_or_u32]

theorem mask_runs (g : List Int) (hg : g.length ≤ maxLen) : Runs T 43 [ints g] (u32 (maskB g)) := by
  refine .of_tree rfl rfl tr43_eq ?_
  simp [tr43]
  rw [maxLen_eq] at hg
  refine EvP.forRounds g.length (fun k => [u32 (maskB (g.take k)), .int k]) (fun _ => []) ?_ (fun k hk => ?_) ?_
  · simp; rfl
  · have hw1 : IntKind.i64.wrap ((k : Int) + 1) = (k : Int) + 1 := wrap64_id (by omega)
    have hs : maskB (g.take (k + 1)) = maskStep (maskB (g.take k)) g[k] := by
      unfold maskB; rw [List.take_succ_eq_append_getElem hk, List.foldl_append]; rfl
    rw [hs]
    generalize maskB (g.take k) = m
    simp [rd43_0_eq, rd43_0, hk, hw1]
    by_cases h0 : 0 ≤ g[k]
    · by_cases h1 : g[k] < 20
      · simp [h0, h1, maskStep, ar_or_shl m h0 h1]; rfl
      · simp [h0, h1, maskStep]
    · simp [h0, maskStep]
  · simp [rd43_0_eq, rd43_0]

theorem lim_min {k n : Nat} (h1 : k < n) (h2 : n ≤ 100) : ((min k n : Nat) : Int) + 1 ≤ 4294967296 := by omega
theorem masks_runs (l : List Held) (hl : l.length ≤ 100) (hg : ∀ h, h ∈ l → h.2.length ≤ maxLen) : Runs T 41 [helds l] (.list (l.map fun h => u32 (maskB h.2))) := by
  refine .of_tree rfl rfl tr41_eq ?_
  simp [tr41]
  refine EvP.forRounds l.length (fun k => [.none, .int k]) (fun k => [.list ((l.take k).map fun h => u32 (maskB h.2))]) ?_ (fun k hk => ?_) ?_
  · simp
  · have hw1 : IntKind.i64.wrap ((k : Int) + 1) = (k : Int) + 1 := wrap64_id (by omega)
    have hm : l[k].2.length ≤ maxLen := hg _ (List.getElem_mem _)
    generalize hh : l[k] = h at hm
    have e : encH l[k] = .agg [.int h.1, ints h.2] := by rw [hh]; rfl
    simp [rd41_0_eq, rd41_0, hk, hw1, helds_l, e, splice]
    refine ⟨_, mask_runs _ hm, ?_⟩
    refine ⟨lim_min hk hl, ?_⟩
    rw [List.take_succ_eq_append_getElem (by simpa using hk)]
    simp [hh]
  · simp [rd41_0_eq, rd41_0, helds_l]

def lossB (l : List Held) (f : BitVec 32) : Int := (l.map fun h => if maskB h.2 &&& ~~~f = 0#32 then h.1 else 0).sum
theorem lossB_bd {f : BitVec 32} : ∀ {l : List Held}, (∀ h, h ∈ l → 0 ≤ h.1 ∧ h.1 ≤ 1099511627776) → 0 ≤ lossB l f ∧ lossB l f ≤ 1099511627776 * l.length
  | [], _ => by simp [lossB]
  | h :: l, hh => by
    have ih := lossB_bd (f := f) (l := l) fun x hx => hh x (List.mem_cons_of_mem _ hx)
    have h1 := hh h (List.mem_cons_self ..)
    unfold lossB at ih ⊢
    simp only [List.map_cons, List.sum_cons, List.length_cons]
    split <;> omega
theorem lossB_snoc (l : List Held) (h : Held) (f : BitVec 32) : lossB (l ++ [h]) f = lossB l f + if maskB h.2 &&& ~~~f = 0#32 then h.1 else 0 := by
  simp [lossB]

theorem loss_runs (l : List Held) (f : BitVec 32) (hl : l.length ≤ 100) (hb : ∀ h, h ∈ l → 0 ≤ h.1 ∧ h.1 ≤ 1099511627776) : Runs T 42 [helds l, .list (l.map fun h => u32 (maskB h.2)), u32 f] (.int (lossB l f)) := by
  refine .of_tree rfl rfl tr42_eq ?_
  simp [tr42]
  refine EvP.forRounds l.length (fun k => [.int (lossB (l.take k) f), .int k]) (fun _ => []) ?_ (fun k hk => ?_) ?_
  · simp [lossB]
  · have hw1 : IntKind.i64.wrap ((k : Int) + 1) = (k : Int) + 1 := wrap64_id (by omega)
    have hs : lossB (l.take (k + 1)) f = lossB (l.take k) f + if maskB l[k].2 &&& ~~~f = 0#32 then l[k].1 else 0 := by
      rw [List.take_succ_eq_append_getElem hk, lossB_snoc]
    have bd := lossB_bd (f := f) (l := l.take k) fun h hm => hb h (List.mem_of_mem_take hm)
    have bl : (l.take k).length ≤ 100 := by simp; omega
    have b1 := hb l[k] (List.getElem_mem _)
    rw [hs]
    generalize lossB (l.take k) f = t at bd
    generalize hh : l[k] = h at b1
    have e : encH l[k] = .agg [.int h.1, ints h.2] := by rw [hh]; rfl
    have e' : encH h = .agg [.int h.1, ints h.2] := rfl
    simp [rd42_0_eq, rd42_0, hk, hw1, helds_l, e', splice, hh]
    have hz : (((maskB h.2 &&& ~~~f).toNat : Int) = 0) ↔ maskB h.2 &&& ~~~f = 0#32 := by
      rw [BitVec.toNat_eq]; simp
    rw [ar_andNot_u32]
    by_cases hc : maskB h.2 &&& ~~~f = 0#32
    · rw [if_pos (hz.2 hc), if_pos hc, wrap64_id (by omega)]
    · rw [if_neg (fun h => hc (hz.1 h)), if_neg hc]; simp
  · simp [rd42_0_eq, rd42_0, helds_l]

noncomputable def lossS (l : List Held) (failed : List Int) : Int := if Rt l then lossB l (maskB failed) else 0
theorem gsOK.mono {g : List Int} (h : gsOK g) : ∀ (k : Nat), k < g.length → (k : Int) ≤ g.getD k 0
  | 0, hk => (h 0 hk).1
  | k + 1, hk => by
    have h1 := (h (k + 1) hk).2.2 (by omega)
    have h2 := gsOK.mono h k (by omega)
    simp only [Nat.add_sub_cancel] at h1
    omega
theorem gsOK.len {g : List Int} (h : gsOK g) : g.length ≤ 20 := by
  refine Nat.le_of_not_lt fun hlt => ?_
  have h1 := h.mono 20 hlt
  have h2 := (h 20 hlt).2.1
  omega
theorem gsOK.range {g : List Int} (h : gsOK g) {x : Int} (hx : x ∈ g) : 0 ≤ x ∧ x < 20 := by
  obtain ⟨k, hk⟩ := List.getElem?_of_mem hx
  have hlt := (List.getElem?_eq_some_iff.1 hk).1
  have := h k hlt
  unfold gOK at this
  rw [List.getD_eq_getElem?_getD, hk] at this
  exact ⟨this.1, this.2.1⟩
theorem Rt.held {l : List Held} (h : Rt l) {x : Held} (hx : x ∈ l) : hOK x := by
  obtain ⟨k, hk⟩ := List.getElem?_of_mem hx
  have hlt := (List.getElem?_eq_some_iff.1 hk).1
  have := h.2 k hlt
  rwa [List.getD_eq_getElem?_getD, hk] at this
theorem Rt.len {l : List Held} (h : Rt l) {x : Held} (hx : x ∈ l) : x.2.length ≤ 20 ∧ 0 ≤ x.1 ∧ x.1 ≤ 1099511627776 :=
  ⟨(h.held hx).2.2.len, (h.held hx).1, (h.held hx).2.1⟩
theorem loss18_runs (l : List Held) (failed : List Int) (hl : l.length ≤ maxLen) (hg : ∀ h, h ∈ l → h.2.length ≤ maxLen) (hf : failed.length ≤ maxLen) : Runs T 18 [helds l, ints failed] (.int (lossS l failed)) := by
  refine .of_tree rfl rfl tr18_eq ?_
  simp [tr18]
  refine ⟨_, right_runs l hl hg, ?_⟩
  by_cases hr : Rt l
  · simp [hr]
    refine ⟨_, masks_runs l hr.1 hg, _, mask_runs failed hf, ?_⟩
    have := loss_runs l (maskB failed) hr.1 (fun h hh => (hr.len hh).2)
    simpa [lossS, hr] using this
  · simp [hr, lossS]

/-! ### masks as sets -/
theorem maskStep_bit (m : BitVec 32) (g : Int) (j : Nat) : (maskStep m g).getLsbD j = (m.getLsbD j || decide (g = j ∧ j < 20)) := by
  unfold maskStep
  split
  · rename_i h
    obtain ⟨n, rfl⟩ := Int.eq_ofNat_of_zero_le h.1
    have hn : n < 20 := by omega
    simp only [BitVec.getLsbD_or]
    congr 1
    rw [BitVec.getLsbD_shiftLeft, Bool.eq_iff_iff]
    simp
    omega
  · rename_i h
    have : ¬ (g = j ∧ j < 20) := by omega
    simp [this]
theorem maskB_foldl (g : List Int) : ∀ (m : BitVec 32) (j : Nat), (g.foldl maskStep m).getLsbD j = (m.getLsbD j || decide ((j : Int) ∈ g ∧ j < 20)) := by
  induction g with
  | nil => intro m j; simp
  | cons x g ih =>
    intro m j
    rw [List.foldl_cons, ih, maskStep_bit, Bool.or_assoc]
    congr 1
    rw [Bool.eq_iff_iff]
    simp only [Bool.or_eq_true, decide_eq_true_eq, List.mem_cons]
    constructor
    · rintro (⟨h1, h2⟩ | ⟨h1, h2⟩)
      · exact ⟨.inl h1.symm, h2⟩
      · exact ⟨.inr h1, h2⟩
    · rintro ⟨h1 | h1, h2⟩
      · exact .inl ⟨h1.symm, h2⟩
      · exact .inr ⟨h1, h2⟩
theorem maskB_bit (g : List Int) (j : Nat) : (maskB g).getLsbD j = decide ((j : Int) ∈ g ∧ j < 20) := by
  unfold maskB; rw [maskB_foldl]; simp
theorem sub_zero_iff (m f : BitVec 32) : m &&& ~~~f = 0#32 ↔ ∀ j, m.getLsbD j = true → f.getLsbD j = true := by
  constructor
  · intro h j hj
    have h1 := congrArg (fun x => x.getLsbD j) h
    simp only [BitVec.getLsbD_and, BitVec.getLsbD_not, hj, Bool.true_and, BitVec.getLsbD_zero] at h1
    have hlt : j < 32 := BitVec.lt_of_getLsbD hj
    simpa [hlt] using h1
  · intro h
    apply BitVec.eq_of_getLsbD_eq
    intro j hj
    simp only [BitVec.getLsbD_and, BitVec.getLsbD_not, BitVec.getLsbD_zero, hj, decide_true, Bool.true_and]
    cases hm : m.getLsbD j
    · rfl
    · rw [h j hm]; rfl
/-- a bill is lost -/
def lostP (h : Held) (failed : List Int) : Prop := ∀ x, x ∈ h.2 → x ∈ failed
theorem lost_iff {h : Held} (hh : hOK h) (failed : List Int) : maskB h.2 &&& ~~~(maskB failed) = 0#32 ↔ lostP h failed := by
  rw [sub_zero_iff]
  constructor
  · intro k x hx
    obtain ⟨h0, h1⟩ := hh.2.2.range hx
    obtain ⟨n, rfl⟩ := Int.eq_ofNat_of_zero_le h0
    have := k n (by rw [maskB_bit]; exact decide_eq_true ⟨hx, by omega⟩)
    rw [maskB_bit, decide_eq_true_eq] at this
    exact this.1
  · intro k j hj
    rw [maskB_bit, decide_eq_true_eq] at hj ⊢
    exact ⟨k _ hj.1, hj.2⟩
noncomputable instance (h : Held) (failed : List Int) : Decidable (lostP h failed) := Classical.propDecidable _
noncomputable def lossP (l : List Held) (failed : List Int) : Int := (l.map fun h => if lostP h failed then h.1 else 0).sum
theorem lossB_eq {l : List Held} (hr : ∀ h, h ∈ l → hOK h) (failed : List Int) : lossB l (maskB failed) = lossP l failed := by
  unfold lossB lossP
  congr 1
  apply List.map_congr_left
  intro h hh
  by_cases hc : lostP h failed
  · rw [if_pos ((lost_iff (hr h hh) failed).2 hc), if_pos hc]
  · rw [if_neg (fun e => hc ((lost_iff (hr h hh) failed).1 e)), if_neg hc]
theorem lossS_eq {l : List Held} (hr : Rt l) (failed : List Int) : lossS l failed = lossP l failed := by
  unfold lossS; rw [if_pos hr, lossB_eq fun h hh => hr.held hh]
theorem lossP_le {l : List Held} (hr : ∀ h, h ∈ l → 0 ≤ h.1) {f f' : List Int} (h : ∀ x, x ∈ l → lostP x f → lostP x f') : lossP l f ≤ lossP l f' := by
  unfold lossP
  induction l with
  | nil => exact Int.le_refl _
  | cons x l ih =>
    have ih := ih (fun y hy => hr y (List.mem_cons_of_mem _ hy)) (fun y hy => h y (List.mem_cons_of_mem _ hy))
    have h0 := hr x (List.mem_cons_self ..)
    have h1 := h x (List.mem_cons_self ..)
    simp only [List.map_cons, List.sum_cons]
    by_cases hc : lostP x f
    · rw [if_pos hc, if_pos (h1 hc)]; omega
    · rw [if_neg hc]
      split <;> omega
theorem lossP_set {l : List Held} {j : Nat} (hj : j < l.length) (x : Held) (f : List Int) (h1 : x.1 = l[j].1) (h2 : lostP x f → lostP l[j] f) (h0 : 0 ≤ l[j].1) : lossP (l.set j x) f ≤ lossP l f := by
  induction l generalizing j with
  | nil => simp at hj
  | cons y l ih =>
    unfold lossP at *
    cases j with
    | zero =>
      simp only [List.getElem_cons_zero] at h1 h2 h0
      simp only [List.set_cons_zero, List.map_cons, List.sum_cons]
      by_cases hc : lostP x f
      · rw [if_pos hc, if_pos (h2 hc)]; omega
      · rw [if_neg hc]; split <;> omega
    | succ j =>
      simp only [List.getElem_cons_succ] at h1 h2 h0
      have := ih (by simpa using hj) h1 h2 h0
      simp only [List.set_cons_succ, List.map_cons, List.sum_cons]
      omega
theorem lossP_snoc (l : List Held) (x : Held) (f : List Int) : lossP (l ++ [x]) f = lossP l f + if lostP x f then x.1 else 0 := by
  simp [lossP]
theorem lossP_bd {l : List Held} (hr : Rt l) (f : List Int) : 0 ≤ lossP l f ∧ lossP l f ≤ 1099511627776 * 100 := by
  rw [← lossB_eq fun h hh => hr.held hh]
  have := lossB_bd (f := maskB f) (l := l) fun h hh => (hr.len hh).2
  have h1 := hr.1
  omega
end Expo
