/-
  Alone; ExposureSteps.
-/
import Derived.Test.YtjkeifcibnadcaaExI
set_option linter.unusedSimpArgs false
set_option linter.unusedVariables false
namespace Expo
open Go Go.Proofs Cx

theorem mask_one {k : Nat} (hk : k < 20) : u32 (maskB [(k : Int)]) = .v (.int .u32 (arI .shl .u32 1 (k : Int))) := by
  rw [ar_shl_u32 (by omega) (by omega)]
  have e : maskB [(k : Int)] = 1#32 <<< (k : Int).toNat := by
    show maskStep 0 (k : Int) = _
    rw [maskStep, if_pos (by omega)]; simp
  rw [e]; rfl

theorem alone_runs (l : List Held) (n : Int) (hl : l.length ≤ maxLen) (hg : ∀ h, h ∈ l → h.2.length ≤ maxLen) :
    (¬ (Rt l ∧ 0 ≤ n ∧ n ≤ 20) ∧ Runs T 20 [helds l, .int n] (ints [])) ∨ ((Rt l ∧ 0 ≤ n ∧ n ≤ 20) ∧ Runs T 20 [helds l, .int n] (ints (mkL n.toNat fun g => lossP l [(g : Int)]))) := by
  have hrr := right_runs l hl hg
  by_cases hok : Rt l ∧ 0 ≤ n ∧ n ≤ 20
  case neg =>
    refine .inl ⟨hok, .of_tree rfl rfl tr20_eq ?_⟩
    simp only [tr20, wp_call, holds_nil', if_true]
    refine ⟨_, hrr, ?_⟩
    simp only [wp_ite]
    rw [if_pos]
    · simp [ints]
    · by_cases hr : Rt l
      · simp [hr] at hok ⊢; omega
      · simp [hr]
  obtain ⟨hr, n0, n1⟩ := hok
  refine .inr ⟨⟨hr, n0, n1⟩, .of_tree rfl rfl tr20_eq ?_⟩
  simp only [tr20, wp_call, holds_nil', if_true]
  refine ⟨_, hrr, ?_⟩
  simp only [wp_ite]
  obtain ⟨N, rfl⟩ := Int.eq_ofNat_of_zero_le n0
  rw [if_neg (by simp [hr]; omega)]
  simp only [wp_chk, wp_call, holds_nil', if_true, wp_brk]
  refine ⟨by simp; omega, by simp, _, by simpa using masks_runs l hr.1 hg, ?_⟩
  let F : Nat → Nat → Int := fun k g => if g < k then lossP l [(g : Int)] else 0
  have hrep : (List.replicate N (D.int 0)) = (mkL N (F 0)).map D.int := by simp [mkL, F, List.map_const']
  refine EvP.forRounds N (fun k => [.int k]) (fun k => [ints (mkL N (F k))]) ?_ (fun k hk => ?_) ?_
  · simp [hrep, ints]
  · have hw1 : IntKind.i64.wrap ((k : Int) + 1) = (k : Int) + 1 := wrap64_id (by omega)
    simp only [rd20_0_eq, rd20_0, wp_ite, wp_chk, wp_next, roundQ_next, wp_blockS, wp_call, holds_nil', if_true]
    rw [if_pos (by simp; omega)]
    refine ⟨by simp, .int (lossP l [(k : Int)]), ?_, by simp [hk], ?_⟩
    · have := lossP_runs l hr [(k : Int)]
      rw [mask_one (by omega)] at this
      simpa using this
    · have g1 := mkL_get N (F k) hk
      rw [List.getD_eq_getElem?_getD, List.getElem?_map] at g1
      generalize hG : F k = G at g1
      simp [hw1, hk, spliceD_int, ints_mkL_set]
      congr 1
      refine mkL_congr fun j hj => ?_
      rw [← hG]
      by_cases e : j = k
      · subst e; rw [if_pos rfl]; simp only [F]; rw [if_pos (by omega)]
      · rw [if_neg e]; simp only [F]
        by_cases hlt : j < k
        · rw [if_pos hlt, if_pos (by omega)]
        · rw [if_neg hlt, if_neg (by omega)]
  · have e : mkL N (F N) = mkL N fun g => lossP l [(g : Int)] := mkL_congr fun j hj => if_pos hj
    simp [rd20_0_eq, rd20_0, e]

def sumL (l : List Held) : Int := (l.map fun h => h.1).sum
def bareL (l : List Held) : Int := (l.map fun h => if h.2.length = 0 then h.1 else 0).sum
theorem sumL_snoc (l : List Held) (h : Held) : sumL (l ++ [h]) = sumL l + h.1 := by simp [sumL]
theorem bareL_snoc (l : List Held) (h : Held) : bareL (l ++ [h]) = bareL l + if h.2.length = 0 then h.1 else 0 := by simp [bareL]
theorem bare_eq (l : List Held) : lossP l [] = bareL l := by
  unfold lossP bareL
  congr 1
  apply List.map_congr_left
  intro h _
  by_cases hc : h.2.length = 0
  · have : h.2 = [] := List.eq_nil_of_length_eq_zero hc
    have hlo : lostP h [] := fun x hx => by rw [this] at hx; exact hx
    rw [if_pos hc, if_pos hlo]
  · rw [if_neg hc, if_neg]
    intro hx
    refine hc ?_
    cases e : h.2 with
    | nil => rfl
    | cons y ys => exact absurd (hx y (by rw [e]; exact List.mem_cons_self ..)) (by simp)
theorem sum_le {l : List Held} (h0 : ∀ h, h ∈ l → 0 ≤ h.1) (f : List Int) : lossP l f ≤ sumL l := by
  unfold lossP sumL
  induction l with
  | nil => exact Int.le_refl _
  | cons x l ih =>
    have := ih fun y hy => h0 y (List.mem_cons_of_mem _ hy)
    have h1 := h0 x (List.mem_cons_self ..)
    simp only [List.map_cons, List.sum_cons]
    split <;> omega
theorem sums_bd : ∀ {l : List Held}, (∀ h, h ∈ l → 0 ≤ h.1 ∧ h.1 ≤ 1099511627776) → (0 ≤ sumL l ∧ sumL l ≤ 1099511627776 * l.length) ∧ (0 ≤ bareL l ∧ bareL l ≤ 1099511627776 * l.length)
  | [], _ => by simp [sumL, bareL]
  | h :: l, hh => by
    have ih := sums_bd (l := l) fun x hx => hh x (List.mem_cons_of_mem _ hx)
    have h1 := hh h (List.mem_cons_self ..)
    unfold sumL bareL at ih ⊢
    simp only [List.map_cons, List.sum_cons, List.length_cons]
    constructor
    · omega
    · split <;> omega

theorem sums_loop (ρ : Env) (l : List Held) (hr : Rt l) (h0 : ρ.r 0 = helds l) (h8 : ρ.r 8 = .int 0) (h9 : ρ.r 9 = .int 0) (h10 : ρ.r 10 = .int 0) {Q : Out → Prop}
    (hQ : ∀ v57 v58 v59 v60, Q (.next (ρ.put [8, 9, 10, 57, 58, 59, 60] [.int (sumL l), .int (bareL l), .int l.length, v57, v58, v59, v60] [] []))) : EvP T lp6_0 ρ Q := by
  have hl := hr.1
  refine EvP.forRounds l.length (fun k => [.int (sumL (l.take k)), .int (bareL (l.take k)), .int k]) (fun _ => []) ?_ (fun k hk => ?_) ?_
  · simp [h8, h9, h10, sumL, bareL]
  · have hw1 : IntKind.i64.wrap ((k : Int) + 1) = (k : Int) + 1 := wrap64_id (by omega)
    have bd := sums_bd (l := l.take k) fun h hm => (hr.len (List.mem_of_mem_take hm)).2
    have bl : (l.take k).length ≤ 100 := by simp; omega
    have b1 := (hr.len (List.getElem_mem hk)).2
    rw [List.take_succ_eq_append_getElem hk, sumL_snoc, bareL_snoc]
    generalize sumL (l.take k) = t at bd
    generalize bareL (l.take k) = u at bd
    generalize hh : l[k] = h at b1
    have e : encH h = .agg [.int h.1, ints h.2] := rfl
    have w1 : IntKind.i64.wrap (t + h.1) = t + h.1 := wrap64_id (by omega)
    have w2 : IntKind.i64.wrap (u + h.1) = u + h.1 := wrap64_id (by omega)
    simp [rd6_0_eq, rd6_0, h0, helds_l, hk, hh, e, hw1, w1, w2]
    by_cases hc : h.2 = []
    · simp [hc]
    · simp [hc]
  · simp [rd6_0_eq, rd6_0, h0, helds_l]
    exact hQ _ _ _ _

def maxTo (f : Nat → Int) : Nat → Int
  | 0 => 0
  | k + 1 => if f k > maxTo f k then f k else maxTo f k
theorem maxTo_ge (f : Nat → Int) : ∀ n, 0 ≤ maxTo f n ∧ ∀ k, k < n → f k ≤ maxTo f n
  | 0 => ⟨by simp [maxTo], fun k hk => by omega⟩
  | n + 1 => by
    have ih := maxTo_ge f n
    simp only [maxTo]
    refine ⟨by split <;> omega, fun k hk => ?_⟩
    by_cases e : k = n
    · subst e; split <;> omega
    · have := ih.2 k (by omega); split <;> omega
theorem maxTo_le (f : Nat → Int) (m : Int) (h0 : 0 ≤ m) : ∀ n, (∀ k, k < n → f k ≤ m) → maxTo f n ≤ m
  | 0, _ => by simpa [maxTo] using h0
  | n + 1, h => by
    have ih := maxTo_le f m h0 n fun k hk => h k (by omega)
    have h1 := h n (by omega)
    simp only [maxTo]; split <;> omega

theorem max_loop (ρ : Env) (N : Nat) (hN : N ≤ 20) (f : Nat → Int) (h23 : ρ.r 23 = ints (mkL N f)) (h24 : ρ.r 24 = .int 0) (h25 : ρ.r 25 = .int 0) {Q : Out → Prop}
    (hQ : ∀ v25 v118 v119 v120 v121, Q (.next (ρ.put [24, 25, 118, 119, 120, 121] [.int (maxTo f N), v25, v118, v119, v120, v121] [] []))) : EvP T lp6_1 ρ Q := by
  refine EvP.forRounds N (fun k => [.int (maxTo f k), .int k]) (fun _ => []) ?_ (fun k hk => ?_) ?_
  · simp [h24, h25, maxTo]
  · have hw1 : IntKind.i64.wrap ((k : Int) + 1) = (k : Int) + 1 := wrap64_id (by omega)
    simp [rd6_1_eq, rd6_1, h23, hk, hw1, maxTo]
    by_cases hc : f k > maxTo f k
    · rw [if_pos hc, if_pos hc]
    · rw [if_neg hc, if_neg hc]
  · simp [rd6_1_eq, rd6_1, h23]
    exact hQ _ _ _ _ _
theorem worst_one {l : List Held} (hr : Rt l) {n : Nat} (hn : 0 < n) {m : Int} {f : List Int} (h : WorstP l n 1 m f) : m = maxTo (fun g => lossP l [(g : Int)]) n := by
  obtain ⟨h1, h2, h3, h4⟩ := h
  have hge := maxTo_ge (fun g => lossP l [(g : Int)]) n
  have hone : ∀ g : Nat, g < n → vset n [(g : Int)] := fun g hg k hk => by
    obtain rfl : k = 0 := by simpa using hk
    exact ⟨by simp, by simp; omega, fun h => by omega⟩
  have up : maxTo (fun g => lossP l [(g : Int)]) n ≤ m := by
    have pos : ∀ c, vset n c → c.length ≤ 1 → lossP l c ≤ m := fun c hc hl => by
      have := h4 c hc hl
      unfold good at this; omega
    refine maxTo_le _ _ ?_ n fun k hk => pos _ (hone k hk) (by simp)
    have := pos [] (vset_nil _) (by simp)
    have := lossP_bd hr []
    omega
  refine Int.le_antisymm ?_ up
  rw [← h3]
  match f, h1, h2 with
  | [], _, _ =>
    refine Int.le_trans ?_ (hge.2 0 hn)
    exact lossP_le (fun h hh => (hr.len hh).2.1) fun x _ hx y hy => absurd (hx y hy) (by simp)
  | [g], h1, _ =>
    have hg := h1 0 (by simp)
    simp at hg
    obtain ⟨j, rfl⟩ := Int.eq_ofNat_of_zero_le hg.1
    exact hge.2 j (by omega)
  | _ :: _ :: _, _, h2 => simp at h2

set_option maxRecDepth 20000 in
theorem steps_runs (l : List Held) (n k : Int) (hl : l.length ≤ maxLen) (hg : ∀ h, h ∈ l → h.2.length ≤ maxLen) : Runs T 6 [helds l, .int n, .int k] (.bool true) := by
  refine .of_tree rfl rfl tr6_eq ?_
  simp only [tr6, wp_call, holds_nil', if_true]
  refine ⟨_, sane_runs, ?_⟩
  refine ⟨_, few_runs l hl, ?_⟩
  cases hfew : fewB l with
  | false => simp
  | true =>
    rw [if_pos (by simp)]
    refine ⟨_, right_runs l hl hg, ?_⟩
    by_cases hok : Rt l ∧ 1 ≤ n ∧ n ≤ 20 ∧ 0 ≤ k ∧ k ≤ 2 ∧ k < n
    case neg =>
      simp only [wp_ite]
      rw [if_pos]
      · simp
      · by_cases hr : Rt l
        · simp [hr] at hok ⊢; omega
        · simp [hr]
    obtain ⟨hr, n1, n2, k0, k2, kn⟩ := hok
    simp only [wp_ite]
    rw [if_neg (by simp [hr]; omega)]
    simp only [wp_brk]
    refine sums_loop _ l hr (by simp) (by simp) (by simp) (by simp) (fun _ _ _ _ => ?_)
    simp only [seqQ_next, wp_call, holds_nil', if_true]
    have W : ∀ j : Int, 0 ≤ j → j ≤ 3 → j ≤ n → ∃ m f, WorstP l n j.toNat m f ∧ Runs T 13 [helds l, .int n, .int j] (.tup [.int m, ints f, .int 0]) := fun j j0 j3 jn => by
      rcases worst_runs l n j hl hg with ⟨h, _⟩ | ⟨_, h, _⟩ | ⟨_, _, h⟩
      · exact absurd ⟨hr, by omega, n2, j0, jn⟩ h
      · omega
      · exact h
    obtain ⟨a, fa, wa, ra⟩ := W k k0 (by omega) (by omega)
    obtain ⟨b, fb, wb, rb⟩ := W (k + 1) (by omega) (by omega) (by omega)
    obtain ⟨c, fc, wc, rc⟩ := W 0 (by omega) (by omega) (by omega)
    obtain ⟨d, fd, wd, rd⟩ := W 1 (by omega) (by omega) (by omega)
    obtain ⟨_, al⟩ : (Rt l ∧ 0 ≤ n ∧ n ≤ 20) ∧ _ := (alone_runs l n hl hg).resolve_left fun h => h.1 ⟨hr, by omega, n2⟩
    have hwk : IntKind.i64.wrap (k + 1) = k + 1 := wrap64_id (by omega)
    refine ⟨_, by simpa using ra, _, by simpa [hwk] using rb, _, by simpa using rc, _, by simpa using rd, _, by simpa using al, ?_⟩
    obtain ⟨N, rfl⟩ := Int.eq_ofNat_of_zero_le (show 0 ≤ n by omega)
    simp only [wp_brk]
    refine max_loop _ N (by omega) (fun g => lossP l [(g : Int)]) (by simp) (by simp) (by simp) (fun _ _ _ _ _ => ?_)
    have hd := worst_one hr (by omega) wd
    have hc := WorstP.uniq wc (worst_zero l N)
    have hab : a ≤ b := by
      have h1 := wb.2.2.2 fa wa.1 (by have := wa.2.1; omega)
      unfold good at h1; rw [wa.2.2.1] at h1; omega
    have hbs : b ≤ sumL l := by
      rw [← wb.2.2.1]; exact sum_le (fun h hh => (hr.len hh).2.1) _
    simp [hc.1, hc.2, bare_eq, hab, hbs, hd]
end Expo
