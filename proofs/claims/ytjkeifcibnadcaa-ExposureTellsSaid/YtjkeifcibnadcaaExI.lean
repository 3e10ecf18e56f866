/-
  Worst of the program, joined.
-/
import Derived.Test.YtjkeifcibnadcaaExH
set_option linter.unusedSimpArgs false
set_option linter.unusedVariables false
namespace Expo
open Go Go.Proofs Cx

theorem _root_.Cx.Runs.of_tree_ex {tab : Nat → Option PC} {ext : Nat → Option (Funs → List D → Option D)} {f : Nat} {pc : PC} {t : PT} {ds : List D} {P : D → Prop} (hx : ext f = none) (ht : tab f = some pc) (he : tree pc = t) (h : PTwp (Tab tab ext) t (env0 ds) (fun x => ∃ d, x = .ret d ∧ P d)) : ∃ d, P d ∧ Runs (Tab tab ext) f ds d := by
  obtain ⟨x, ⟨d, rfl, hp⟩, hn⟩ := (tree_ok (he ▸ h) : EvP (Tab tab ext) pc (env0 ds) _)
  exact ⟨d, hp, .of_pc hx ht ⟨_, rfl, hn⟩⟩
theorem clone_runs (a : List Int) (h : a.length ≤ 4294967296) : Runs T 44 [ints a] (ints a) :=
  .of_ext (g := fun _ ds => cloneG ds) rfl ⟨0, fun _ _ => by simp [cloneG, ints, h]⟩

theorem lossP_runs (l : List Held) (hr : Rt l) (a : List Int) : Runs T 42 [helds l, .list (l.map fun h => u32 (maskB h.2)), u32 (maskB a)] (.int (lossP l a)) := by
  rw [← lossB_eq fun h hh => hr.held hh]
  exact loss_runs l (maskB a) hr.1 fun h hh => (hr.len hh).2

theorem loss_none (l : List Held) (hr : Rt l) : Runs T 42 [helds l, .list (l.map fun h => u32 (maskB h.2)), .v (.int .u32 0)] (.int (lossP l [])) := lossP_runs l hr []
set_option maxRecDepth 10000 in
theorem worst_inner (ρ : Env) (l : List Held) (hr : Rt l) (n : Int) (hn : 0 ≤ n ∧ n ≤ 20) (s : Nat) (hs : 0 < s) (m : Int) (f a : List Int) (ha : a.length = s) (hI : WorstI l n a m f)
    (h0 : ρ.r 0 = helds l) (h1 : ρ.r 1 = .int n) (h9 : ρ.r 9 = .list (l.map fun h => u32 (maskB h.2))) (h10 : ρ.r 10 = .int s) (h6 : ρ.r 6 = .int m) (h7 : ρ.r 7 = ints f) (h11 : ρ.o 11 = ints a) {Q : Out → Prop}
    (hQ : ∀ m' f' (ρ' : Env), WorstP l n s m' f' → ρ'.r 6 = .int m' → ρ'.r 7 = ints f' → Q (.next (ρ.put [6, 7, 13, 14, 60, 61, 62, 63, 64, 65, 66, 67, 71, 72, 73, 74, 75, 86, 89, 90] ([6, 7, 13, 14, 60, 61, 62, 63, 64, 65, 66, 67, 71, 72, 73, 74, 75, 86, 89, 90].map ρ'.r) [11] ([11].map ρ'.o)))) : EvP T lp13_3 ρ Q := by
  refine EvP.forLoop (α := List Int) (fun a vr vo => a.length = s ∧ ∃ m f, WorstI l n a m f ∧ vr = [.int m, ints f] ∧ vo = [ints a]) (fun a => 32 ^ s - numL a s) a ⟨ha, m, f, hI, by simp [h6, h7], by simp [h11]⟩ ?_
  rintro a vr vo ⟨ha, m, f, hI, rfl, rfl⟩
  have hv := hI.1
  have hlen := hv.len hn.1
  have hlook := worst_look hI
  simp only [rd13_3_eq, rd13_3, wp_blockS, wp_call, holds_nil', if_true]
  refine ⟨u32 (maskB a), by simpa using mask_runs a (by rw [maxLen_eq]; omega), ?_⟩
  refine ⟨.int (lossP l a), by simpa [h0, h9] using lossP_runs l hr a, ?_⟩
  have tl : ∀ (ρ1 : Env) (m' : Int) (f' : List Int), ρ1.r 1 = .int n → ρ1.r 10 = .int s → ρ1.o 11 = ints a → ρ1.r 6 = .int m' → ρ1.r 7 = ints f' → (vset n f' ∧ (f' = a ∨ before f' a) ∧ lossP l f' = m' ∧ ∀ c, vset n c → (c = a ∨ before c a) → good l m' f' c) → ∀ (Q' : Out → Prop),
      (∀ ρ', WorstP l n s m' f' → ρ'.r 6 = .int m' → ρ'.r 7 = ints f' → Q' (.exit 4 ρ')) → (∀ ρ' b, b.length = s → 32 ^ s - numL b s < 32 ^ s - numL a s → WorstI l n b m' f' → ρ'.r 6 = .int m' → ρ'.r 7 = ints f' → ρ'.o 11 = ints b → Q' (.next ρ')) → PTwp T tl13 ρ1 Q' := by
    intro ρ1 m' f' k1 k10 k11 k6 k7 hg Q' he hx
    refine tail_ok ρ1 n a hv hn (by omega) k1 (by rw [ha]; exact k10) k11 (fun hall ρ' e6 e7 => ?_) (fun i hi hne haft ρ' e6 e7 e11 => ?_)
    · exact he ρ' (ha ▸ worst_end hg hv hall) (e6.trans k6) (e7.trans k7)
    · have hw := worst_next hg hv hi hne haft
      have hnl : (nextL a i).length = a.length := mkL_len _ _
      refine hx ρ' (nextL a i) (by omega) ?_ hw (e6.trans k6) (e7.trans k7) e11
      have h1 := numL_lt (by omega) hnl.symm hv hw.1 (next_spec hv hi hne haft).2.1
      have h2 := numL_le (nextL a i) (fun j hj => by have := (hw.1 j hj).2.1; omega) a.length (by omega)
      rw [ha] at h1 h2
      omega
  by_cases hc : lossP l a > m
  · simp only [if_pos hc] at hlook
    simp only [wp_iteS]
    rw [if_pos (by simp; omega)]
    simp only [wp_call, holds_nil', if_true]
    refine ⟨ints a, by simpa using clone_runs a (by omega), ?_⟩
    simp only [wp_next, joinQ_next, seqQ_next]
    refine tl _ (lossP l a) a (by simp [h1]) (by simp [h10]) (by simp) (by simp) (by simp) ⟨hlook.1, .inl rfl, rfl, hlook.2.2.2⟩ _ (fun ρ' hw e6 e7 => ?_) (fun ρ' b hb hm hw e6 e7 e11 => ?_)
    · simp only [blockQ_exit, seqQ_exit, roundQ_exit]
      rw [if_neg (by decide)]
      simp only [seqQ_exit, roundQ_exit, if_true]
      exact hQ _ _ ρ' hw e6 e7
    · simp only [seqQ_next, wp_next, blockQ_next, roundQ_next]
      refine ⟨b, hm, hb, _, _, hw, by simp [e6, e7], by simp [e11]⟩
  · simp only [if_neg hc] at hlook
    simp only [wp_iteS]
    rw [if_neg (by simp; omega)]
    simp only [wp_next, joinQ_next, seqQ_next]
    refine tl _ m f (by simp [h1]) (by simp [h10]) (by simp) (by simp) (by simp) hlook _ (fun ρ' hw e6 e7 => ?_) (fun ρ' b hb hm hw e6 e7 e11 => ?_)
    · simp only [blockQ_exit, seqQ_exit, roundQ_exit]
      rw [if_neg (by decide)]
      simp only [seqQ_exit, roundQ_exit, if_true]
      exact hQ _ _ ρ' hw e6 e7
    · simp only [seqQ_next, wp_next, blockQ_next, roundQ_next]
      refine ⟨b, hm, hb, _, _, hw, by simp [e6, e7], by simp [e11]⟩
set_option maxRecDepth 10000 in
theorem worst_outer (ρ : Env) (l : List Held) (hr : Rt l) (n : Int) (hn : 0 ≤ n ∧ n ≤ 20) (k : Nat) (hk : (k : Int) ≤ n) (h0 : ρ.r 0 = helds l) (h1 : ρ.r 1 = .int n) (h2 : ρ.r 2 = .int k) (h9 : ρ.r 9 = .list (l.map fun h => u32 (maskB h.2))) (h10 : ρ.r 10 = .int 1) (h6 : ρ.r 6 = .int (lossP l [])) (h7 : ρ.r 7 = ints []) {Q : Out → Prop}
    (hQ : ∀ m f (ρ' : Env), WorstP l n k m f → ρ'.r 6 = .int m → ρ'.r 7 = ints f → Q (.next (ρ.put [6, 7, 10, 43, 44, 45] ([6, 7, 10, 43, 44, 45].map ρ'.r) [] []))) : EvP T lp13_4 ρ Q := by
  refine EvP.forLoop (α := Nat) (fun s vr vo => s ≤ k ∧ ∃ m f, WorstP l n s m f ∧ vr = [.int m, ints f, .int ((s : Int) + 1)] ∧ vo = []) (fun s => k - s) 0 ⟨Nat.zero_le _, _, _, worst_zero l n, by simp [h6, h7, h10], rfl⟩ ?_
  rintro s vr vo ⟨hs, m, f, hw, rfl, rfl⟩
  simp only [rd13_4_eq, rd13_4, wp_ite]
  by_cases hlt : s < k
  · rw [if_pos (by simp [h2]; omega)]
    have hw2 : IntKind.i64.wrap ((s : Int) + 1 + 1) = ((s + 1 : Nat) : Int) + 1 := by rw [wrap64_id (by omega)]; omega
    have hnat : ((s : Int) + 1).toNat = s + 1 := by omega
    have hrep : (List.replicate (s + 1) (D.int 0)) = (mkL (s + 1) fun _ => 0).map D.int := by
      simp [mkL, List.map_const']
    simp only [wp_blockS, wp_chk, wp_brk]
    refine ⟨by simp; omega, by simp, ?_⟩
    refine set_first _ (s + 1) (by omega) (by simp [hnat]) (by simp) (by simp [hnat, hrep, ints]) ?_
    simp only [seqQ_next, wp_brk]
    refine worst_inner _ l hr n hn (s + 1) (by omega) m f (mkL (s + 1) fun j => j) (by simp) (worst_start hw (by omega)) (by simp [h0]) (by simp [h1]) (by simp [h9]) (by simp) (by simp) (by simp) (by simp) (fun m' f' ρ' hw' e6 e7 => ?_)
    simp only [seqQ_next, wp_next, blockQ_next, roundQ_next]
    refine ⟨s + 1, by omega, by omega, m', f', hw', ?_, by simp⟩
    simp [e6, e7, hw2]
  · rw [if_neg (by simp [h2]; omega)]
    have hsk : s = k := by omega
    subst hsk
    simp only [wp_exit', roundQ_exit, if_true]
    exact hQ m f _ hw (by simp) (by simp)

theorem worst_runs (l : List Held) (n k : Int) (hl : l.length ≤ maxLen) (hg : ∀ h, h ∈ l → h.2.length ≤ maxLen) :
    (¬ (Rt l ∧ 0 ≤ n ∧ n ≤ 20 ∧ 0 ≤ k ∧ k ≤ n) ∧ Runs T 13 [helds l, .int n, .int k] (.tup [.int 0, ints [], .int 1])) ∨
    ((Rt l ∧ 0 ≤ n ∧ n ≤ 20 ∧ 0 ≤ k ∧ k ≤ n) ∧ 6 < k ∧ Runs T 13 [helds l, .int n, .int k] (.tup [.int 0, ints [], .int 6])) ∨
    ((Rt l ∧ 0 ≤ n ∧ n ≤ 20 ∧ 0 ≤ k ∧ k ≤ n) ∧ k ≤ 6 ∧ ∃ m f, WorstP l n k.toNat m f ∧ Runs T 13 [helds l, .int n, .int k] (.tup [.int m, ints f, .int 0])) := by
  have hrr := right_runs l hl hg
  by_cases hok : Rt l ∧ 0 ≤ n ∧ n ≤ 20 ∧ 0 ≤ k ∧ k ≤ n
  case neg =>
    refine .inl ⟨hok, .of_tree rfl rfl tr13_eq ?_⟩
    simp only [tr13, wp_call, holds_nil', if_true]
    refine ⟨_, hrr, ?_⟩
    simp only [wp_ite]
    rw [if_pos]
    · simp [ints]
    · by_cases hr : Rt l
      · simp [hr] at hok ⊢; omega
      · simp [hr]
  right
  obtain ⟨hr, n0, n1, k0, k1⟩ := hok
  by_cases h6 : 6 < k
  · refine .inl ⟨⟨hr, n0, n1, k0, k1⟩, h6, .of_tree rfl rfl tr13_eq ?_⟩
    simp only [tr13, wp_call, holds_nil', if_true]
    refine ⟨_, hrr, ?_⟩
    simp only [wp_ite]
    rw [if_neg, if_pos]
    · simp [ints]
    · simp; omega
    · simp [hr]; omega
  · right
    refine ⟨⟨hr, n0, n1, k0, k1⟩, by omega, ?_⟩
    have key : ∃ d, (∃ m f, WorstP l n k.toNat m f ∧ d = .tup [.int m, ints f, .int 0]) ∧ Runs T 13 [helds l, .int n, .int k] d := by
      refine Runs.of_tree_ex rfl rfl tr13_eq ?_
      simp only [tr13, wp_call, holds_nil', if_true]
      refine ⟨_, hrr, ?_⟩
      simp only [wp_ite]
      rw [if_neg, if_neg]
      · simp only [wp_call, holds_nil', if_true]
        refine ⟨_, by simpa using masks_runs l hr.1 hg, .int (lossP l []), by simpa using loss_none l hr, ?_⟩
        simp only [wp_brk]
        obtain ⟨j, rfl⟩ := Int.eq_ofNat_of_zero_le k0
        refine worst_outer _ l hr n ⟨n0, n1⟩ j k1 (by simp) (by simp) (by simp) (by simp) (by simp) (by simp) (by simp [ints]) (fun m f ρ' hw e6 e7 => ?_)
        simp only [seqQ_next, wp_ret']
        exact ⟨_, rfl, m, f, by simpa using hw, by simp [e6, e7]⟩
      · simp; omega
      · simp [hr]; omega
    obtain ⟨d, ⟨m, f, hw, rfl⟩, hR⟩ := key
    exact ⟨m, f, hw, hR⟩
end Expo
