/-
  slices.Clone at []int: its contract, by a walk; the table of functions.
-/
import Derived.Test.YtjkeifcibnadcaaExA
import Derived.Test.YtjkeifcibnadcaaCyG
import Derived.WalkKit
import Derived.WalkSpells
import Derived.Lib.SliceRun
set_option linter.unusedSimpArgs false
set_option linter.unusedVariables false
namespace Expo
open Go Go.Proofs Cx Go.RowKit Go.Lib

theorem info3 : (Try.prog.info? 3).map (fun i => (i.zero, i.size, i.bytes)) = some (some (.int .i64 0), 1, 8) := by kernel_rfl

set_option maxHeartbeats 2000000 in
set_option maxRecDepth 100000 in
theorem clone_some (a : Addr) (n c : Nat) (news : List Value) (w : World) (hl : news.length = n) (hb : n ≤ 4294967296) (hc : ∀ j u, news[j]? = some u → w.cell? (a.add j) = some u) (h1 : ∀ u ∈ news, u.oneCell' = true) :
    Calls Try.prog 44 #[.slice (some a) n c] w fun e w' => ∃ v', e = .returned v' ∧ w'.ownsRow w.heap.size 3 1 v' n news ∧ Below w.heap.size w w' := by
  obtain ⟨i0, hi, hz0, hz1, hz2⟩ := info_parts info3
  have q22 : ∀ (w : World) (a : Option Addr) (n c n' c' : Nat), (binOp .eql 23 (.slice a n c) (.slice none n' c')).run Try.prog w = .ok (.bool a.isNone) w := fun w a n c n' c' => Lib.run_eql_slice_nil w _ _ a n c n' c' Try.underlying23
  have A : Hid (∀ j u, news[j]? = some u → w.cell? (a.add j) = some u) := hc
  have B : Hid (∀ u ∈ news, u.oneCell' = true) := h1
  have L : Hid (news.length = n) := hl
  clear hc h1 hl
  go_enter Try.func44, Try.ntmps44
  go_wp2_with (at_builtin; refine wpList_append_own _ rfl _ _ 23 rfl w.heap.size 3 i0 (.int .i64 0) 1 8 Try.underlying23 hi hz0 hz1 hz2 rfl (by decide) _ _ _ rfl (World.ownsRow_made w #[] 0 (Nat.le_refl _) (Nat.zero_le _) rfl) a n c news rfl ?qc1 ?qc2 ?qc3 ?qc4 ?qc5 ?qc6 ?_)
  case qc1 => have := L.out; omega
  case qc2 => intro j u hj; exact Lib.cell?_alloc_some _ (A.out j u hj)
  case qc3 => exact B.out
  case qc4 => unfold maxLen; omega
  case qc5 => omega
  case qc6 => simp
  intro v' w1 hown hgrow hnil
  go_wp2
  go_ret
  refine ⟨v', rfl, by simpa using hown, ?_⟩
  exact ((Below.refl _ w).alloc (Nat.le_refl _) _).grown hgrow (by simp) (by intro k hk; simp [Value.ownBlock] at hk; omega)

set_option maxHeartbeats 1000000 in
theorem clone_nil (n c : Nat) (w : World) : Calls Try.prog 44 #[.slice none n c] w fun e w' => e = .returned (.slice none 0 0) ∧ w' = w := by
  have q22 : ∀ (w : World) (a : Option Addr) (n c n' c' : Nat), (binOp .eql 23 (.slice a n c) (.slice none n' c')).run Try.prog w = .ok (.bool a.isNone) w := fun w a n c n' c' => Lib.run_eql_slice_nil w _ _ a n c n' c' Try.underlying23
  go_enter Try.func44, Try.ntmps44
  go_wp2
  go_ret
  exact ⟨rfl, rfl⟩

theorem intCells {σ : Im} {w : World} (hok : σ.ok w) {k o : Nat} {xs : List D} {vs : Nat → Value} (h3 : ∀ (i : Nat) (x : D), xs[i]? = some x → Rep ctx.cap σ (.int .i64) (vs i) x)
    (h4 : ∀ (i j : Nat) (u : Value), i < xs.length → (vs i).cells[j]? = some u → σ.c k (o + i * (Ty.int .i64).size + j) = some u) :
    (∀ j u, ((List.range xs.length).map vs)[j]? = some u → w.cell? ((⟨k, o, none⟩ : Addr).add j) = some u) ∧ ∀ u ∈ (List.range xs.length).map vs, u.oneCell' = true := by
  have one : ∀ i, i < xs.length → (vs i).cells = #[vs i] ∧ (vs i).oneCell' = true := fun i hi => (h3 i _ (List.getElem?_eq_getElem hi)).oneCell rfl
  refine ⟨fun j u hj => ?_, fun u hu => ?_⟩
  · rw [List.getElem?_map, Option.map_eq_some_iff] at hj
    obtain ⟨i, hi, rfl⟩ := hj
    have hlt : j < xs.length := by have := (List.getElem?_eq_some_iff.1 hi).1; simpa using this
    rw [List.getElem?_range hlt] at hi; cases hi
    have := hok.c _ _ _ (h4 j 0 (vs j) hlt (by rw [(one j hlt).1]; rfl))
    simp only [Ty.size, Nat.mul_one, Nat.add_zero] at this
    simp only [Addr.add]
    split
    · rename_i e; subst e; simpa using this
    · exact this
  · obtain ⟨i, hi, rfl⟩ := List.mem_map.1 hu
    exact (one i (List.mem_range.1 hi)).2

def cloneG (ds : List D) : Option D :=
  match ds with
  | [.list xs] => if xs.length ≤ 4294967296 then some (.list xs) else none
  | _ => none

theorem clone_ok (ds : List D) (d : D) (h : cloneG ds = some d) : ∃ s, ctx.sig 44 = some s ∧ FnOK ctx 44 s ds d := by
  refine ⟨_, rfl, ?_⟩
  unfold cloneG at h
  split at h
  case h_2 => cases h
  rename_i xs
  split at h
  case isFalse => cases h
  rename_i hlen
  cases h
  intro σ w args hok hC ha
  obtain ⟨a1, a2, a3⟩ := ha
  have harg := a3 0 _ rfl
  obtain ⟨v, rfl⟩ : ∃ v, args = #[v] := by
    have : args.size = 1 := by simpa using a1
    match args, this with
    | ⟨[v]⟩, _ => exact ⟨v, rfl⟩
  simp only [List.getD_cons_zero] at harg
  obtain ⟨xs', hx, hcase⟩ := Rep.slice_inv harg
  cases hx
  rcases hcase with ⟨⟨p, hv⟩, rfl⟩ | ⟨k, o, c, hv, h1, h2, vs, h3, h4⟩
  · have hv : v = .slice p 0 0 := hv
    subst hv
    cases p with
    | none =>
      refine (clone_nil 0 0 w).mono fun e w' hh => ?_
      obtain ⟨rfl, rfl⟩ := hh
      refine ⟨_, σ, rfl, .refl σ, hok, .refl _ _, fun _ _ _ h => .inl h, fun _ _ h => .inl h, ?_⟩
      exact ⟨[], [], rfl, ⟨by simp, .inl ⟨rfl, rfl⟩⟩, ⟨fun _ => undef, fun i x hx => by simp at hx, fun i j u hi => by simp at hi⟩, fun k hk => by cases hk⟩
    | some a =>
      refine (clone_some a 0 0 [] w rfl (by omega) (fun j u hj => by simp at hj) (fun u hu => by cases hu)).mono fun e w' hh => ?_
      obtain ⟨v', rfl, hown, hb⟩ := hh
      refine ⟨v', σ, rfl, .refl σ, hok.below hb, hb, fun _ _ _ h => .inl h, fun _ _ h => .inl h, ?_⟩
      refine ⟨[], [], rfl, hown, ⟨fun _ => undef, fun i x hx => by simp at hx, fun i j u hi => by simp at hi⟩, fun k hk => ?_⟩
      have hk' := (hown.lt k hk).1
      refine ⟨fun o => ?_, ?_⟩
      · cases hc : σ.c k o with
        | none => rfl
        | some u => have := World.block_lt_of_cell? w (a := ⟨k, o, none⟩) (hok.c _ _ _ hc); simp at this; omega
      · cases hc : σ.m k with
        | none => rfl
        | some u => obtain ⟨arr, clock, h1, _⟩ := hok.m _ _ hc; have := (Array.getElem?_eq_some_iff.1 h1).1; omega
  · have hv : v = .slice (some ⟨k, o, none⟩) xs.length c := hv
    subst hv
    obtain ⟨c1, c2⟩ := intCells hok h3 h4
    refine (clone_some ⟨k, o, none⟩ xs.length c ((List.range xs.length).map vs) w (by simp) hlen c1 c2).mono fun e w' hh => ?_
    obtain ⟨v', rfl, hown, hb⟩ := hh
    refine ⟨v', σ, rfl, .refl σ, hok.below hb, hb, fun _ _ _ h => .inl h, fun _ _ h => .inl h, ?_⟩
    refine ⟨_, xs, rfl, hown, ⟨vs, h3, fun i j u hi hj => ?_⟩, fun k hk => ?_⟩
    · have h5 := (h3 i _ (List.getElem?_eq_getElem hi)).oneCell rfl
      rw [h5.1] at hj
      cases j with
      | zero => simp only [List.getElem?_toArray, List.getElem?_cons_zero, Option.some.injEq] at hj; subst hj; simp [Ty.size, hi]
      | succ j => simp at hj
    · have hk' := (hown.lt k hk).1
      refine ⟨fun o => ?_, ?_⟩
      · cases hc : σ.c k o with
        | none => rfl
        | some u => have := World.block_lt_of_cell? w (a := ⟨k, o, none⟩) (hok.c _ _ _ hc); simp at this; omega
      · cases hc : σ.m k with
        | none => rfl
        | some u => obtain ⟨arr, clock, h1, _⟩ := hok.m _ _ hc; have := (Array.getElem?_eq_some_iff.1 h1).1; omega

def extL : List (Nat × (Funs → List D → Option D)) := [(44, fun _ ds => cloneG ds)]
def ext : Nat → Option (Funs → List D → Option D) := lookL extL
theorem tabOK : TabOK ctx tab ext := by
  refine ⟨clos, fun f pc _ h => tabs f pc h, fun f g hg Φ _ ds d h => ?_⟩
  have := look_all (R := fun f (g : Funs → List D → Option D) => ∀ Φ ds d, g Φ ds = some d → ∃ s, ctx.sig f = some s ∧ FnOK ctx f s ds d) (l := extL) ⟨fun _ ds d h => clone_ok ds d h, trivial⟩ f g hg
  exact this Φ ds d h
noncomputable abbrev T : Funs' := Tab tab ext

theorem ext_mono : ∀ f g, ext f = some g → ∀ Φ Ψ, Le Φ Ψ → ∀ ds d, g Φ ds = some d → g Ψ ds = some d := fun f g hg =>
  look_all (R := fun _ (g : Funs → List D → Option D) => ∀ Φ Ψ, Le Φ Ψ → ∀ ds d, g Φ ds = some d → g Ψ ds = some d) (l := extL) ⟨fun _ _ _ _ _ h => h, trivial⟩ f g hg
theorem sane_runs : Runs T 11 [] (.v (.bool true)) := .of_at ext_mono 60 (by kernel_rfl)
end Expo
