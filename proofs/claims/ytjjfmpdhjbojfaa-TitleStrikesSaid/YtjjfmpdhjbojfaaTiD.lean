/-
  The table; what the functions compute: struck, dishonoured, the endorsements.
-/
import Derived.Test.YtjjfmpdhjbojfaaTiC
set_option linter.unusedSimpArgs false
set_option linter.unusedVariables false
namespace Title
open Go Go.Proofs Cx

/-- what the endorsements of a part are, over data -/
def specD (ds : List D) : List D :=
  let F := (ds.getD 0 .none).deref
  let day := (ds.getD 1 .none).deref.i
  let part := (ds.getD 2 .none).deref.i
  ((List.range (F.c 15).l.length).filter fun (i : Nat) => ((((F.c 15).l.getD i .none).c 0).i == 2) && ((((F.c 15).l.getD i .none).c 1).i == part) && decide ((((F.c 15).l.getD i .none).c 6).i ≤ day) &&
    !((F.c 17).l.any fun a => (a.c 0).i == 7 && (a.c 4).i == (i : Int) && decide ((a.c 6).i ≤ day))).map fun (i : Nat) => .tup [.int i, (F.c 15).l.getD i .none]
noncomputable def extL : List (Nat × (Funs → List D → Option D)) := [(27, itG pc27 1000 2 specD)]
noncomputable def ext : Nat → Option (Funs → List D → Option D) := lookL extL
theorem tabOK : TabOK ctx tab ext := by
  refine ⟨clos, its, fun f pc _ h => tabs f pc h, fun f g hg Φ hΦ hIt ds d h => ?_⟩
  have := look_all (R := fun f (g : Funs → List D → Option D) => ∀ Φ, FunsOK ctx Φ → ItsOK ctx Φ → ∀ ds d, g Φ ds = some d → (∀ s, ctx.sig f = some s → FnOK ctx f s ds d) ∧
    ∀ cs ys, ctx.cap f = some cs → itOf cs.args cs.res = some ys → ∃ xs, d = .list xs ∧ (∀ x, x ∈ xs → ∃ ds', x = .tup ds' ∧ ds'.length = ys.length) ∧ ItOK ctx f cs.caps ys ds xs) (l := extL)
    ⟨fun Φ hΦ hIt ds d h => ⟨fun s hs => (by cases hs), fun cs ys hc hi => by
      cases hc
      cases hi
      exact itG_ok clos hΦ hIt Try.func27 ok27 h rfl⟩, trivial⟩ f g hg
  exact this Φ hΦ hIt ds d h
noncomputable abbrev T : Funs' := Tab tab ext
theorem ext_mono : ∀ f g, ext f = some g → ∀ Φ Ψ, Le Φ Ψ → ∀ ds d, g Φ ds = some d → g Ψ ds = some d := fun f g hg =>
  look_all (R := fun _ (g : Funs → List D → Option D) => ∀ Φ Ψ, Le Φ Ψ → ∀ ds d, g Φ ds = some d → g Ψ ds = some d) (l := extL) ⟨fun _ _ h _ _ e => itG_mono h e, trivial⟩ f g hg

theorem struck_runs (f : File) (day : Int) (hf : f.acts.length ≤ 100) : Runs T 20 [encF f, .int day] (.map (mI (mapOf day f.acts))) := by
  refine .of_tree rfl rfl tr20_eq ?_
  simp [tr20]
  refine EvP.forRounds f.acts.length (fun k => [.int k]) (fun k => [.map (mI (mapOf day (f.acts.take k)))]) ?_ (fun k hk => ?_) ?_
  · simp; rfl
  · have hw1 : IntKind.i64.wrap ((k : Int) + 1) = (k : Int) + 1 := wrap64_id (by omega)
    have hm : (mapOf day (f.acts.take k)).length < 4294967296 := by
      have := mapOf_len day (f.acts.take k); rw [List.length_take] at this; omega
    have hs : mapOf day (f.acts.take (k + 1)) = stepM day (mapOf day (f.acts.take k)) f.acts[k] := by
      unfold mapOf; rw [List.take_succ_eq_append_getElem hk, List.foldl_append]; rfl
    rw [hs]
    simp [rd20_0_eq, rd20_0, hk, hw1]
    unfold stepM
    split
    · exact ⟨by omega, putM_int _ _ _⟩
    · rfl
  · simp [rd20_0_eq, rd20_0]

/-! the day of the dishonour -/
def dishA (day : Int) (a : A) : Bool := (a.kind == 1 || a.kind == 3 || a.kind == 4) && decide (a.day ≤ day)
def dishStep (day : Int) (x : Int × Bool) (a : A) : Int × Bool := if dishA day a then (if x.2 = false ∨ a.day < x.1 then a.day else x.1, true) else x
def dishF (day : Int) (acts : List A) : Int × Bool := acts.foldl (dishStep day) (0, false)
set_option maxRecDepth 10000 in
theorem dish_runs (f : File) (day : Int) (hf : f.acts.length ≤ 100) : Runs T 21 [encF f, .int day] (.tup [.int (dishF day f.acts).1, .bool (dishF day f.acts).2]) := by
  refine .of_tree rfl rfl tr21_eq ?_
  simp [tr21]
  refine EvP.forRounds f.acts.length (fun k => [.int (dishF day (f.acts.take k)).1, .bool (dishF day (f.acts.take k)).2, .int k]) (fun k => []) ?_ (fun k hk => ?_) ?_
  · simp; exact ⟨rfl, rfl⟩
  · have hw1 : IntKind.i64.wrap ((k : Int) + 1) = (k : Int) + 1 := wrap64_id (by omega)
    have hs : dishF day (f.acts.take (k + 1)) = dishStep day (dishF day (f.acts.take k)) f.acts[k] := by
      unfold dishF; rw [List.take_succ_eq_append_getElem hk, List.foldl_append]; rfl
    rw [hs]
    generalize dishF day (f.acts.take k) = x
    simp [rd21_0_eq, rd21_0, hk, hw1]
    generalize f.acts[k] = a
    split
    · rename_i h
      have hd : dishA day a = false := by
        cases e : dishA day a with
        | false => rfl
        | true => simp [dishA] at e; omega
      simp [dishStep, hd]
    · rename_i h
      have hd : dishA day a = true := by
        simp [dishA]; omega
      by_cases h2 : x.2 = false ∨ a.day < x.1
      · simp [dishStep, hd, h2]
      · simp [dishStep, hd, h2]
        cases e : x.2 with
        | true => rfl
        | false => exact absurd (.inl e) h2
  · simp [rd21_0_eq, rd21_0]

/-! the endorsements of a part -/
def isEnd (f : File) (part day : Int) (i : Nat) (s : S) : Bool := s.kind == 2 && s.part == part && decide (s.day ≤ day) && !struckB f.acts i day
instance : Inhabited S := ⟨⟨0, 0, 0, 0, 0, 0, 0, 0, 0⟩⟩
def endsL (f : File) (part day : Int) : List Nat := (List.range f.signs.length).filter fun i => isEnd f part day i (f.signs.getD i default)
def encE (f : File) (i : Nat) : D := .tup [.int i, encS (f.signs.getD i default)]
theorem specD_eq (f : File) (part day : Int) : specD [.ref (encF f), .ref (.int day), .ref (.int part)] = (endsL f part day).map (encE f) := by
  have e1 : ((D.ref (encF f)).deref.c 15).l = f.signs.map encS := rfl
  have e2 : ((D.ref (encF f)).deref.c 17).l = f.acts.map encA := rfl
  unfold specD endsL
  simp only [List.getD_cons_zero, List.getD_cons_succ, e1, e2, List.length_map]
  have key : ∀ i, i < f.signs.length → (f.signs.map encS).getD i .none = encS (f.signs.getD i default) := fun i hi => by
    rw [getD_map encS _ _ _ hi, List.getD_eq_getElem?_getD, List.getElem?_eq_getElem hi]; rfl
  have hf : ((List.range f.signs.length).filter fun (i : Nat) => ((((f.signs.map encS).getD i .none).c 0).i == 2) && ((((f.signs.map encS).getD i .none).c 1).i == (D.ref (D.int part)).deref.i) && decide ((((f.signs.map encS).getD i .none).c 6).i ≤ (D.ref (D.int day)).deref.i) &&
      !((f.acts.map encA).any fun a => (a.c 0).i == 7 && (a.c 4).i == (i : Int) && decide ((a.c 6).i ≤ (D.ref (D.int day)).deref.i))) = (List.range f.signs.length).filter fun i => isEnd f part day i (f.signs.getD i default) := by
    apply List.filter_congr
    intro i hi
    rw [key i (List.mem_range.1 hi), List.any_map]
    rfl
  rw [hf]
  apply List.map_congr_left
  intro i hi
  rw [key i (List.mem_range.1 (List.mem_filter.1 hi).1)]
  rfl
end Title
