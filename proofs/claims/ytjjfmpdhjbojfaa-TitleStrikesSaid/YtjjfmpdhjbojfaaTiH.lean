/-
  The examples of the document.
-/
import Derived.Test.YtjjfmpdhjbojfaaTiG
set_option linter.unusedSimpArgs false
set_option linter.unusedVariables false
namespace Title
open Go Go.Proofs Cx

def exSigns : List S := [⟨0, 0, 0, -1, -1, 0, 0, 0, 0⟩, ⟨2, 0, 3, -1, 4, 0, 1, 0, 0⟩, ⟨2, 0, 4, -1, -1, 0, 2, 0, 0⟩, ⟨2, 0, 7, -1, 8, 0, 3, 0, 2⟩]
def exF : File := ⟨0, 0, 3, 0, 0, 0, 0, 0, 0, 0, 0, 0, 0, 0, 2, exSigns, [], [], []⟩
def exG : File := ⟨0, 0, 3, 0, 0, 0, 0, 0, 0, 0, 0, 0, 0, 0, 2, exSigns, [], [⟨7, 0, 0, 0, 2, 0, 5, 0, 0⟩], []⟩
theorem ex_runs : Runs T 19 [] (encF exF) := .of_at ext_mono 60 (by kernel_rfl)
theorem ex_a : chain exF 0 9 = ⟨[1, 2, 3], 8, -1, false, 1, []⟩ := by kernel_rfl
theorem ex_b : chain exF 1 9 = ⟨[], 3, -1, false, 0, []⟩ := by kernel_rfl
theorem ex_c : chain exF 0 2 = ⟨[1, 2], -1, -1, true, 0, []⟩ := by kernel_rfl
theorem ex_d : chain exG 0 9 = ⟨[1], 4, 3, false, 0, []⟩ := by kernel_rfl
theorem ex_e : rivals exG 9 = [] := by kernel_rfl
theorem ex_f : struckP exG 2 5 = true := by kernel_rfl
theorem ex_g : struckP exG 2 4 = false := by kernel_rfl
theorem encG : encF exG = .agg [.int 0, .int 0, .int 3, .int 0, .int 0, .int 0, .int 0, .int 0, .int 0, .int 0, .int 0, .int 0, .int 0, .int 0, .int 2,
  .list (exF.signs.map encS), .list [], .list [.agg [.int 7, .int 0, .int 0, .int 0, .int 2, .int 0, .int 5, .int 0, .int 0]], .list []] := rfl
theorem encE' : encF exF = .agg [.int 0, .int 0, .int 3, .int 0, .int 0, .int 0, .int 0, .int 0, .int 0, .int 0, .int 0, .int 0, .int 0, .int 0, .int 2,
  .list (exF.signs.map encS), .list [], .list [], .list []] := rfl
set_option maxRecDepth 100000 in
set_option maxHeartbeats 2000000 in
theorem small_runs : Runs T 9 [] (.bool true) := by
  refine .of_tree rfl rfl tr9_eq ?_
  simp only [tr9, wp_call, holds_nil', if_true]
  refine ⟨_, ex_runs, _, chain_runs exF 0 9 (by decide) (by decide), _, chain_runs exF 1 9 (by decide) (by decide), _, chain_runs exF 0 2 (by decide) (by decide), ?_⟩
  rw [ex_a, ex_b, ex_c]
  simp [encCh, encE', splice, ints, D.cells_none]
  refine ⟨_, chain_runs exG 0 9 (by decide) (by decide), ?_⟩
  rw [ex_d]
  simp [encCh, ints, D.cells_none]
  refine ⟨_, struck11_runs exG 2 5 (by decide), ?_⟩
  rw [ex_f]
  simp
  refine ⟨_, struck11_runs exG 2 4 (by decide), ?_⟩
  rw [ex_g]
  simp
  refine ⟨_, rivals17_runs exG 9 (by decide) (by decide), ?_⟩
  rw [ex_e]
  simp
end Title
