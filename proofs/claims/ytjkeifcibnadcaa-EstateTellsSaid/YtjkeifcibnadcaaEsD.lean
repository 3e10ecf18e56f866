/-
  The table of functions; the sanity function returns true.
-/
import Derived.Test.YtjkeifcibnadcaaEsB
import Derived.Test.YtjkeifcibnadcaaEsC
set_option linter.unusedSimpArgs false
set_option linter.unusedVariables false
namespace Esta
open Go Go.Proofs Cx

def ext : Nat → Option (Funs → List D → Option D) := fun _ => none
theorem tabOK : TabOK ctx tab ext := ⟨clos, its, fun f pc _ h => tabs f pc h, fun f g hg => by cases hg⟩
noncomputable abbrev T : Funs' := Tab tab ext
theorem ext_mono : ∀ f g, ext f = some g → ∀ Φ Ψ, Le Φ Ψ → ∀ ds d, g Φ ds = some d → g Ψ ds = some d := fun f g hg => by cases hg
theorem sane_runs : Runs T 26 [] (.v (.bool true)) := .of_at ext_mono 200 (by kernel_rfl)
end Esta
