/-
  The statement: PoolSpare.
-/
import Derived.Test.YtaihcmbfhgmjgaaPoT
import Derived.Test.YtaihcmbfhgmjgaaPoF
import Derived.Test.YtaihcmbfhgmjgaaRows
set_option linter.unusedSimpArgs false
set_option linter.unusedVariables false
namespace Go.Proofs.Ytaihcmbfhgmjgaa
open Go Go.Proofs Cx Pool Go.RowKit Go.ChangeShapes Go.WideShapes

theorem poolSpare_main (ds : List D) (h : DTys ((lookL sigL 5).getD default).args ds) : FnOK ctx 5 ((lookL sigL 5).getD default) ds (.v (.bool true)) := by
  obtain ⟨d1, ds, rfl, h1, h⟩ := DTys.cons_inv h
  obtain ⟨d2, ds, rfl, h2, h⟩ := DTys.cons_inv h
  obtain ⟨d3, ds, rfl, h3, h⟩ := DTys.cons_inv h
  obtain ⟨d4, ds, rfl, h4, h⟩ := DTys.cons_inv h
  obtain rfl := h.nil_inv
  obtain ⟨t, rfl⟩ := tm_inv h1
  obtain ⟨l, rfl, hl⟩ := pls_inv h2
  obtain ⟨a, rfl, _⟩ := h3.i64_inv
  obtain ⟨b, rfl, _⟩ := h4.int_inv
  exact Runs.fnOK tabOK rfl (spare5_runs t l a b hl)

set_option maxRecDepth 100000 in
theorem poolSpare_lifted (os : Os) (started : os.Started) (H : Type) (enc : TypeId × Value → H) :
    ReturnsInHanded {} Try.checked os 5 .any (Rows.poolSpareSpec.pre6 enc Try.prog Try.f5 Rows.poolSpareRow.domain false) (Rows.poolSpareSpec.post enc Try.prog Try.f5 false true false false) := by
  refine returnsInHanded_of_change (C := Try.checked) own started (by kernel_rfl) Try.func5
    (ChangeSpec.witness6 (enc := enc) (C := Try.checked) false ⟨#[], #[.agg #[.int .i64 0, .int .i64 0, .int .i64 0, .int .i64 0, .int .i64 0], .slice none 0 0, .int .i64 0, .int .u64 0], []⟩ 8 (by kernel_rfl) (by kernel_rfl) (by kernel_rfl) (by kernel_rfl)) ?_
  intro W base args ds gs before hval hW _ _
  refine law_contract (C := ctx) (f := 5) (fn := Try.f5) (sg := (lookL sigL 5).getD default) (spec := Rows.poolSpareSpec) (tb := 4) (by kernel_rfl) (by kernel_rfl) (by kernel_rfl) rfl ?_ rfl Try.underlying4 rfl rfl rfl poolSpare_main W base args ds gs before hval hW
  intro ds hds
  match ds, hds with
  | [_, _, _, _], _ => exact ⟨rfl, rfl, rfl⟩

theorem poolSpare_holds : Rows.PoolSpareSaid :=
  OpenClaim.holds_of_wide 5 Try.f5 rfl rfl rfl rfl rfl rfl rfl ⟨rfl, rfl, rfl, rfl, rfl⟩ rfl rfl rfl rfl rfl (by kernel_rfl) Try.func5 (by kernel_rfl)
    (of_decide_eq_true (by kernel_rfl)) (by unfold Func.isWrapper; first | (rw [if_pos (by decide +kernel)]; kernel_rfl) | (rw [if_neg (by decide +kernel)]; exact ⟨rfl, rfl⟩))
    (fun os started H enc _ => poolSpare_lifted os started H enc)
end Go.Proofs.Ytaihcmbfhgmjgaa
