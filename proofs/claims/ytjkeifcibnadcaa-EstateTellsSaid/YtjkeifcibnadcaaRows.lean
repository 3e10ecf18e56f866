/-
  No cell of these rows narrows 'for every input' (looked for: loops, veiled, ifaces, maps, wideKeys, modest, calm, conditions, laid).
  DERIVED. THE GIVEN ROWS OF THIS SEAT. 8 by the template 'for every input the law returns true; each argument reads behind the call as it read before'; 0 by the template 'total and deterministic' (their statements: YtjkeifcibnadcaaTotals.lean).
  GIVEN WITH THE SEED: the statements are not yours to turn. If you find one false, say at which input.
  Laid BY PROGRAM, IN A SANDBOX (cutbox-rows.mjs): the forced cells as the released guide's own fill.sh prints them over the translation 65a316afb5a1365c… (all of the seat's roots in one cut). By AI agents, Wed Nov 11 2026. No macro, syntax, notation, axiom, sorry.
-/
import Derived.Test.YtjkeifcibnadcaaChecked
import GoSem.Claim
import GoSem.ClaimJoined
import GoSem.ClaimMapViews
import Derived.JoinedTies
import Derived.KernelRfl
namespace Go.Proofs.Ytjkeifcibnadcaa
/- THE CELL 'sum', in the pinned program and in every row, IS THE sha256 OF THE DUMP (.gsa) THAT YtjkeifcibnadcaaProg.lean LOADS. Nothing in Lean hashes anything: it is a label: what it is worth is what the hold of that sum in a sandbox is worth. -/
noncomputable def Try.pinned : Pinned := { name := "ytjkeifcibnadcaa", sum := "65a316afb5a1365c95ec2236ccfae47a429dc0579d045a0188f0a07536cd5cca", checked := Try.checked }
namespace Rows
def none {H : Type} : Left H := { results := [], args := [] }

/-- 'allongelaw39.ExposureTells': WHATEVER THE INPUT: true; the input reads as it did. -/
def exposureTellsSpec : ChangeSpec := { name := "exposureTells", fn := fun _ => fun
  | [d1, d2, d3, d4, d5] => { results := [.lit (.bool true)], args := [d1, d2, d3, d4, d5] }
  | _ => none }
def exposureTellsRow : OpenClaim := { program := "ytjkeifcibnadcaa", sum := "65a316afb5a1365c95ec2236ccfae47a429dc0579d045a0188f0a07536cd5cca", func := "allonge/allongelaw39.ExposureTells", spec := "exposureTells", plainKeys := false, apart := false }
def ExposureTellsSaid : Prop := exposureTellsRow.holds Try.pinned (OpenSpec.ofChange exposureTellsSpec)

/-- ITS FALSE NEIGHBOUR: 'it returns false'. Refute it at one input. -/
def exposureTellsWrong : ChangeSpec := { name := "exposureTells", fn := fun _ => fun
  | [d1, d2, d3, d4, d5] => { results := [.lit (.bool false)], args := [d1, d2, d3, d4, d5] }
  | _ => none }
def ExposureTellsWrongFalsely : Prop := exposureTellsRow.holds Try.pinned (OpenSpec.ofChange exposureTellsWrong)

/-- 'allongelaw39.ExposureWorst': WHATEVER THE INPUT: true; the input reads as it did. -/
def exposureWorstSpec : ChangeSpec := { name := "exposureWorst", fn := fun _ => fun
  | [d1, d2, d3, d4] => { results := [.lit (.bool true)], args := [d1, d2, d3, d4] }
  | _ => none }
def exposureWorstRow : OpenClaim := { program := "ytjkeifcibnadcaa", sum := "65a316afb5a1365c95ec2236ccfae47a429dc0579d045a0188f0a07536cd5cca", func := "allonge/allongelaw39.ExposureWorst", spec := "exposureWorst", plainKeys := false, apart := false }
def ExposureWorstSaid : Prop := exposureWorstRow.holds Try.pinned (OpenSpec.ofChange exposureWorstSpec)

/-- ITS FALSE NEIGHBOUR: 'it returns false'. Refute it at one input. -/
def exposureWorstWrong : ChangeSpec := { name := "exposureWorst", fn := fun _ => fun
  | [d1, d2, d3, d4] => { results := [.lit (.bool false)], args := [d1, d2, d3, d4] }
  | _ => none }
def ExposureWorstWrongFalsely : Prop := exposureWorstRow.holds Try.pinned (OpenSpec.ofChange exposureWorstWrong)

/-- 'allongelaw39.ExposureGrows': WHATEVER THE INPUT: true; the input reads as it did. -/
def exposureGrowsSpec : ChangeSpec := { name := "exposureGrows", fn := fun _ => fun
  | [d1, d2, d3, d4, d5, d6] => { results := [.lit (.bool true)], args := [d1, d2, d3, d4, d5, d6] }
  | _ => none }
def exposureGrowsRow : OpenClaim := { program := "ytjkeifcibnadcaa", sum := "65a316afb5a1365c95ec2236ccfae47a429dc0579d045a0188f0a07536cd5cca", func := "allonge/allongelaw39.ExposureGrows", spec := "exposureGrows", plainKeys := false, apart := false }
def ExposureGrowsSaid : Prop := exposureGrowsRow.holds Try.pinned (OpenSpec.ofChange exposureGrowsSpec)

/-- ITS FALSE NEIGHBOUR: 'it returns false'. Refute it at one input. -/
def exposureGrowsWrong : ChangeSpec := { name := "exposureGrows", fn := fun _ => fun
  | [d1, d2, d3, d4, d5, d6] => { results := [.lit (.bool false)], args := [d1, d2, d3, d4, d5, d6] }
  | _ => none }
def ExposureGrowsWrongFalsely : Prop := exposureGrowsRow.holds Try.pinned (OpenSpec.ofChange exposureGrowsWrong)

/-- 'allongelaw39.ExposureSteps': WHATEVER THE INPUT: true; the input reads as it did. -/
def exposureStepsSpec : ChangeSpec := { name := "exposureSteps", fn := fun _ => fun
  | [d1, d2, d3] => { results := [.lit (.bool true)], args := [d1, d2, d3] }
  | _ => none }
def exposureStepsRow : OpenClaim := { program := "ytjkeifcibnadcaa", sum := "65a316afb5a1365c95ec2236ccfae47a429dc0579d045a0188f0a07536cd5cca", func := "allonge/allongelaw39.ExposureSteps", spec := "exposureSteps", plainKeys := false, apart := false }
def ExposureStepsSaid : Prop := exposureStepsRow.holds Try.pinned (OpenSpec.ofChange exposureStepsSpec)

/-- ITS FALSE NEIGHBOUR: 'it returns false'. Refute it at one input. -/
def exposureStepsWrong : ChangeSpec := { name := "exposureSteps", fn := fun _ => fun
  | [d1, d2, d3] => { results := [.lit (.bool false)], args := [d1, d2, d3] }
  | _ => none }
def ExposureStepsWrongFalsely : Prop := exposureStepsRow.holds Try.pinned (OpenSpec.ofChange exposureStepsWrong)

/-- 'allongelaw48.EstateTells': WHATEVER THE INPUT: true; the input reads as it did. -/
def estateTellsSpec : ChangeSpec := { name := "estateTells", fn := fun _ => fun
  | [d1, d2, d3, d4, d5] => { results := [.lit (.bool true)], args := [d1, d2, d3, d4, d5] }
  | _ => none }
def estateTellsRow : OpenClaim := { program := "ytjkeifcibnadcaa", sum := "65a316afb5a1365c95ec2236ccfae47a429dc0579d045a0188f0a07536cd5cca", func := "allonge/allongelaw48.EstateTells", spec := "estateTells", unfollowed := true, recurses := true, named := ["math/bits.divideError", "math/bits.overflowError"], plainKeys := false, apart := false }
def EstateTellsSaid : Prop := estateTellsRow.holds Try.pinned (OpenSpec.ofChange estateTellsSpec)

/-- ITS FALSE NEIGHBOUR: 'it returns false'. Refute it at one input. -/
def estateTellsWrong : ChangeSpec := { name := "estateTells", fn := fun _ => fun
  | [d1, d2, d3, d4, d5] => { results := [.lit (.bool false)], args := [d1, d2, d3, d4, d5] }
  | _ => none }
def EstateTellsWrongFalsely : Prop := estateTellsRow.holds Try.pinned (OpenSpec.ofChange estateTellsWrong)

/-- 'allongelaw48.EstateWhole': WHATEVER THE INPUT: true; the input reads as it did. -/
def estateWholeSpec : ChangeSpec := { name := "estateWhole", fn := fun _ => fun
  | [d1, d2, d3] => { results := [.lit (.bool true)], args := [d1, d2, d3] }
  | _ => none }
def estateWholeRow : OpenClaim := { program := "ytjkeifcibnadcaa", sum := "65a316afb5a1365c95ec2236ccfae47a429dc0579d045a0188f0a07536cd5cca", func := "allonge/allongelaw48.EstateWhole", spec := "estateWhole", unfollowed := true, recurses := true, named := ["math/bits.divideError", "math/bits.overflowError"], plainKeys := false, apart := false }
def EstateWholeSaid : Prop := estateWholeRow.holds Try.pinned (OpenSpec.ofChange estateWholeSpec)

/-- ITS FALSE NEIGHBOUR: 'it returns false'. Refute it at one input. -/
def estateWholeWrong : ChangeSpec := { name := "estateWhole", fn := fun _ => fun
  | [d1, d2, d3] => { results := [.lit (.bool false)], args := [d1, d2, d3] }
  | _ => none }
def EstateWholeWrongFalsely : Prop := estateWholeRow.holds Try.pinned (OpenSpec.ofChange estateWholeWrong)

/-- 'allongelaw48.EstateLeft': WHATEVER THE INPUT: true; the input reads as it did. -/
def estateLeftSpec : ChangeSpec := { name := "estateLeft", fn := fun _ => fun
  | [d1, d2, d3] => { results := [.lit (.bool true)], args := [d1, d2, d3] }
  | _ => none }
def estateLeftRow : OpenClaim := { program := "ytjkeifcibnadcaa", sum := "65a316afb5a1365c95ec2236ccfae47a429dc0579d045a0188f0a07536cd5cca", func := "allonge/allongelaw48.EstateLeft", spec := "estateLeft", unfollowed := true, recurses := true, named := ["math/bits.divideError", "math/bits.overflowError"], plainKeys := false, apart := false }
def EstateLeftSaid : Prop := estateLeftRow.holds Try.pinned (OpenSpec.ofChange estateLeftSpec)

/-- ITS FALSE NEIGHBOUR: 'it returns false'. Refute it at one input. -/
def estateLeftWrong : ChangeSpec := { name := "estateLeft", fn := fun _ => fun
  | [d1, d2, d3] => { results := [.lit (.bool false)], args := [d1, d2, d3] }
  | _ => none }
def EstateLeftWrongFalsely : Prop := estateLeftRow.holds Try.pinned (OpenSpec.ofChange estateLeftWrong)

/-- 'allongelaw48.EstateOrder': WHATEVER THE INPUT: true; the input reads as it did. -/
def estateOrderSpec : ChangeSpec := { name := "estateOrder", fn := fun _ => fun
  | [d1, d2, d3, d4] => { results := [.lit (.bool true)], args := [d1, d2, d3, d4] }
  | _ => none }
def estateOrderRow : OpenClaim := { program := "ytjkeifcibnadcaa", sum := "65a316afb5a1365c95ec2236ccfae47a429dc0579d045a0188f0a07536cd5cca", func := "allonge/allongelaw48.EstateOrder", spec := "estateOrder", unfollowed := true, recurses := true, named := ["math/bits.divideError", "math/bits.overflowError"], plainKeys := false, apart := false }
def EstateOrderSaid : Prop := estateOrderRow.holds Try.pinned (OpenSpec.ofChange estateOrderSpec)

/-- ITS FALSE NEIGHBOUR: 'it returns false'. Refute it at one input. -/
def estateOrderWrong : ChangeSpec := { name := "estateOrder", fn := fun _ => fun
  | [d1, d2, d3, d4] => { results := [.lit (.bool false)], args := [d1, d2, d3, d4] }
  | _ => none }
def EstateOrderWrongFalsely : Prop := estateOrderRow.holds Try.pinned (OpenSpec.ofChange estateOrderWrong)

/- THE SECOND FORM. 'bulk': how many values and letters a reading holds, each counted each time it is reached (what is shared counts as often as it is met; a slice's spare places count too). A statement '..UptoSaid' is the law's where the arguments, and the package variables that the reading takes, are together of bulk at most 1048576: NARROWER than '..Said'. Prove '..Said' where nothing that the law and all that it calls make is longer than what came in: it says more and counts as full. Else prove '..UptoSaid'. A law counts once. -/
mutual
def uptoBulk {H : Type} : DataW H → Nat
  | .lit (.string bytes) => bytes.length + 1
  | .lit _ => 1
  | .nil => 1
  | .ptr d => uptoBulk d + 1
  | .slice elems spare => uptoBulkAll elems + uptoBulkAll spare + 1
  | .agg parts => uptoBulkAll parts + 1
  | .iface _ d => uptoBulk d + 1
  | .map entries => uptoBulkEntries entries + 1
  | .held _ => 1
def uptoBulkAll {H : Type} : List (DataW H) → Nat
  | [] => 0
  | d :: r => uptoBulk d + uptoBulkAll r
def uptoBulkEntries {H : Type} : List (Lit × DataW H) → Nat
  | [] => 0
  | x :: r => uptoBulkEntry x + uptoBulkEntries r
def uptoBulkEntry {H : Type} : Lit × DataW H → Nat
  | (.string bytes, d) => bytes.length + uptoBulk d + 1
  | (_, d) => uptoBulk d + 1
 end
def uptoSmall : (H : Type) → List (DataW H) → Bool := fun _ ds => decide (uptoBulkAll ds ≤ 1048576)
def OpenSpec.upto (s : _root_.Go.ChangeSpec) : _root_.Go.OpenSpec := { _root_.Go.OpenSpec.ofChange s with cond := some uptoSmall }

/-- 'allongelaw39.ExposureTells', WHERE WHAT IT READS IS OF BULK AT MOST 1048576: true; the input reads as it did. -/
def exposureTellsUptoRow : OpenClaim := { program := "ytjkeifcibnadcaa", sum := "65a316afb5a1365c95ec2236ccfae47a429dc0579d045a0188f0a07536cd5cca", func := "allonge/allongelaw39.ExposureTells", spec := "exposureTells", plainKeys := false, apart := false, narrowed := true }
def ExposureTellsUptoSaid : Prop := exposureTellsUptoRow.holds Try.pinned (OpenSpec.upto exposureTellsSpec)

/-- 'allongelaw39.ExposureWorst', WHERE WHAT IT READS IS OF BULK AT MOST 1048576: true; the input reads as it did. -/
def exposureWorstUptoRow : OpenClaim := { program := "ytjkeifcibnadcaa", sum := "65a316afb5a1365c95ec2236ccfae47a429dc0579d045a0188f0a07536cd5cca", func := "allonge/allongelaw39.ExposureWorst", spec := "exposureWorst", plainKeys := false, apart := false, narrowed := true }
def ExposureWorstUptoSaid : Prop := exposureWorstUptoRow.holds Try.pinned (OpenSpec.upto exposureWorstSpec)

/-- 'allongelaw39.ExposureGrows', WHERE WHAT IT READS IS OF BULK AT MOST 1048576: true; the input reads as it did. -/
def exposureGrowsUptoRow : OpenClaim := { program := "ytjkeifcibnadcaa", sum := "65a316afb5a1365c95ec2236ccfae47a429dc0579d045a0188f0a07536cd5cca", func := "allonge/allongelaw39.ExposureGrows", spec := "exposureGrows", plainKeys := false, apart := false, narrowed := true }
def ExposureGrowsUptoSaid : Prop := exposureGrowsUptoRow.holds Try.pinned (OpenSpec.upto exposureGrowsSpec)

/-- 'allongelaw39.ExposureSteps', WHERE WHAT IT READS IS OF BULK AT MOST 1048576: true; the input reads as it did. -/
def exposureStepsUptoRow : OpenClaim := { program := "ytjkeifcibnadcaa", sum := "65a316afb5a1365c95ec2236ccfae47a429dc0579d045a0188f0a07536cd5cca", func := "allonge/allongelaw39.ExposureSteps", spec := "exposureSteps", plainKeys := false, apart := false, narrowed := true }
def ExposureStepsUptoSaid : Prop := exposureStepsUptoRow.holds Try.pinned (OpenSpec.upto exposureStepsSpec)

/-- 'allongelaw48.EstateTells', WHERE WHAT IT READS IS OF BULK AT MOST 1048576: true; the input reads as it did. -/
def estateTellsUptoRow : OpenClaim := { program := "ytjkeifcibnadcaa", sum := "65a316afb5a1365c95ec2236ccfae47a429dc0579d045a0188f0a07536cd5cca", func := "allonge/allongelaw48.EstateTells", spec := "estateTells", unfollowed := true, recurses := true, named := ["math/bits.divideError", "math/bits.overflowError"], plainKeys := false, apart := false, narrowed := true }
def EstateTellsUptoSaid : Prop := estateTellsUptoRow.holds Try.pinned (OpenSpec.upto estateTellsSpec)

/-- 'allongelaw48.EstateWhole', WHERE WHAT IT READS IS OF BULK AT MOST 1048576: true; the input reads as it did. -/
def estateWholeUptoRow : OpenClaim := { program := "ytjkeifcibnadcaa", sum := "65a316afb5a1365c95ec2236ccfae47a429dc0579d045a0188f0a07536cd5cca", func := "allonge/allongelaw48.EstateWhole", spec := "estateWhole", unfollowed := true, recurses := true, named := ["math/bits.divideError", "math/bits.overflowError"], plainKeys := false, apart := false, narrowed := true }
def EstateWholeUptoSaid : Prop := estateWholeUptoRow.holds Try.pinned (OpenSpec.upto estateWholeSpec)

/-- 'allongelaw48.EstateLeft', WHERE WHAT IT READS IS OF BULK AT MOST 1048576: true; the input reads as it did. -/
def estateLeftUptoRow : OpenClaim := { program := "ytjkeifcibnadcaa", sum := "65a316afb5a1365c95ec2236ccfae47a429dc0579d045a0188f0a07536cd5cca", func := "allonge/allongelaw48.EstateLeft", spec := "estateLeft", unfollowed := true, recurses := true, named := ["math/bits.divideError", "math/bits.overflowError"], plainKeys := false, apart := false, narrowed := true }
def EstateLeftUptoSaid : Prop := estateLeftUptoRow.holds Try.pinned (OpenSpec.upto estateLeftSpec)

/-- 'allongelaw48.EstateOrder', WHERE WHAT IT READS IS OF BULK AT MOST 1048576: true; the input reads as it did. -/
def estateOrderUptoRow : OpenClaim := { program := "ytjkeifcibnadcaa", sum := "65a316afb5a1365c95ec2236ccfae47a429dc0579d045a0188f0a07536cd5cca", func := "allonge/allongelaw48.EstateOrder", spec := "estateOrder", unfollowed := true, recurses := true, named := ["math/bits.divideError", "math/bits.overflowError"], plainKeys := false, apart := false, narrowed := true }
def EstateOrderUptoSaid : Prop := estateOrderUptoRow.holds Try.pinned (OpenSpec.upto estateOrderSpec)

end Rows
end Go.Proofs.Ytjkeifcibnadcaa
