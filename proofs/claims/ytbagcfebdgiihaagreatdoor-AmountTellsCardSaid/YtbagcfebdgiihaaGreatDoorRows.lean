/-
  NARROWER THAN 'FOR EVERY INPUT', by the rows' own cells (each row's printed sentence says how): AmountTells: loops, laid · ExposureKnows: loops, laid · ExposureOf: loops, laid.
  DERIVED. THE GIVEN ROWS OF THIS SEAT. 3 by the template 'for every input the law returns true; each argument reads behind the call as it read before'; 0 by the template 'total and deterministic' (their statements: YtbagcfebdgiihaaGreatDoorTotals.lean).
  GIVEN WITH THE SEED: the statements are not yours to turn. If you find one false, say at which input.
  Laid BY PROGRAM, IN A SANDBOX (cutbox-rows.mjs): the forced cells as the released guide's own fill.sh prints them over the translation 2edda28106ed51d0… (all of the seat's roots in one cut). By AI agents, Wed Nov 11 2026. No macro, syntax, notation, axiom, sorry.
-/
import Derived.Test.YtbagcfebdgiihaaGreatDoorChecked
import GoSem.Claim
import GoSem.ClaimJoined
import GoSem.ClaimMapViews
import Derived.JoinedTies
import Derived.KernelRfl
namespace Go.Proofs.YtbagcfebdgiihaaGreatDoor
/- THE CELL 'sum', in the pinned program and in every row, IS THE sha256 OF THE DUMP (.gsa) THAT YtbagcfebdgiihaaGreatDoorProg.lean LOADS. Nothing in Lean hashes anything: it is a label: what it is worth is what the hold of that sum in a sandbox is worth. -/
noncomputable def Tryz.pinned : Pinned := { name := "ytbagcfebdgiihaagreatdoor", sum := "2edda28106ed51d04dba4c6c83be07ca351453292966e810c401b363a7d9ac88", checked := Tryz.checked }
namespace Rows
def none {H : Type} : Left H := { results := [], args := [] }

/- WHAT THE LISTED PACKAGE-LEVEL VARIABLES READ AS WHEN THE CALL BEGINS. Each datum BY PROGRAM (the guide's laid-datum.mjs) off the statement by which the dump's own 'gosem.cut.vars' lays the variable. In a bare row this is a premise. The card (YtbagcfebdgiihaaGreatDoorCards.lean) ties it to the program's text. -/
def laid_allonge_order_numbers {H : Type} : DataW H := .agg [.lit (.int .i64 6), .lit (.int .i64 7), .lit (.int .i64 10), .lit (.int .i64 12), .lit (.int .i64 13), .lit (.int .i64 14), .lit (.int .i64 15), .lit (.int .i64 16), .lit (.int .i64 20), .lit (.int .i64 21)]

/-- 'allongelaw25.AmountTells': WHATEVER THE INPUT: true; the input reads as it did. -/
def amountTellsSpec : ChangeSpec := { name := "amountTells", fn := fun _ => fun
  | [d1, d2, d3, d4, d5, d6, d7] => { results := [.lit (.bool true)], args := [d1, d2, d3, d4, d5, d6, d7] }
  | _ => none }
def amountTellsRow : OpenClaim := { program := "ytbagcfebdgiihaagreatdoor", sum := "2edda28106ed51d04dba4c6c83be07ca351453292966e810c401b363a7d9ac88", func := "allonge/allongelaw25.AmountTells", spec := "amountTells", unfollowed := true, recurses := true, named := ["allonge/order.numbers", "math/bits.divideError", "math/bits.overflowError"], loops := true, apart := false, laid := [("allonge/order.numbers", laid_allonge_order_numbers)] }
def AmountTellsSaid : Prop := amountTellsRow.holds Tryz.pinned (OpenSpec.ofChange amountTellsSpec)

/-- ITS FALSE NEIGHBOUR: 'it returns false'. Refute it at one input. -/
def amountTellsWrong : ChangeSpec := { name := "amountTells", fn := fun _ => fun
  | [d1, d2, d3, d4, d5, d6, d7] => { results := [.lit (.bool false)], args := [d1, d2, d3, d4, d5, d6, d7] }
  | _ => none }
def AmountTellsWrongFalsely : Prop := amountTellsRow.holds Tryz.pinned (OpenSpec.ofChange amountTellsWrong)

/-- 'allongelaw39.ExposureKnows': WHATEVER THE INPUT: true; the input reads as it did. -/
def exposureKnowsSpec : ChangeSpec := { name := "exposureKnows", fn := fun _ => fun
  | [d1, d2, d3, d4, d5, d6] => { results := [.lit (.bool true)], args := [d1, d2, d3, d4, d5, d6] }
  | _ => none }
def exposureKnowsRow : OpenClaim := { program := "ytbagcfebdgiihaagreatdoor", sum := "2edda28106ed51d04dba4c6c83be07ca351453292966e810c401b363a7d9ac88", func := "allonge/allongelaw39.ExposureKnows", spec := "exposureKnows", unfollowed := true, recurses := true, named := ["allonge/order.numbers"], loops := true, apart := false, laid := [("allonge/order.numbers", laid_allonge_order_numbers)] }
def ExposureKnowsSaid : Prop := exposureKnowsRow.holds Tryz.pinned (OpenSpec.ofChange exposureKnowsSpec)

/-- ITS FALSE NEIGHBOUR: 'it returns false'. Refute it at one input. -/
def exposureKnowsWrong : ChangeSpec := { name := "exposureKnows", fn := fun _ => fun
  | [d1, d2, d3, d4, d5, d6] => { results := [.lit (.bool false)], args := [d1, d2, d3, d4, d5, d6] }
  | _ => none }
def ExposureKnowsWrongFalsely : Prop := exposureKnowsRow.holds Tryz.pinned (OpenSpec.ofChange exposureKnowsWrong)

/-- 'allongelaw39.ExposureOf': WHATEVER THE INPUT: true; the input reads as it did. -/
def exposureOfSpec : ChangeSpec := { name := "exposureOf", fn := fun _ => fun
  | [d1, d2, d3, d4] => { results := [.lit (.bool true)], args := [d1, d2, d3, d4] }
  | _ => none }
def exposureOfRow : OpenClaim := { program := "ytbagcfebdgiihaagreatdoor", sum := "2edda28106ed51d04dba4c6c83be07ca351453292966e810c401b363a7d9ac88", func := "allonge/allongelaw39.ExposureOf", spec := "exposureOf", unfollowed := true, recurses := true, named := ["allonge/order.numbers"], loops := true, apart := false, laid := [("allonge/order.numbers", laid_allonge_order_numbers)] }
def ExposureOfSaid : Prop := exposureOfRow.holds Tryz.pinned (OpenSpec.ofChange exposureOfSpec)

/-- ITS FALSE NEIGHBOUR: 'it returns false'. Refute it at one input. -/
def exposureOfWrong : ChangeSpec := { name := "exposureOf", fn := fun _ => fun
  | [d1, d2, d3, d4] => { results := [.lit (.bool false)], args := [d1, d2, d3, d4] }
  | _ => none }
def ExposureOfWrongFalsely : Prop := exposureOfRow.holds Tryz.pinned (OpenSpec.ofChange exposureOfWrong)

/- THE SECOND FORM. 'bulk': how many values and letters a reading holds, each counted each time it is reached (what is shared counts as often as it is met; a slice's spare places count too). A statement '..UptoSaid' is the law's where the arguments, and the package variables that the reading takes, are together of bulk at most 1048576: NARROWER than '..Said'. Prove '..Said' where nothing that the law and all that it calls make is longer than what came in: it says more and counts as full. Else prove '..UptoSaid'. A law counts once. -/
mutual
def uptoBulk {H : Type} : DataW H → Nat
  | .lit (.string bytes) => bytes.length + 1
  | .lit _ => 1
  | .nil => 1
  | .ptr d => uptoBulk d + 1
  | .slice elems spare => uptoBulkAll elems + uptoBulkAll spare + 1
  | .agg parts => uptoBulkAll parts + 1
  | .iface _ d => uptoBulk d + 1
  | .map entries => uptoBulkEntries entries + 1
  | .held _ => 1
def uptoBulkAll {H : Type} : List (DataW H) → Nat
  | [] => 0
  | d :: r => uptoBulk d + uptoBulkAll r
def uptoBulkEntries {H : Type} : List (Lit × DataW H) → Nat
  | [] => 0
  | x :: r => uptoBulkEntry x + uptoBulkEntries r
def uptoBulkEntry {H : Type} : Lit × DataW H → Nat
  | (.string bytes, d) => bytes.length + uptoBulk d + 1
  | (_, d) => uptoBulk d + 1
 end
def uptoSmall : (H : Type) → List (DataW H) → Bool := fun _ ds => decide (uptoBulkAll ds ≤ 1048576)
def OpenSpec.upto (s : _root_.Go.ChangeSpec) : _root_.Go.OpenSpec := { _root_.Go.OpenSpec.ofChange s with cond := some uptoSmall }

/-- 'allongelaw25.AmountTells', WHERE WHAT IT READS IS OF BULK AT MOST 1048576: true; the input reads as it did. -/
def amountTellsUptoRow : OpenClaim := { program := "ytbagcfebdgiihaagreatdoor", sum := "2edda28106ed51d04dba4c6c83be07ca351453292966e810c401b363a7d9ac88", func := "allonge/allongelaw25.AmountTells", spec := "amountTells", unfollowed := true, recurses := true, named := ["allonge/order.numbers", "math/bits.divideError", "math/bits.overflowError"], loops := true, apart := false, laid := [("allonge/order.numbers", laid_allonge_order_numbers)], narrowed := true }
def AmountTellsUptoSaid : Prop := amountTellsUptoRow.holds Tryz.pinned (OpenSpec.upto amountTellsSpec)

/-- 'allongelaw39.ExposureKnows', WHERE WHAT IT READS IS OF BULK AT MOST 1048576: true; the input reads as it did. -/
def exposureKnowsUptoRow : OpenClaim := { program := "ytbagcfebdgiihaagreatdoor", sum := "2edda28106ed51d04dba4c6c83be07ca351453292966e810c401b363a7d9ac88", func := "allonge/allongelaw39.ExposureKnows", spec := "exposureKnows", unfollowed := true, recurses := true, named := ["allonge/order.numbers"], loops := true, apart := false, laid := [("allonge/order.numbers", laid_allonge_order_numbers)], narrowed := true }
def ExposureKnowsUptoSaid : Prop := exposureKnowsUptoRow.holds Tryz.pinned (OpenSpec.upto exposureKnowsSpec)

/-- 'allongelaw39.ExposureOf', WHERE WHAT IT READS IS OF BULK AT MOST 1048576: true; the input reads as it did. -/
def exposureOfUptoRow : OpenClaim := { program := "ytbagcfebdgiihaagreatdoor", sum := "2edda28106ed51d04dba4c6c83be07ca351453292966e810c401b363a7d9ac88", func := "allonge/allongelaw39.ExposureOf", spec := "exposureOf", unfollowed := true, recurses := true, named := ["allonge/order.numbers"], loops := true, apart := false, laid := [("allonge/order.numbers", laid_allonge_order_numbers)], narrowed := true }
def ExposureOfUptoSaid : Prop := exposureOfUptoRow.holds Tryz.pinned (OpenSpec.upto exposureOfSpec)

end Rows
end Go.Proofs.YtbagcfebdgiihaaGreatDoor
