/-
  NARROWER THAN 'FOR EVERY INPUT', by the rows' own cells (each row's printed sentence says how): LostHolder: loops, laid · LostDays: loops, laid · LostObjects: loops, laid · LostBinds: loops, laid.
  DERIVED. THE GIVEN ROWS OF THIS SEAT. 4 by the template 'for every input the law returns true; each argument reads behind the call as it read before'; 0 by the template 'total and deterministic' (their statements: YtmnnipoiigfapaaGreatDoorTotals.lean).
  GIVEN WITH THE SEED: the statements are not yours to turn. If you find one false, say at which input.
  Laid BY PROGRAM, IN A SANDBOX (cutbox-rows.mjs): the forced cells as the released guide's own fill.sh prints them over the translation 155b857ce5552a01… (all of the seat's roots in one cut). By AI agents, Wed Nov 11 2026. No macro, syntax, notation, axiom, sorry.
-/
import Derived.Test.YtmnnipoiigfapaaGreatDoorChecked
import GoSem.Claim
import GoSem.ClaimJoined
import GoSem.ClaimMapViews
import Derived.JoinedTies
import Derived.KernelRfl
namespace Go.Proofs.YtmnnipoiigfapaaGreatDoor
/- THE CELL 'sum', in the pinned program and in every row, IS THE sha256 OF THE DUMP (.gsa) THAT YtmnnipoiigfapaaGreatDoorProg.lean LOADS. Nothing in Lean hashes anything: it is a label: what it is worth is what the hold of that sum in a sandbox is worth. -/
noncomputable def Tryz.pinned : Pinned := { name := "ytmnnipoiigfapaagreatdoor", sum := "155b857ce5552a015c87ceb9a323334cd721338306baf8b7758948fab355b1ed", checked := Tryz.checked }
namespace Rows
def none {H : Type} : Left H := { results := [], args := [] }

/- WHAT THE LISTED PACKAGE-LEVEL VARIABLES READ AS WHEN THE CALL BEGINS. Each datum BY PROGRAM (the guide's laid-datum.mjs) off the statement by which the dump's own 'gosem.cut.vars' lays the variable. In a bare row this is a premise. The card (YtmnnipoiigfapaaGreatDoorCards.lean) ties it to the program's text. -/
def laid_allonge_order_numbers {H : Type} : DataW H := .agg [.lit (.int .i64 6), .lit (.int .i64 7), .lit (.int .i64 10), .lit (.int .i64 12), .lit (.int .i64 13), .lit (.int .i64 14), .lit (.int .i64 15), .lit (.int .i64 16), .lit (.int .i64 20), .lit (.int .i64 21)]

/-- 'allongelaw49.LostHolder': WHATEVER THE INPUT: true; the input reads as it did. -/
def lostHolderSpec : ChangeSpec := { name := "lostHolder", fn := fun _ => fun
  | [d1, d2, d3, d4, d5] => { results := [.lit (.bool true)], args := [d1, d2, d3, d4, d5] }
  | _ => none }
def lostHolderRow : OpenClaim := { program := "ytmnnipoiigfapaagreatdoor", sum := "155b857ce5552a015c87ceb9a323334cd721338306baf8b7758948fab355b1ed", func := "allonge/allongelaw49.LostHolder", spec := "lostHolder", unfollowed := true, recurses := true, named := ["allonge/order.numbers"], loops := true, apart := false, laid := [("allonge/order.numbers", laid_allonge_order_numbers)] }
def LostHolderSaid : Prop := lostHolderRow.holds Tryz.pinned (OpenSpec.ofChange lostHolderSpec)

/-- ITS FALSE NEIGHBOUR: 'it returns false'. Refute it at one input. -/
def lostHolderWrong : ChangeSpec := { name := "lostHolder", fn := fun _ => fun
  | [d1, d2, d3, d4, d5] => { results := [.lit (.bool false)], args := [d1, d2, d3, d4, d5] }
  | _ => none }
def LostHolderWrongFalsely : Prop := lostHolderRow.holds Tryz.pinned (OpenSpec.ofChange lostHolderWrong)

/-- 'allongelaw49.LostDays': WHATEVER THE INPUT: true; the input reads as it did. -/
def lostDaysSpec : ChangeSpec := { name := "lostDays", fn := fun _ => fun
  | [d1, d2, d3, d4, d5, d6] => { results := [.lit (.bool true)], args := [d1, d2, d3, d4, d5, d6] }
  | _ => none }
def lostDaysRow : OpenClaim := { program := "ytmnnipoiigfapaagreatdoor", sum := "155b857ce5552a015c87ceb9a323334cd721338306baf8b7758948fab355b1ed", func := "allonge/allongelaw49.LostDays", spec := "lostDays", unfollowed := true, recurses := true, named := ["allonge/order.numbers"], loops := true, apart := false, laid := [("allonge/order.numbers", laid_allonge_order_numbers)] }
def LostDaysSaid : Prop := lostDaysRow.holds Tryz.pinned (OpenSpec.ofChange lostDaysSpec)

/-- ITS FALSE NEIGHBOUR: 'it returns false'. Refute it at one input. -/
def lostDaysWrong : ChangeSpec := { name := "lostDays", fn := fun _ => fun
  | [d1, d2, d3, d4, d5, d6] => { results := [.lit (.bool false)], args := [d1, d2, d3, d4, d5, d6] }
  | _ => none }
def LostDaysWrongFalsely : Prop := lostDaysRow.holds Tryz.pinned (OpenSpec.ofChange lostDaysWrong)

/-- 'allongelaw49.LostObjects': WHATEVER THE INPUT: true; the input reads as it did. -/
def lostObjectsSpec : ChangeSpec := { name := "lostObjects", fn := fun _ => fun
  | [d1, d2, d3, d4, d5, d6, d7] => { results := [.lit (.bool true)], args := [d1, d2, d3, d4, d5, d6, d7] }
  | _ => none }
def lostObjectsRow : OpenClaim := { program := "ytmnnipoiigfapaagreatdoor", sum := "155b857ce5552a015c87ceb9a323334cd721338306baf8b7758948fab355b1ed", func := "allonge/allongelaw49.LostObjects", spec := "lostObjects", unfollowed := true, recurses := true, named := ["allonge/order.numbers"], loops := true, apart := false, laid := [("allonge/order.numbers", laid_allonge_order_numbers)] }
def LostObjectsSaid : Prop := lostObjectsRow.holds Tryz.pinned (OpenSpec.ofChange lostObjectsSpec)

/-- ITS FALSE NEIGHBOUR: 'it returns false'. Refute it at one input. -/
def lostObjectsWrong : ChangeSpec := { name := "lostObjects", fn := fun _ => fun
  | [d1, d2, d3, d4, d5, d6, d7] => { results := [.lit (.bool false)], args := [d1, d2, d3, d4, d5, d6, d7] }
  | _ => none }
def LostObjectsWrongFalsely : Prop := lostObjectsRow.holds Tryz.pinned (OpenSpec.ofChange lostObjectsWrong)

/-- 'allongelaw49.LostBinds': WHATEVER THE INPUT: true; the input reads as it did. -/
def lostBindsSpec : ChangeSpec := { name := "lostBinds", fn := fun _ => fun
  | [d1, d2, d3, d4, d5, d6] => { results := [.lit (.bool true)], args := [d1, d2, d3, d4, d5, d6] }
  | _ => none }
def lostBindsRow : OpenClaim := { program := "ytmnnipoiigfapaagreatdoor", sum := "155b857ce5552a015c87ceb9a323334cd721338306baf8b7758948fab355b1ed", func := "allonge/allongelaw49.LostBinds", spec := "lostBinds", unfollowed := true, recurses := true, named := ["allonge/order.numbers"], loops := true, apart := false, laid := [("allonge/order.numbers", laid_allonge_order_numbers)] }
def LostBindsSaid : Prop := lostBindsRow.holds Tryz.pinned (OpenSpec.ofChange lostBindsSpec)

/-- ITS FALSE NEIGHBOUR: 'it returns false'. Refute it at one input. -/
def lostBindsWrong : ChangeSpec := { name := "lostBinds", fn := fun _ => fun
  | [d1, d2, d3, d4, d5, d6] => { results := [.lit (.bool false)], args := [d1, d2, d3, d4, d5, d6] }
  | _ => none }
def LostBindsWrongFalsely : Prop := lostBindsRow.holds Tryz.pinned (OpenSpec.ofChange lostBindsWrong)

/- THE SECOND FORM. 'bulk': how many values and letters a reading holds, each counted each time it is reached (what is shared counts as often as it is met; a slice's spare places count too). A statement '..UptoSaid' is the law's where the arguments, and the package variables that the reading takes, are together of bulk at most 1048576: NARROWER than '..Said'. Prove '..Said' where nothing that the law and all that it calls make is longer than what came in: it says more and counts as full. Else prove '..UptoSaid'. A law counts once. -/
mutual
def uptoBulk {H : Type} : DataW H → Nat
  | .lit (.string bytes) => bytes.length + 1
  | .lit _ => 1
  | .nil => 1
  | .ptr d => uptoBulk d + 1
  | .slice elems spare => uptoBulkAll elems + uptoBulkAll spare + 1
  | .agg parts => uptoBulkAll parts + 1
  | .iface _ d => uptoBulk d + 1
  | .map entries => uptoBulkEntries entries + 1
  | .held _ => 1
def uptoBulkAll {H : Type} : List (DataW H) → Nat
  | [] => 0
  | d :: r => uptoBulk d + uptoBulkAll r
def uptoBulkEntries {H : Type} : List (Lit × DataW H) → Nat
  | [] => 0
  | x :: r => uptoBulkEntry x + uptoBulkEntries r
def uptoBulkEntry {H : Type} : Lit × DataW H → Nat
  | (.string bytes, d) => bytes.length + uptoBulk d + 1
  | (_, d) => uptoBulk d + 1
 end
def uptoSmall : (H : Type) → List (DataW H) → Bool := fun _ ds => decide (uptoBulkAll ds ≤ 1048576)
def OpenSpec.upto (s : _root_.Go.ChangeSpec) : _root_.Go.OpenSpec := { _root_.Go.OpenSpec.ofChange s with cond := some uptoSmall }

/-- 'allongelaw49.LostHolder', WHERE WHAT IT READS IS OF BULK AT MOST 1048576: true; the input reads as it did. -/
def lostHolderUptoRow : OpenClaim := { program := "ytmnnipoiigfapaagreatdoor", sum := "155b857ce5552a015c87ceb9a323334cd721338306baf8b7758948fab355b1ed", func := "allonge/allongelaw49.LostHolder", spec := "lostHolder", unfollowed := true, recurses := true, named := ["allonge/order.numbers"], loops := true, apart := false, laid := [("allonge/order.numbers", laid_allonge_order_numbers)], narrowed := true }
def LostHolderUptoSaid : Prop := lostHolderUptoRow.holds Tryz.pinned (OpenSpec.upto lostHolderSpec)

/-- 'allongelaw49.LostDays', WHERE WHAT IT READS IS OF BULK AT MOST 1048576: true; the input reads as it did. -/
def lostDaysUptoRow : OpenClaim := { program := "ytmnnipoiigfapaagreatdoor", sum := "155b857ce5552a015c87ceb9a323334cd721338306baf8b7758948fab355b1ed", func := "allonge/allongelaw49.LostDays", spec := "lostDays", unfollowed := true, recurses := true, named := ["allonge/order.numbers"], loops := true, apart := false, laid := [("allonge/order.numbers", laid_allonge_order_numbers)], narrowed := true }
def LostDaysUptoSaid : Prop := lostDaysUptoRow.holds Tryz.pinned (OpenSpec.upto lostDaysSpec)

/-- 'allongelaw49.LostObjects', WHERE WHAT IT READS IS OF BULK AT MOST 1048576: true; the input reads as it did. -/
def lostObjectsUptoRow : OpenClaim := { program := "ytmnnipoiigfapaagreatdoor", sum := "155b857ce5552a015c87ceb9a323334cd721338306baf8b7758948fab355b1ed", func := "allonge/allongelaw49.LostObjects", spec := "lostObjects", unfollowed := true, recurses := true, named := ["allonge/order.numbers"], loops := true, apart := false, laid := [("allonge/order.numbers", laid_allonge_order_numbers)], narrowed := true }
def LostObjectsUptoSaid : Prop := lostObjectsUptoRow.holds Tryz.pinned (OpenSpec.upto lostObjectsSpec)

/-- 'allongelaw49.LostBinds', WHERE WHAT IT READS IS OF BULK AT MOST 1048576: true; the input reads as it did. -/
def lostBindsUptoRow : OpenClaim := { program := "ytmnnipoiigfapaagreatdoor", sum := "155b857ce5552a015c87ceb9a323334cd721338306baf8b7758948fab355b1ed", func := "allonge/allongelaw49.LostBinds", spec := "lostBinds", unfollowed := true, recurses := true, named := ["allonge/order.numbers"], loops := true, apart := false, laid := [("allonge/order.numbers", laid_allonge_order_numbers)], narrowed := true }
def LostBindsUptoSaid : Prop := lostBindsUptoRow.holds Tryz.pinned (OpenSpec.upto lostBindsSpec)

end Rows
end Go.Proofs.YtmnnipoiigfapaaGreatDoor
