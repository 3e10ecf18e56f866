/-
  NARROWER THAN 'FOR EVERY INPUT', by the rows' own cells (each row's printed sentence says how): BindTells: loops, laid · LostDays: loops, laid · LostObjects: loops, laid · AskJoins: loops, laid · DiligenceLater: loops, laid · DiligenceCare: loops, laid · AskKnows: loops, laid · AskMaturity: loops, laid · ExposureKnows: loops, laid · ExposureOf: loops, laid.
  DERIVED. THE GIVEN ROWS OF THIS SEAT. 10 by the template 'for every input the law returns true; each argument reads behind the call as it read before'; 0 by the template 'total and deterministic' (their statements: YtodhjdbleiakeaaGreatDoorTotals.lean).
  GIVEN WITH THE SEED: the statements are not yours to turn. If you find one false, say at which input.
  Laid BY PROGRAM, IN A SANDBOX (cutbox-rows.mjs): the forced cells as the released guide's own fill.sh prints them over the translation d508df91b160561c… (all of the seat's roots in one cut). By AI agents, Wed Nov 11 2026. No macro, syntax, notation, axiom, sorry.
-/
import Derived.Test.YtodhjdbleiakeaaGreatDoorChecked
import GoSem.Claim
import GoSem.ClaimJoined
import GoSem.ClaimMapViews
import Derived.JoinedTies
import Derived.KernelRfl
namespace Go.Proofs.YtodhjdbleiakeaaGreatDoor
/- THE CELL 'sum', in the pinned program and in every row, IS THE sha256 OF THE DUMP (.gsa) THAT YtodhjdbleiakeaaGreatDoorProg.lean LOADS. Nothing in Lean hashes anything: it is a label: what it is worth is what the hold of that sum in a sandbox is worth. -/
noncomputable def Tryz.pinned : Pinned := { name := "ytodhjdbleiakeaagreatdoor", sum := "d508df91b160561ce8e063d193bc792cc55e505b1bb4f0641216394668993d8f", checked := Tryz.checked }
namespace Rows
def none {H : Type} : Left H := { results := [], args := [] }

/- WHAT THE LISTED PACKAGE-LEVEL VARIABLES READ AS WHEN THE CALL BEGINS. Each datum BY PROGRAM (the guide's laid-datum.mjs) off the statement by which the dump's own 'gosem.cut.vars' lays the variable. In a bare row this is a premise. The card (YtodhjdbleiakeaaGreatDoorCards.lean) ties it to the program's text. -/
def laid_allonge_order_numbers {H : Type} : DataW H := .agg [.lit (.int .i64 6), .lit (.int .i64 7), .lit (.int .i64 10), .lit (.int .i64 12), .lit (.int .i64 13), .lit (.int .i64 14), .lit (.int .i64 15), .lit (.int .i64 16), .lit (.int .i64 20), .lit (.int .i64 21)]

/-- 'allongelaw23.BindTells': WHATEVER THE INPUT: true; the input reads as it did. -/
def bindTellsSpec : ChangeSpec := { name := "bindTells", fn := fun _ => fun
  | [d1, d2, d3, d4, d5, d6, d7] => { results := [.lit (.bool true)], args := [d1, d2, d3, d4, d5, d6, d7] }
  | _ => none }
def bindTellsRow : OpenClaim := { program := "ytodhjdbleiakeaagreatdoor", sum := "d508df91b160561ce8e063d193bc792cc55e505b1bb4f0641216394668993d8f", func := "allonge/allongelaw23.BindTells", spec := "bindTells", unfollowed := true, recurses := true, named := ["allonge/order.numbers"], loops := true, apart := false, laid := [("allonge/order.numbers", laid_allonge_order_numbers)] }
def BindTellsSaid : Prop := bindTellsRow.holds Tryz.pinned (OpenSpec.ofChange bindTellsSpec)

/-- ITS FALSE NEIGHBOUR: 'it returns false'. Refute it at one input. -/
def bindTellsWrong : ChangeSpec := { name := "bindTells", fn := fun _ => fun
  | [d1, d2, d3, d4, d5, d6, d7] => { results := [.lit (.bool false)], args := [d1, d2, d3, d4, d5, d6, d7] }
  | _ => none }
def BindTellsWrongFalsely : Prop := bindTellsRow.holds Tryz.pinned (OpenSpec.ofChange bindTellsWrong)

/-- 'allongelaw49.LostDays': WHATEVER THE INPUT: true; the input reads as it did. -/
def lostDaysSpec : ChangeSpec := { name := "lostDays", fn := fun _ => fun
  | [d1, d2, d3, d4, d5, d6] => { results := [.lit (.bool true)], args := [d1, d2, d3, d4, d5, d6] }
  | _ => none }
def lostDaysRow : OpenClaim := { program := "ytodhjdbleiakeaagreatdoor", sum := "d508df91b160561ce8e063d193bc792cc55e505b1bb4f0641216394668993d8f", func := "allonge/allongelaw49.LostDays", spec := "lostDays", unfollowed := true, recurses := true, named := ["allonge/order.numbers"], loops := true, apart := false, laid := [("allonge/order.numbers", laid_allonge_order_numbers)] }
def LostDaysSaid : Prop := lostDaysRow.holds Tryz.pinned (OpenSpec.ofChange lostDaysSpec)

/-- ITS FALSE NEIGHBOUR: 'it returns false'. Refute it at one input. -/
def lostDaysWrong : ChangeSpec := { name := "lostDays", fn := fun _ => fun
  | [d1, d2, d3, d4, d5, d6] => { results := [.lit (.bool false)], args := [d1, d2, d3, d4, d5, d6] }
  | _ => none }
def LostDaysWrongFalsely : Prop := lostDaysRow.holds Tryz.pinned (OpenSpec.ofChange lostDaysWrong)

/-- 'allongelaw49.LostObjects': WHATEVER THE INPUT: true; the input reads as it did. -/
def lostObjectsSpec : ChangeSpec := { name := "lostObjects", fn := fun _ => fun
  | [d1, d2, d3, d4, d5, d6, d7] => { results := [.lit (.bool true)], args := [d1, d2, d3, d4, d5, d6, d7] }
  | _ => none }
def lostObjectsRow : OpenClaim := { program := "ytodhjdbleiakeaagreatdoor", sum := "d508df91b160561ce8e063d193bc792cc55e505b1bb4f0641216394668993d8f", func := "allonge/allongelaw49.LostObjects", spec := "lostObjects", unfollowed := true, recurses := true, named := ["allonge/order.numbers"], loops := true, apart := false, laid := [("allonge/order.numbers", laid_allonge_order_numbers)] }
def LostObjectsSaid : Prop := lostObjectsRow.holds Tryz.pinned (OpenSpec.ofChange lostObjectsSpec)

/-- ITS FALSE NEIGHBOUR: 'it returns false'. Refute it at one input. -/
def lostObjectsWrong : ChangeSpec := { name := "lostObjects", fn := fun _ => fun
  | [d1, d2, d3, d4, d5, d6, d7] => { results := [.lit (.bool false)], args := [d1, d2, d3, d4, d5, d6, d7] }
  | _ => none }
def LostObjectsWrongFalsely : Prop := lostObjectsRow.holds Tryz.pinned (OpenSpec.ofChange lostObjectsWrong)

/-- 'allongelaw21.AskJoins': WHATEVER THE INPUT: true; the input reads as it did. -/
def askJoinsSpec : ChangeSpec := { name := "askJoins", fn := fun _ => fun
  | [d1, d2, d3, d4] => { results := [.lit (.bool true)], args := [d1, d2, d3, d4] }
  | _ => none }
def askJoinsRow : OpenClaim := { program := "ytodhjdbleiakeaagreatdoor", sum := "d508df91b160561ce8e063d193bc792cc55e505b1bb4f0641216394668993d8f", func := "allonge/allongelaw21.AskJoins", spec := "askJoins", unfollowed := true, recurses := true, named := ["allonge/order.numbers"], loops := true, apart := false, laid := [("allonge/order.numbers", laid_allonge_order_numbers)] }
def AskJoinsSaid : Prop := askJoinsRow.holds Tryz.pinned (OpenSpec.ofChange askJoinsSpec)

/-- ITS FALSE NEIGHBOUR: 'it returns false'. Refute it at one input. -/
def askJoinsWrong : ChangeSpec := { name := "askJoins", fn := fun _ => fun
  | [d1, d2, d3, d4] => { results := [.lit (.bool false)], args := [d1, d2, d3, d4] }
  | _ => none }
def AskJoinsWrongFalsely : Prop := askJoinsRow.holds Tryz.pinned (OpenSpec.ofChange askJoinsWrong)

/-- 'allongelaw24.DiligenceLater': WHATEVER THE INPUT: true; the input reads as it did. -/
def diligenceLaterSpec : ChangeSpec := { name := "diligenceLater", fn := fun _ => fun
  | [d1, d2, d3, d4, d5, d6] => { results := [.lit (.bool true)], args := [d1, d2, d3, d4, d5, d6] }
  | _ => none }
def diligenceLaterRow : OpenClaim := { program := "ytodhjdbleiakeaagreatdoor", sum := "d508df91b160561ce8e063d193bc792cc55e505b1bb4f0641216394668993d8f", func := "allonge/allongelaw24.DiligenceLater", spec := "diligenceLater", unfollowed := true, recurses := true, named := ["allonge/order.numbers"], loops := true, apart := false, laid := [("allonge/order.numbers", laid_allonge_order_numbers)] }
def DiligenceLaterSaid : Prop := diligenceLaterRow.holds Tryz.pinned (OpenSpec.ofChange diligenceLaterSpec)

/-- ITS FALSE NEIGHBOUR: 'it returns false'. Refute it at one input. -/
def diligenceLaterWrong : ChangeSpec := { name := "diligenceLater", fn := fun _ => fun
  | [d1, d2, d3, d4, d5, d6] => { results := [.lit (.bool false)], args := [d1, d2, d3, d4, d5, d6] }
  | _ => none }
def DiligenceLaterWrongFalsely : Prop := diligenceLaterRow.holds Tryz.pinned (OpenSpec.ofChange diligenceLaterWrong)

/-- 'allongelaw24.DiligenceCare': WHATEVER THE INPUT: true; the input reads as it did. -/
def diligenceCareSpec : ChangeSpec := { name := "diligenceCare", fn := fun _ => fun
  | [d1, d2, d3, d4, d5, d6] => { results := [.lit (.bool true)], args := [d1, d2, d3, d4, d5, d6] }
  | _ => none }
def diligenceCareRow : OpenClaim := { program := "ytodhjdbleiakeaagreatdoor", sum := "d508df91b160561ce8e063d193bc792cc55e505b1bb4f0641216394668993d8f", func := "allonge/allongelaw24.DiligenceCare", spec := "diligenceCare", unfollowed := true, recurses := true, named := ["allonge/order.numbers"], loops := true, apart := false, laid := [("allonge/order.numbers", laid_allonge_order_numbers)] }
def DiligenceCareSaid : Prop := diligenceCareRow.holds Tryz.pinned (OpenSpec.ofChange diligenceCareSpec)

/-- ITS FALSE NEIGHBOUR: 'it returns false'. Refute it at one input. -/
def diligenceCareWrong : ChangeSpec := { name := "diligenceCare", fn := fun _ => fun
  | [d1, d2, d3, d4, d5, d6] => { results := [.lit (.bool false)], args := [d1, d2, d3, d4, d5, d6] }
  | _ => none }
def DiligenceCareWrongFalsely : Prop := diligenceCareRow.holds Tryz.pinned (OpenSpec.ofChange diligenceCareWrong)

/-- 'allongelaw21.AskKnows': WHATEVER THE INPUT: true; the input reads as it did. -/
def askKnowsSpec : ChangeSpec := { name := "askKnows", fn := fun _ => fun
  | [d1, d2, d3, d4, d5] => { results := [.lit (.bool true)], args := [d1, d2, d3, d4, d5] }
  | _ => none }
def askKnowsRow : OpenClaim := { program := "ytodhjdbleiakeaagreatdoor", sum := "d508df91b160561ce8e063d193bc792cc55e505b1bb4f0641216394668993d8f", func := "allonge/allongelaw21.AskKnows", spec := "askKnows", unfollowed := true, recurses := true, named := ["allonge/order.numbers"], loops := true, apart := false, laid := [("allonge/order.numbers", laid_allonge_order_numbers)] }
def AskKnowsSaid : Prop := askKnowsRow.holds Tryz.pinned (OpenSpec.ofChange askKnowsSpec)

/-- ITS FALSE NEIGHBOUR: 'it returns false'. Refute it at one input. -/
def askKnowsWrong : ChangeSpec := { name := "askKnows", fn := fun _ => fun
  | [d1, d2, d3, d4, d5] => { results := [.lit (.bool false)], args := [d1, d2, d3, d4, d5] }
  | _ => none }
def AskKnowsWrongFalsely : Prop := askKnowsRow.holds Tryz.pinned (OpenSpec.ofChange askKnowsWrong)

/-- 'allongelaw21.AskMaturity': WHATEVER THE INPUT: true; the input reads as it did. -/
def askMaturitySpec : ChangeSpec := { name := "askMaturity", fn := fun _ => fun
  | [d1, d2, d3, d4, d5, d6] => { results := [.lit (.bool true)], args := [d1, d2, d3, d4, d5, d6] }
  | _ => none }
def askMaturityRow : OpenClaim := { program := "ytodhjdbleiakeaagreatdoor", sum := "d508df91b160561ce8e063d193bc792cc55e505b1bb4f0641216394668993d8f", func := "allonge/allongelaw21.AskMaturity", spec := "askMaturity", unfollowed := true, recurses := true, named := ["allonge/order.numbers"], loops := true, apart := false, laid := [("allonge/order.numbers", laid_allonge_order_numbers)] }
def AskMaturitySaid : Prop := askMaturityRow.holds Tryz.pinned (OpenSpec.ofChange askMaturitySpec)

/-- ITS FALSE NEIGHBOUR: 'it returns false'. Refute it at one input. -/
def askMaturityWrong : ChangeSpec := { name := "askMaturity", fn := fun _ => fun
  | [d1, d2, d3, d4, d5, d6] => { results := [.lit (.bool false)], args := [d1, d2, d3, d4, d5, d6] }
  | _ => none }
def AskMaturityWrongFalsely : Prop := askMaturityRow.holds Tryz.pinned (OpenSpec.ofChange askMaturityWrong)

/-- 'allongelaw39.ExposureKnows': WHATEVER THE INPUT: true; the input reads as it did. -/
def exposureKnowsSpec : ChangeSpec := { name := "exposureKnows", fn := fun _ => fun
  | [d1, d2, d3, d4, d5, d6] => { results := [.lit (.bool true)], args := [d1, d2, d3, d4, d5, d6] }
  | _ => none }
def exposureKnowsRow : OpenClaim := { program := "ytodhjdbleiakeaagreatdoor", sum := "d508df91b160561ce8e063d193bc792cc55e505b1bb4f0641216394668993d8f", func := "allonge/allongelaw39.ExposureKnows", spec := "exposureKnows", unfollowed := true, recurses := true, named := ["allonge/order.numbers"], loops := true, apart := false, laid := [("allonge/order.numbers", laid_allonge_order_numbers)] }
def ExposureKnowsSaid : Prop := exposureKnowsRow.holds Tryz.pinned (OpenSpec.ofChange exposureKnowsSpec)

/-- ITS FALSE NEIGHBOUR: 'it returns false'. Refute it at one input. -/
def exposureKnowsWrong : ChangeSpec := { name := "exposureKnows", fn := fun _ => fun
  | [d1, d2, d3, d4, d5, d6] => { results := [.lit (.bool false)], args := [d1, d2, d3, d4, d5, d6] }
  | _ => none }
def ExposureKnowsWrongFalsely : Prop := exposureKnowsRow.holds Tryz.pinned (OpenSpec.ofChange exposureKnowsWrong)

/-- 'allongelaw39.ExposureOf': WHATEVER THE INPUT: true; the input reads as it did. -/
def exposureOfSpec : ChangeSpec := { name := "exposureOf", fn := fun _ => fun
  | [d1, d2, d3, d4] => { results := [.lit (.bool true)], args := [d1, d2, d3, d4] }
  | _ => none }
def exposureOfRow : OpenClaim := { program := "ytodhjdbleiakeaagreatdoor", sum := "d508df91b160561ce8e063d193bc792cc55e505b1bb4f0641216394668993d8f", func := "allonge/allongelaw39.ExposureOf", spec := "exposureOf", unfollowed := true, recurses := true, named := ["allonge/order.numbers"], loops := true, apart := false, laid := [("allonge/order.numbers", laid_allonge_order_numbers)] }
def ExposureOfSaid : Prop := exposureOfRow.holds Tryz.pinned (OpenSpec.ofChange exposureOfSpec)

/-- ITS FALSE NEIGHBOUR: 'it returns false'. Refute it at one input. -/
def exposureOfWrong : ChangeSpec := { name := "exposureOf", fn := fun _ => fun
  | [d1, d2, d3, d4] => { results := [.lit (.bool false)], args := [d1, d2, d3, d4] }
  | _ => none }
def ExposureOfWrongFalsely : Prop := exposureOfRow.holds Tryz.pinned (OpenSpec.ofChange exposureOfWrong)

/- THE SECOND FORM. 'bulk': how many values and letters a reading holds, each counted each time it is reached (what is shared counts as often as it is met; a slice's spare places count too). A statement '..UptoSaid' is the law's where the arguments, and the package variables that the reading takes, are together of bulk at most 1048576: NARROWER than '..Said'. Prove '..Said' where nothing that the law and all that it calls make is longer than what came in: it says more and counts as full. Else prove '..UptoSaid'. A law counts once. -/
mutual
def uptoBulk {H : Type} : DataW H → Nat
  | .lit (.string bytes) => bytes.length + 1
  | .lit _ => 1
  | .nil => 1
  | .ptr d => uptoBulk d + 1
  | .slice elems spare => uptoBulkAll elems + uptoBulkAll spare + 1
  | .agg parts => uptoBulkAll parts + 1
  | .iface _ d => uptoBulk d + 1
  | .map entries => uptoBulkEntries entries + 1
  | .held _ => 1
def uptoBulkAll {H : Type} : List (DataW H) → Nat
  | [] => 0
  | d :: r => uptoBulk d + uptoBulkAll r
def uptoBulkEntries {H : Type} : List (Lit × DataW H) → Nat
  | [] => 0
  | x :: r => uptoBulkEntry x + uptoBulkEntries r
def uptoBulkEntry {H : Type} : Lit × DataW H → Nat
  | (.string bytes, d) => bytes.length + uptoBulk d + 1
  | (_, d) => uptoBulk d + 1
 end
def uptoSmall : (H : Type) → List (DataW H) → Bool := fun _ ds => decide (uptoBulkAll ds ≤ 1048576)
def OpenSpec.upto (s : _root_.Go.ChangeSpec) : _root_.Go.OpenSpec := { _root_.Go.OpenSpec.ofChange s with cond := some uptoSmall }

/-- 'allongelaw23.BindTells', WHERE WHAT IT READS IS OF BULK AT MOST 1048576: true; the input reads as it did. -/
def bindTellsUptoRow : OpenClaim := { program := "ytodhjdbleiakeaagreatdoor", sum := "d508df91b160561ce8e063d193bc792cc55e505b1bb4f0641216394668993d8f", func := "allonge/allongelaw23.BindTells", spec := "bindTells", unfollowed := true, recurses := true, named := ["allonge/order.numbers"], loops := true, apart := false, laid := [("allonge/order.numbers", laid_allonge_order_numbers)], narrowed := true }
def BindTellsUptoSaid : Prop := bindTellsUptoRow.holds Tryz.pinned (OpenSpec.upto bindTellsSpec)

/-- 'allongelaw49.LostDays', WHERE WHAT IT READS IS OF BULK AT MOST 1048576: true; the input reads as it did. -/
def lostDaysUptoRow : OpenClaim := { program := "ytodhjdbleiakeaagreatdoor", sum := "d508df91b160561ce8e063d193bc792cc55e505b1bb4f0641216394668993d8f", func := "allonge/allongelaw49.LostDays", spec := "lostDays", unfollowed := true, recurses := true, named := ["allonge/order.numbers"], loops := true, apart := false, laid := [("allonge/order.numbers", laid_allonge_order_numbers)], narrowed := true }
def LostDaysUptoSaid : Prop := lostDaysUptoRow.holds Tryz.pinned (OpenSpec.upto lostDaysSpec)

/-- 'allongelaw49.LostObjects', WHERE WHAT IT READS IS OF BULK AT MOST 1048576: true; the input reads as it did. -/
def lostObjectsUptoRow : OpenClaim := { program := "ytodhjdbleiakeaagreatdoor", sum := "d508df91b160561ce8e063d193bc792cc55e505b1bb4f0641216394668993d8f", func := "allonge/allongelaw49.LostObjects", spec := "lostObjects", unfollowed := true, recurses := true, named := ["allonge/order.numbers"], loops := true, apart := false, laid := [("allonge/order.numbers", laid_allonge_order_numbers)], narrowed := true }
def LostObjectsUptoSaid : Prop := lostObjectsUptoRow.holds Tryz.pinned (OpenSpec.upto lostObjectsSpec)

/-- 'allongelaw21.AskJoins', WHERE WHAT IT READS IS OF BULK AT MOST 1048576: true; the input reads as it did. -/
def askJoinsUptoRow : OpenClaim := { program := "ytodhjdbleiakeaagreatdoor", sum := "d508df91b160561ce8e063d193bc792cc55e505b1bb4f0641216394668993d8f", func := "allonge/allongelaw21.AskJoins", spec := "askJoins", unfollowed := true, recurses := true, named := ["allonge/order.numbers"], loops := true, apart := false, laid := [("allonge/order.numbers", laid_allonge_order_numbers)], narrowed := true }
def AskJoinsUptoSaid : Prop := askJoinsUptoRow.holds Tryz.pinned (OpenSpec.upto askJoinsSpec)

/-- 'allongelaw24.DiligenceLater', WHERE WHAT IT READS IS OF BULK AT MOST 1048576: true; the input reads as it did. -/
def diligenceLaterUptoRow : OpenClaim := { program := "ytodhjdbleiakeaagreatdoor", sum := "d508df91b160561ce8e063d193bc792cc55e505b1bb4f0641216394668993d8f", func := "allonge/allongelaw24.DiligenceLater", spec := "diligenceLater", unfollowed := true, recurses := true, named := ["allonge/order.numbers"], loops := true, apart := false, laid := [("allonge/order.numbers", laid_allonge_order_numbers)], narrowed := true }
def DiligenceLaterUptoSaid : Prop := diligenceLaterUptoRow.holds Tryz.pinned (OpenSpec.upto diligenceLaterSpec)

/-- 'allongelaw24.DiligenceCare', WHERE WHAT IT READS IS OF BULK AT MOST 1048576: true; the input reads as it did. -/
def diligenceCareUptoRow : OpenClaim := { program := "ytodhjdbleiakeaagreatdoor", sum := "d508df91b160561ce8e063d193bc792cc55e505b1bb4f0641216394668993d8f", func := "allonge/allongelaw24.DiligenceCare", spec := "diligenceCare", unfollowed := true, recurses := true, named := ["allonge/order.numbers"], loops := true, apart := false, laid := [("allonge/order.numbers", laid_allonge_order_numbers)], narrowed := true }
def DiligenceCareUptoSaid : Prop := diligenceCareUptoRow.holds Tryz.pinned (OpenSpec.upto diligenceCareSpec)

/-- 'allongelaw21.AskKnows', WHERE WHAT IT READS IS OF BULK AT MOST 1048576: true; the input reads as it did. -/
def askKnowsUptoRow : OpenClaim := { program := "ytodhjdbleiakeaagreatdoor", sum := "d508df91b160561ce8e063d193bc792cc55e505b1bb4f0641216394668993d8f", func := "allonge/allongelaw21.AskKnows", spec := "askKnows", unfollowed := true, recurses := true, named := ["allonge/order.numbers"], loops := true, apart := false, laid := [("allonge/order.numbers", laid_allonge_order_numbers)], narrowed := true }
def AskKnowsUptoSaid : Prop := askKnowsUptoRow.holds Tryz.pinned (OpenSpec.upto askKnowsSpec)

/-- 'allongelaw21.AskMaturity', WHERE WHAT IT READS IS OF BULK AT MOST 1048576: true; the input reads as it did. -/
def askMaturityUptoRow : OpenClaim := { program := "ytodhjdbleiakeaagreatdoor", sum := "d508df91b160561ce8e063d193bc792cc55e505b1bb4f0641216394668993d8f", func := "allonge/allongelaw21.AskMaturity", spec := "askMaturity", unfollowed := true, recurses := true, named := ["allonge/order.numbers"], loops := true, apart := false, laid := [("allonge/order.numbers", laid_allonge_order_numbers)], narrowed := true }
def AskMaturityUptoSaid : Prop := askMaturityUptoRow.holds Tryz.pinned (OpenSpec.upto askMaturitySpec)

/-- 'allongelaw39.ExposureKnows', WHERE WHAT IT READS IS OF BULK AT MOST 1048576: true; the input reads as it did. -/
def exposureKnowsUptoRow : OpenClaim := { program := "ytodhjdbleiakeaagreatdoor", sum := "d508df91b160561ce8e063d193bc792cc55e505b1bb4f0641216394668993d8f", func := "allonge/allongelaw39.ExposureKnows", spec := "exposureKnows", unfollowed := true, recurses := true, named := ["allonge/order.numbers"], loops := true, apart := false, laid := [("allonge/order.numbers", laid_allonge_order_numbers)], narrowed := true }
def ExposureKnowsUptoSaid : Prop := exposureKnowsUptoRow.holds Tryz.pinned (OpenSpec.upto exposureKnowsSpec)

/-- 'allongelaw39.ExposureOf', WHERE WHAT IT READS IS OF BULK AT MOST 1048576: true; the input reads as it did. -/
def exposureOfUptoRow : OpenClaim := { program := "ytodhjdbleiakeaagreatdoor", sum := "d508df91b160561ce8e063d193bc792cc55e505b1bb4f0641216394668993d8f", func := "allonge/allongelaw39.ExposureOf", spec := "exposureOf", unfollowed := true, recurses := true, named := ["allonge/order.numbers"], loops := true, apart := false, laid := [("allonge/order.numbers", laid_allonge_order_numbers)], narrowed := true }
def ExposureOfUptoSaid : Prop := exposureOfUptoRow.holds Tryz.pinned (OpenSpec.upto exposureOfSpec)

end Rows
end Go.Proofs.YtodhjdbleiakeaaGreatDoor
