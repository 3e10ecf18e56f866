/-
  NARROWER THAN 'FOR EVERY INPUT', by the rows' own cells (each row's printed sentence says how): ClashTells: loops, laid · ClashTurns: loops, laid · ClashSame: loops, laid · ClashKnows: loops, laid · ClashOpens: loops, laid.
  DERIVED. THE GIVEN ROWS OF THIS SEAT. 5 by the template 'for every input the law returns true; each argument reads behind the call as it read before'; 0 by the template 'total and deterministic' (their statements: YtefchokhgdmamaaGreatDoorTotals.lean).
  GIVEN WITH THE SEED: the statements are not yours to turn. If you find one false, say at which input.
  Laid BY PROGRAM, IN A SANDBOX (cutbox-rows.mjs): the forced cells as the released guide's own fill.sh prints them over the translation 799b5aeba5060ae6… (all of the seat's roots in one cut). By AI agents, Wed Nov 11 2026. No macro, syntax, notation, axiom, sorry.
-/
import Derived.Test.YtefchokhgdmamaaGreatDoorChecked
import GoSem.Claim
import GoSem.ClaimJoined
import GoSem.ClaimMapViews
import Derived.JoinedTies
import Derived.KernelRfl
namespace Go.Proofs.YtefchokhgdmamaaGreatDoor
/- THE CELL 'sum', in the pinned program and in every row, IS THE sha256 OF THE DUMP (.gsa) THAT YtefchokhgdmamaaGreatDoorProg.lean LOADS. Nothing in Lean hashes anything: it is a label: what it is worth is what the hold of that sum in a sandbox is worth. -/
noncomputable def Tryz.pinned : Pinned := { name := "ytefchokhgdmamaagreatdoor", sum := "799b5aeba5060ae6aca36a4a409fb8b2c5b7601c9031fdfdda65fec15b502e78", checked := Tryz.checked }
namespace Rows
def none {H : Type} : Left H := { results := [], args := [] }

/- WHAT THE LISTED PACKAGE-LEVEL VARIABLES READ AS WHEN THE CALL BEGINS. Each datum BY PROGRAM (the guide's laid-datum.mjs) off the statement by which the dump's own 'gosem.cut.vars' lays the variable. In a bare row this is a premise. The card (YtefchokhgdmamaaGreatDoorCards.lean) ties it to the program's text. -/
def laid_allonge_order_numbers {H : Type} : DataW H := .agg [.lit (.int .i64 6), .lit (.int .i64 7), .lit (.int .i64 10), .lit (.int .i64 12), .lit (.int .i64 13), .lit (.int .i64 14), .lit (.int .i64 15), .lit (.int .i64 16), .lit (.int .i64 20), .lit (.int .i64 21)]

/-- 'allongelaw22.ClashTells': WHATEVER THE INPUT: true; the input reads as it did. -/
def clashTellsSpec : ChangeSpec := { name := "clashTells", fn := fun _ => fun
  | [d1, d2, d3, d4, d5, d6, d7, d8] => { results := [.lit (.bool true)], args := [d1, d2, d3, d4, d5, d6, d7, d8] }
  | _ => none }
def clashTellsRow : OpenClaim := { program := "ytefchokhgdmamaagreatdoor", sum := "799b5aeba5060ae6aca36a4a409fb8b2c5b7601c9031fdfdda65fec15b502e78", func := "allonge/allongelaw22.ClashTells", spec := "clashTells", inPlace := ["slices.overlaps[allonge/api.Fact]"], unfollowed := true, recurses := true, named := ["allonge/order.numbers"], loops := true, apart := false, laid := [("allonge/order.numbers", laid_allonge_order_numbers)] }
def ClashTellsSaid : Prop := clashTellsRow.holds Tryz.pinned (OpenSpec.ofChange clashTellsSpec)

/-- ITS FALSE NEIGHBOUR: 'it returns false'. Refute it at one input. -/
def clashTellsWrong : ChangeSpec := { name := "clashTells", fn := fun _ => fun
  | [d1, d2, d3, d4, d5, d6, d7, d8] => { results := [.lit (.bool false)], args := [d1, d2, d3, d4, d5, d6, d7, d8] }
  | _ => none }
def ClashTellsWrongFalsely : Prop := clashTellsRow.holds Tryz.pinned (OpenSpec.ofChange clashTellsWrong)

/-- 'allongelaw22.ClashTurns': WHATEVER THE INPUT: true; the input reads as it did. -/
def clashTurnsSpec : ChangeSpec := { name := "clashTurns", fn := fun _ => fun
  | [d1, d2, d3, d4, d5, d6] => { results := [.lit (.bool true)], args := [d1, d2, d3, d4, d5, d6] }
  | _ => none }
def clashTurnsRow : OpenClaim := { program := "ytefchokhgdmamaagreatdoor", sum := "799b5aeba5060ae6aca36a4a409fb8b2c5b7601c9031fdfdda65fec15b502e78", func := "allonge/allongelaw22.ClashTurns", spec := "clashTurns", inPlace := ["slices.overlaps[allonge/api.Fact]"], unfollowed := true, recurses := true, named := ["allonge/order.numbers"], loops := true, apart := false, laid := [("allonge/order.numbers", laid_allonge_order_numbers)] }
def ClashTurnsSaid : Prop := clashTurnsRow.holds Tryz.pinned (OpenSpec.ofChange clashTurnsSpec)

/-- ITS FALSE NEIGHBOUR: 'it returns false'. Refute it at one input. -/
def clashTurnsWrong : ChangeSpec := { name := "clashTurns", fn := fun _ => fun
  | [d1, d2, d3, d4, d5, d6] => { results := [.lit (.bool false)], args := [d1, d2, d3, d4, d5, d6] }
  | _ => none }
def ClashTurnsWrongFalsely : Prop := clashTurnsRow.holds Tryz.pinned (OpenSpec.ofChange clashTurnsWrong)

/-- 'allongelaw22.ClashSame': WHATEVER THE INPUT: true; the input reads as it did. -/
def clashSameSpec : ChangeSpec := { name := "clashSame", fn := fun _ => fun
  | [d1, d2, d3, d4, d5] => { results := [.lit (.bool true)], args := [d1, d2, d3, d4, d5] }
  | _ => none }
def clashSameRow : OpenClaim := { program := "ytefchokhgdmamaagreatdoor", sum := "799b5aeba5060ae6aca36a4a409fb8b2c5b7601c9031fdfdda65fec15b502e78", func := "allonge/allongelaw22.ClashSame", spec := "clashSame", inPlace := ["slices.overlaps[allonge/api.Fact]"], unfollowed := true, recurses := true, named := ["allonge/order.numbers"], loops := true, apart := false, laid := [("allonge/order.numbers", laid_allonge_order_numbers)] }
def ClashSameSaid : Prop := clashSameRow.holds Tryz.pinned (OpenSpec.ofChange clashSameSpec)

/-- ITS FALSE NEIGHBOUR: 'it returns false'. Refute it at one input. -/
def clashSameWrong : ChangeSpec := { name := "clashSame", fn := fun _ => fun
  | [d1, d2, d3, d4, d5] => { results := [.lit (.bool false)], args := [d1, d2, d3, d4, d5] }
  | _ => none }
def ClashSameWrongFalsely : Prop := clashSameRow.holds Tryz.pinned (OpenSpec.ofChange clashSameWrong)

/-- 'allongelaw22.ClashKnows': WHATEVER THE INPUT: true; the input reads as it did. -/
def clashKnowsSpec : ChangeSpec := { name := "clashKnows", fn := fun _ => fun
  | [d1, d2, d3, d4, d5, d6] => { results := [.lit (.bool true)], args := [d1, d2, d3, d4, d5, d6] }
  | _ => none }
def clashKnowsRow : OpenClaim := { program := "ytefchokhgdmamaagreatdoor", sum := "799b5aeba5060ae6aca36a4a409fb8b2c5b7601c9031fdfdda65fec15b502e78", func := "allonge/allongelaw22.ClashKnows", spec := "clashKnows", inPlace := ["slices.overlaps[allonge/api.Fact]"], unfollowed := true, recurses := true, named := ["allonge/order.numbers"], loops := true, apart := false, laid := [("allonge/order.numbers", laid_allonge_order_numbers)] }
def ClashKnowsSaid : Prop := clashKnowsRow.holds Tryz.pinned (OpenSpec.ofChange clashKnowsSpec)

/-- ITS FALSE NEIGHBOUR: 'it returns false'. Refute it at one input. -/
def clashKnowsWrong : ChangeSpec := { name := "clashKnows", fn := fun _ => fun
  | [d1, d2, d3, d4, d5, d6] => { results := [.lit (.bool false)], args := [d1, d2, d3, d4, d5, d6] }
  | _ => none }
def ClashKnowsWrongFalsely : Prop := clashKnowsRow.holds Tryz.pinned (OpenSpec.ofChange clashKnowsWrong)

/-- 'allongelaw22.ClashOpens': WHATEVER THE INPUT: true; the input reads as it did. -/
def clashOpensSpec : ChangeSpec := { name := "clashOpens", fn := fun _ => fun
  | [d1, d2, d3, d4, d5] => { results := [.lit (.bool true)], args := [d1, d2, d3, d4, d5] }
  | _ => none }
def clashOpensRow : OpenClaim := { program := "ytefchokhgdmamaagreatdoor", sum := "799b5aeba5060ae6aca36a4a409fb8b2c5b7601c9031fdfdda65fec15b502e78", func := "allonge/allongelaw22.ClashOpens", spec := "clashOpens", inPlace := ["slices.overlaps[allonge/api.Fact]"], unfollowed := true, recurses := true, named := ["allonge/order.numbers"], loops := true, apart := false, laid := [("allonge/order.numbers", laid_allonge_order_numbers)] }
def ClashOpensSaid : Prop := clashOpensRow.holds Tryz.pinned (OpenSpec.ofChange clashOpensSpec)

/-- ITS FALSE NEIGHBOUR: 'it returns false'. Refute it at one input. -/
def clashOpensWrong : ChangeSpec := { name := "clashOpens", fn := fun _ => fun
  | [d1, d2, d3, d4, d5] => { results := [.lit (.bool false)], args := [d1, d2, d3, d4, d5] }
  | _ => none }
def ClashOpensWrongFalsely : Prop := clashOpensRow.holds Tryz.pinned (OpenSpec.ofChange clashOpensWrong)

/- THE SECOND FORM. 'bulk': how many values and letters a reading holds, each counted each time it is reached (what is shared counts as often as it is met; a slice's spare places count too). A statement '..UptoSaid' is the law's where the arguments, and the package variables that the reading takes, are together of bulk at most 1048576: NARROWER than '..Said'. Prove '..Said' where nothing that the law and all that it calls make is longer than what came in: it says more and counts as full. Else prove '..UptoSaid'. A law counts once. -/
mutual
def uptoBulk {H : Type} : DataW H → Nat
  | .lit (.string bytes) => bytes.length + 1
  | .lit _ => 1
  | .nil => 1
  | .ptr d => uptoBulk d + 1
  | .slice elems spare => uptoBulkAll elems + uptoBulkAll spare + 1
  | .agg parts => uptoBulkAll parts + 1
  | .iface _ d => uptoBulk d + 1
  | .map entries => uptoBulkEntries entries + 1
  | .held _ => 1
def uptoBulkAll {H : Type} : List (DataW H) → Nat
  | [] => 0
  | d :: r => uptoBulk d + uptoBulkAll r
def uptoBulkEntries {H : Type} : List (Lit × DataW H) → Nat
  | [] => 0
  | x :: r => uptoBulkEntry x + uptoBulkEntries r
def uptoBulkEntry {H : Type} : Lit × DataW H → Nat
  | (.string bytes, d) => bytes.length + uptoBulk d + 1
  | (_, d) => uptoBulk d + 1
 end
def uptoSmall : (H : Type) → List (DataW H) → Bool := fun _ ds => decide (uptoBulkAll ds ≤ 1048576)
def OpenSpec.upto (s : _root_.Go.ChangeSpec) : _root_.Go.OpenSpec := { _root_.Go.OpenSpec.ofChange s with cond := some uptoSmall }

/-- 'allongelaw22.ClashTells', WHERE WHAT IT READS IS OF BULK AT MOST 1048576: true; the input reads as it did. -/
def clashTellsUptoRow : OpenClaim := { program := "ytefchokhgdmamaagreatdoor", sum := "799b5aeba5060ae6aca36a4a409fb8b2c5b7601c9031fdfdda65fec15b502e78", func := "allonge/allongelaw22.ClashTells", spec := "clashTells", inPlace := ["slices.overlaps[allonge/api.Fact]"], unfollowed := true, recurses := true, named := ["allonge/order.numbers"], loops := true, apart := false, laid := [("allonge/order.numbers", laid_allonge_order_numbers)], narrowed := true }
def ClashTellsUptoSaid : Prop := clashTellsUptoRow.holds Tryz.pinned (OpenSpec.upto clashTellsSpec)

/-- 'allongelaw22.ClashTurns', WHERE WHAT IT READS IS OF BULK AT MOST 1048576: true; the input reads as it did. -/
def clashTurnsUptoRow : OpenClaim := { program := "ytefchokhgdmamaagreatdoor", sum := "799b5aeba5060ae6aca36a4a409fb8b2c5b7601c9031fdfdda65fec15b502e78", func := "allonge/allongelaw22.ClashTurns", spec := "clashTurns", inPlace := ["slices.overlaps[allonge/api.Fact]"], unfollowed := true, recurses := true, named := ["allonge/order.numbers"], loops := true, apart := false, laid := [("allonge/order.numbers", laid_allonge_order_numbers)], narrowed := true }
def ClashTurnsUptoSaid : Prop := clashTurnsUptoRow.holds Tryz.pinned (OpenSpec.upto clashTurnsSpec)

/-- 'allongelaw22.ClashSame', WHERE WHAT IT READS IS OF BULK AT MOST 1048576: true; the input reads as it did. -/
def clashSameUptoRow : OpenClaim := { program := "ytefchokhgdmamaagreatdoor", sum := "799b5aeba5060ae6aca36a4a409fb8b2c5b7601c9031fdfdda65fec15b502e78", func := "allonge/allongelaw22.ClashSame", spec := "clashSame", inPlace := ["slices.overlaps[allonge/api.Fact]"], unfollowed := true, recurses := true, named := ["allonge/order.numbers"], loops := true, apart := false, laid := [("allonge/order.numbers", laid_allonge_order_numbers)], narrowed := true }
def ClashSameUptoSaid : Prop := clashSameUptoRow.holds Tryz.pinned (OpenSpec.upto clashSameSpec)

/-- 'allongelaw22.ClashKnows', WHERE WHAT IT READS IS OF BULK AT MOST 1048576: true; the input reads as it did. -/
def clashKnowsUptoRow : OpenClaim := { program := "ytefchokhgdmamaagreatdoor", sum := "799b5aeba5060ae6aca36a4a409fb8b2c5b7601c9031fdfdda65fec15b502e78", func := "allonge/allongelaw22.ClashKnows", spec := "clashKnows", inPlace := ["slices.overlaps[allonge/api.Fact]"], unfollowed := true, recurses := true, named := ["allonge/order.numbers"], loops := true, apart := false, laid := [("allonge/order.numbers", laid_allonge_order_numbers)], narrowed := true }
def ClashKnowsUptoSaid : Prop := clashKnowsUptoRow.holds Tryz.pinned (OpenSpec.upto clashKnowsSpec)

/-- 'allongelaw22.ClashOpens', WHERE WHAT IT READS IS OF BULK AT MOST 1048576: true; the input reads as it did. -/
def clashOpensUptoRow : OpenClaim := { program := "ytefchokhgdmamaagreatdoor", sum := "799b5aeba5060ae6aca36a4a409fb8b2c5b7601c9031fdfdda65fec15b502e78", func := "allonge/allongelaw22.ClashOpens", spec := "clashOpens", inPlace := ["slices.overlaps[allonge/api.Fact]"], unfollowed := true, recurses := true, named := ["allonge/order.numbers"], loops := true, apart := false, laid := [("allonge/order.numbers", laid_allonge_order_numbers)], narrowed := true }
def ClashOpensUptoSaid : Prop := clashOpensUptoRow.holds Tryz.pinned (OpenSpec.upto clashOpensSpec)

end Rows
end Go.Proofs.YtefchokhgdmamaaGreatDoor
