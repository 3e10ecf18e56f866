/-
  NARROWER THAN 'FOR EVERY INPUT', by the rows' own cells (each row's printed sentence says how): AskTells: loops, laid · AskDays: loops, laid · AskNeeds: loops, laid.
  DERIVED. THE GIVEN ROWS OF THIS SEAT. 3 by the template 'for every input the law returns true; each argument reads behind the call as it read before'; 0 by the template 'total and deterministic' (their statements: YtipjidjopglknaaGreatDoorTotals.lean).
  GIVEN WITH THE SEED: the statements are not yours to turn. If you find one false, say at which input.
  Laid BY PROGRAM, IN A SANDBOX (cutbox-rows.mjs): the forced cells as the released guide's own fill.sh prints them over the translation e2ac36e929378e3c… (all of the seat's roots in one cut). By AI agents, Wed Nov 11 2026. No macro, syntax, notation, axiom, sorry.
-/
import Derived.Test.YtipjidjopglknaaGreatDoorChecked
import GoSem.Claim
import GoSem.ClaimJoined
import GoSem.ClaimMapViews
import Derived.JoinedTies
import Derived.KernelRfl
namespace Go.Proofs.YtipjidjopglknaaGreatDoor
/- THE CELL 'sum', in the pinned program and in every row, IS THE sha256 OF THE DUMP (.gsa) THAT YtipjidjopglknaaGreatDoorProg.lean LOADS. Nothing in Lean hashes anything: it is a label: what it is worth is what the hold of that sum in a sandbox is worth. -/
noncomputable def Tryz.pinned : Pinned := { name := "ytipjidjopglknaagreatdoor", sum := "e2ac36e929378e3c242b4a6dabaf6e15fdd87cb4240875badb58a3d0b478e991", checked := Tryz.checked }
namespace Rows
def none {H : Type} : Left H := { results := [], args := [] }

/- WHAT THE LISTED PACKAGE-LEVEL VARIABLES READ AS WHEN THE CALL BEGINS. Each datum BY PROGRAM (the guide's laid-datum.mjs) off the statement by which the dump's own 'gosem.cut.vars' lays the variable. In a bare row this is a premise. The card (YtipjidjopglknaaGreatDoorCards.lean) ties it to the program's text. -/
def laid_allonge_order_numbers {H : Type} : DataW H := .agg [.lit (.int .i64 6), .lit (.int .i64 7), .lit (.int .i64 10), .lit (.int .i64 12), .lit (.int .i64 13), .lit (.int .i64 14), .lit (.int .i64 15), .lit (.int .i64 16), .lit (.int .i64 20), .lit (.int .i64 21)]

/-- 'allongelaw21.AskTells': WHATEVER THE INPUT: true; the input reads as it did. -/
def askTellsSpec : ChangeSpec := { name := "askTells", fn := fun _ => fun
  | [d1, d2, d3, d4, d5] => { results := [.lit (.bool true)], args := [d1, d2, d3, d4, d5] }
  | _ => none }
def askTellsRow : OpenClaim := { program := "ytipjidjopglknaagreatdoor", sum := "e2ac36e929378e3c242b4a6dabaf6e15fdd87cb4240875badb58a3d0b478e991", func := "allonge/allongelaw21.AskTells", spec := "askTells", unfollowed := true, recurses := true, named := ["allonge/order.numbers"], loops := true, apart := false, laid := [("allonge/order.numbers", laid_allonge_order_numbers)] }
def AskTellsSaid : Prop := askTellsRow.holds Tryz.pinned (OpenSpec.ofChange askTellsSpec)

/-- ITS FALSE NEIGHBOUR: 'it returns false'. Refute it at one input. -/
def askTellsWrong : ChangeSpec := { name := "askTells", fn := fun _ => fun
  | [d1, d2, d3, d4, d5] => { results := [.lit (.bool false)], args := [d1, d2, d3, d4, d5] }
  | _ => none }
def AskTellsWrongFalsely : Prop := askTellsRow.holds Tryz.pinned (OpenSpec.ofChange askTellsWrong)

/-- 'allongelaw21.AskDays': WHATEVER THE INPUT: true; the input reads as it did. -/
def askDaysSpec : ChangeSpec := { name := "askDays", fn := fun _ => fun
  | [d1, d2, d3, d4, d5] => { results := [.lit (.bool true)], args := [d1, d2, d3, d4, d5] }
  | _ => none }
def askDaysRow : OpenClaim := { program := "ytipjidjopglknaagreatdoor", sum := "e2ac36e929378e3c242b4a6dabaf6e15fdd87cb4240875badb58a3d0b478e991", func := "allonge/allongelaw21.AskDays", spec := "askDays", unfollowed := true, recurses := true, named := ["allonge/order.numbers"], loops := true, apart := false, laid := [("allonge/order.numbers", laid_allonge_order_numbers)] }
def AskDaysSaid : Prop := askDaysRow.holds Tryz.pinned (OpenSpec.ofChange askDaysSpec)

/-- ITS FALSE NEIGHBOUR: 'it returns false'. Refute it at one input. -/
def askDaysWrong : ChangeSpec := { name := "askDays", fn := fun _ => fun
  | [d1, d2, d3, d4, d5] => { results := [.lit (.bool false)], args := [d1, d2, d3, d4, d5] }
  | _ => none }
def AskDaysWrongFalsely : Prop := askDaysRow.holds Tryz.pinned (OpenSpec.ofChange askDaysWrong)

/-- 'allongelaw21.AskNeeds': WHATEVER THE INPUT: true; the input reads as it did. -/
def askNeedsSpec : ChangeSpec := { name := "askNeeds", fn := fun _ => fun
  | [d1, d2, d3, d4, d5] => { results := [.lit (.bool true)], args := [d1, d2, d3, d4, d5] }
  | _ => none }
def askNeedsRow : OpenClaim := { program := "ytipjidjopglknaagreatdoor", sum := "e2ac36e929378e3c242b4a6dabaf6e15fdd87cb4240875badb58a3d0b478e991", func := "allonge/allongelaw21.AskNeeds", spec := "askNeeds", unfollowed := true, recurses := true, named := ["allonge/order.numbers"], loops := true, apart := false, laid := [("allonge/order.numbers", laid_allonge_order_numbers)] }
def AskNeedsSaid : Prop := askNeedsRow.holds Tryz.pinned (OpenSpec.ofChange askNeedsSpec)

/-- ITS FALSE NEIGHBOUR: 'it returns false'. Refute it at one input. -/
def askNeedsWrong : ChangeSpec := { name := "askNeeds", fn := fun _ => fun
  | [d1, d2, d3, d4, d5] => { results := [.lit (.bool false)], args := [d1, d2, d3, d4, d5] }
  | _ => none }
def AskNeedsWrongFalsely : Prop := askNeedsRow.holds Tryz.pinned (OpenSpec.ofChange askNeedsWrong)

/- THE SECOND FORM. 'bulk': how many values and letters a reading holds, each counted each time it is reached (what is shared counts as often as it is met; a slice's spare places count too). A statement '..UptoSaid' is the law's where the arguments, and the package variables that the reading takes, are together of bulk at most 1048576: NARROWER than '..Said'. Prove '..Said' where nothing that the law and all that it calls make is longer than what came in: it says more and counts as full. Else prove '..UptoSaid'. A law counts once. -/
mutual
def uptoBulk {H : Type} : DataW H → Nat
  | .lit (.string bytes) => bytes.length + 1
  | .lit _ => 1
  | .nil => 1
  | .ptr d => uptoBulk d + 1
  | .slice elems spare => uptoBulkAll elems + uptoBulkAll spare + 1
  | .agg parts => uptoBulkAll parts + 1
  | .iface _ d => uptoBulk d + 1
  | .map entries => uptoBulkEntries entries + 1
  | .held _ => 1
def uptoBulkAll {H : Type} : List (DataW H) → Nat
  | [] => 0
  | d :: r => uptoBulk d + uptoBulkAll r
def uptoBulkEntries {H : Type} : List (Lit × DataW H) → Nat
  | [] => 0
  | x :: r => uptoBulkEntry x + uptoBulkEntries r
def uptoBulkEntry {H : Type} : Lit × DataW H → Nat
  | (.string bytes, d) => bytes.length + uptoBulk d + 1
  | (_, d) => uptoBulk d + 1
 end
def uptoSmall : (H : Type) → List (DataW H) → Bool := fun _ ds => decide (uptoBulkAll ds ≤ 1048576)
def OpenSpec.upto (s : _root_.Go.ChangeSpec) : _root_.Go.OpenSpec := { _root_.Go.OpenSpec.ofChange s with cond := some uptoSmall }

/-- 'allongelaw21.AskTells', WHERE WHAT IT READS IS OF BULK AT MOST 1048576: true; the input reads as it did. -/
def askTellsUptoRow : OpenClaim := { program := "ytipjidjopglknaagreatdoor", sum := "e2ac36e929378e3c242b4a6dabaf6e15fdd87cb4240875badb58a3d0b478e991", func := "allonge/allongelaw21.AskTells", spec := "askTells", unfollowed := true, recurses := true, named := ["allonge/order.numbers"], loops := true, apart := false, laid := [("allonge/order.numbers", laid_allonge_order_numbers)], narrowed := true }
def AskTellsUptoSaid : Prop := askTellsUptoRow.holds Tryz.pinned (OpenSpec.upto askTellsSpec)

/-- 'allongelaw21.AskDays', WHERE WHAT IT READS IS OF BULK AT MOST 1048576: true; the input reads as it did. -/
def askDaysUptoRow : OpenClaim := { program := "ytipjidjopglknaagreatdoor", sum := "e2ac36e929378e3c242b4a6dabaf6e15fdd87cb4240875badb58a3d0b478e991", func := "allonge/allongelaw21.AskDays", spec := "askDays", unfollowed := true, recurses := true, named := ["allonge/order.numbers"], loops := true, apart := false, laid := [("allonge/order.numbers", laid_allonge_order_numbers)], narrowed := true }
def AskDaysUptoSaid : Prop := askDaysUptoRow.holds Tryz.pinned (OpenSpec.upto askDaysSpec)

/-- 'allongelaw21.AskNeeds', WHERE WHAT IT READS IS OF BULK AT MOST 1048576: true; the input reads as it did. -/
def askNeedsUptoRow : OpenClaim := { program := "ytipjidjopglknaagreatdoor", sum := "e2ac36e929378e3c242b4a6dabaf6e15fdd87cb4240875badb58a3d0b478e991", func := "allonge/allongelaw21.AskNeeds", spec := "askNeeds", unfollowed := true, recurses := true, named := ["allonge/order.numbers"], loops := true, apart := false, laid := [("allonge/order.numbers", laid_allonge_order_numbers)], narrowed := true }
def AskNeedsUptoSaid : Prop := askNeedsUptoRow.holds Tryz.pinned (OpenSpec.upto askNeedsSpec)

end Rows
end Go.Proofs.YtipjidjopglknaaGreatDoor
