/-
  NARROWER THAN 'FOR EVERY INPUT', by the rows' own cells (each row's printed sentence says how): BindTells: loops, laid · BindAlone: loops, laid · BindGrows: loops, laid · BindStrikes: loops, laid · ClashSame: loops, laid · ClashKnows: loops, laid · AskTells: loops, laid · AskJoins: loops, laid · AskDays: loops, laid · AskKnows: loops, laid · AskNeeds: loops, laid · AskMaturity: loops, laid.
  DERIVED. THE GIVEN ROWS OF THIS SEAT. 12 by the template 'for every input the law returns true; each argument reads behind the call as it read before'; 0 by the template 'total and deterministic' (their statements: YtehiffddpebpkaaGreatDoorTotals.lean).
  GIVEN WITH THE SEED: the statements are not yours to turn. If you find one false, say at which input.
  Laid BY PROGRAM, IN A SANDBOX (cutbox-rows.mjs): the forced cells as the released guide's own fill.sh prints them over the translation ab3a8f263cb09e5f… (all of the seat's roots in one cut). By AI agents, Wed Nov 11 2026. No macro, syntax, notation, axiom, sorry.
-/
import Derived.Test.YtehiffddpebpkaaGreatDoorChecked
import GoSem.Claim
import GoSem.ClaimJoined
import GoSem.ClaimMapViews
import Derived.JoinedTies
import Derived.KernelRfl
namespace Go.Proofs.YtehiffddpebpkaaGreatDoor
/- THE CELL 'sum', in the pinned program and in every row, IS THE sha256 OF THE DUMP (.gsa) THAT YtehiffddpebpkaaGreatDoorProg.lean LOADS. Nothing in Lean hashes anything: it is a label: what it is worth is what the hold of that sum in a sandbox is worth. -/
noncomputable def Tryz.pinned : Pinned := { name := "ytehiffddpebpkaagreatdoor", sum := "ab3a8f263cb09e5f949579a27c9473207db3acd4db22be069abf8344bd7fe661", checked := Tryz.checked }
namespace Rows
def none {H : Type} : Left H := { results := [], args := [] }

/- WHAT THE LISTED PACKAGE-LEVEL VARIABLES READ AS WHEN THE CALL BEGINS. Each datum BY PROGRAM (the guide's laid-datum.mjs) off the statement by which the dump's own 'gosem.cut.vars' lays the variable. In a bare row this is a premise. The card (YtehiffddpebpkaaGreatDoorCards.lean) ties it to the program's text. -/
def laid_allonge_order_numbers {H : Type} : DataW H := .agg [.lit (.int .i64 6), .lit (.int .i64 7), .lit (.int .i64 10), .lit (.int .i64 12), .lit (.int .i64 13), .lit (.int .i64 14), .lit (.int .i64 15), .lit (.int .i64 16), .lit (.int .i64 20), .lit (.int .i64 21)]

/-- 'allongelaw23.BindTells': WHATEVER THE INPUT: true; the input reads as it did. -/
def bindTellsSpec : ChangeSpec := { name := "bindTells", fn := fun _ => fun
  | [d1, d2, d3, d4, d5, d6, d7] => { results := [.lit (.bool true)], args := [d1, d2, d3, d4, d5, d6, d7] }
  | _ => none }
def bindTellsRow : OpenClaim := { program := "ytehiffddpebpkaagreatdoor", sum := "ab3a8f263cb09e5f949579a27c9473207db3acd4db22be069abf8344bd7fe661", func := "allonge/allongelaw23.BindTells", spec := "bindTells", unfollowed := true, recurses := true, named := ["allonge/order.numbers"], loops := true, apart := false, laid := [("allonge/order.numbers", laid_allonge_order_numbers)] }
def BindTellsSaid : Prop := bindTellsRow.holds Tryz.pinned (OpenSpec.ofChange bindTellsSpec)

/-- ITS FALSE NEIGHBOUR: 'it returns false'. Refute it at one input. -/
def bindTellsWrong : ChangeSpec := { name := "bindTells", fn := fun _ => fun
  | [d1, d2, d3, d4, d5, d6, d7] => { results := [.lit (.bool false)], args := [d1, d2, d3, d4, d5, d6, d7] }
  | _ => none }
def BindTellsWrongFalsely : Prop := bindTellsRow.holds Tryz.pinned (OpenSpec.ofChange bindTellsWrong)

/-- 'allongelaw23.BindAlone': WHATEVER THE INPUT: true; the input reads as it did. -/
def bindAloneSpec : ChangeSpec := { name := "bindAlone", fn := fun _ => fun
  | [d1, d2, d3, d4, d5, d6] => { results := [.lit (.bool true)], args := [d1, d2, d3, d4, d5, d6] }
  | _ => none }
def bindAloneRow : OpenClaim := { program := "ytehiffddpebpkaagreatdoor", sum := "ab3a8f263cb09e5f949579a27c9473207db3acd4db22be069abf8344bd7fe661", func := "allonge/allongelaw23.BindAlone", spec := "bindAlone", unfollowed := true, recurses := true, named := ["allonge/order.numbers"], loops := true, apart := false, laid := [("allonge/order.numbers", laid_allonge_order_numbers)] }
def BindAloneSaid : Prop := bindAloneRow.holds Tryz.pinned (OpenSpec.ofChange bindAloneSpec)

/-- ITS FALSE NEIGHBOUR: 'it returns false'. Refute it at one input. -/
def bindAloneWrong : ChangeSpec := { name := "bindAlone", fn := fun _ => fun
  | [d1, d2, d3, d4, d5, d6] => { results := [.lit (.bool false)], args := [d1, d2, d3, d4, d5, d6] }
  | _ => none }
def BindAloneWrongFalsely : Prop := bindAloneRow.holds Tryz.pinned (OpenSpec.ofChange bindAloneWrong)

/-- 'allongelaw23.BindGrows': WHATEVER THE INPUT: true; the input reads as it did. -/
def bindGrowsSpec : ChangeSpec := { name := "bindGrows", fn := fun _ => fun
  | [d1, d2, d3, d4, d5] => { results := [.lit (.bool true)], args := [d1, d2, d3, d4, d5] }
  | _ => none }
def bindGrowsRow : OpenClaim := { program := "ytehiffddpebpkaagreatdoor", sum := "ab3a8f263cb09e5f949579a27c9473207db3acd4db22be069abf8344bd7fe661", func := "allonge/allongelaw23.BindGrows", spec := "bindGrows", unfollowed := true, recurses := true, named := ["allonge/order.numbers"], loops := true, apart := false, laid := [("allonge/order.numbers", laid_allonge_order_numbers)] }
def BindGrowsSaid : Prop := bindGrowsRow.holds Tryz.pinned (OpenSpec.ofChange bindGrowsSpec)

/-- ITS FALSE NEIGHBOUR: 'it returns false'. Refute it at one input. -/
def bindGrowsWrong : ChangeSpec := { name := "bindGrows", fn := fun _ => fun
  | [d1, d2, d3, d4, d5] => { results := [.lit (.bool false)], args := [d1, d2, d3, d4, d5] }
  | _ => none }
def BindGrowsWrongFalsely : Prop := bindGrowsRow.holds Tryz.pinned (OpenSpec.ofChange bindGrowsWrong)

/-- 'allongelaw23.BindStrikes': WHATEVER THE INPUT: true; the input reads as it did. -/
def bindStrikesSpec : ChangeSpec := { name := "bindStrikes", fn := fun _ => fun
  | [d1, d2, d3, d4, d5, d6] => { results := [.lit (.bool true)], args := [d1, d2, d3, d4, d5, d6] }
  | _ => none }
def bindStrikesRow : OpenClaim := { program := "ytehiffddpebpkaagreatdoor", sum := "ab3a8f263cb09e5f949579a27c9473207db3acd4db22be069abf8344bd7fe661", func := "allonge/allongelaw23.BindStrikes", spec := "bindStrikes", unfollowed := true, recurses := true, named := ["allonge/order.numbers"], loops := true, apart := false, laid := [("allonge/order.numbers", laid_allonge_order_numbers)] }
def BindStrikesSaid : Prop := bindStrikesRow.holds Tryz.pinned (OpenSpec.ofChange bindStrikesSpec)

/-- ITS FALSE NEIGHBOUR: 'it returns false'. Refute it at one input. -/
def bindStrikesWrong : ChangeSpec := { name := "bindStrikes", fn := fun _ => fun
  | [d1, d2, d3, d4, d5, d6] => { results := [.lit (.bool false)], args := [d1, d2, d3, d4, d5, d6] }
  | _ => none }
def BindStrikesWrongFalsely : Prop := bindStrikesRow.holds Tryz.pinned (OpenSpec.ofChange bindStrikesWrong)

/-- 'allongelaw22.ClashSame': WHATEVER THE INPUT: true; the input reads as it did. -/
def clashSameSpec : ChangeSpec := { name := "clashSame", fn := fun _ => fun
  | [d1, d2, d3, d4, d5] => { results := [.lit (.bool true)], args := [d1, d2, d3, d4, d5] }
  | _ => none }
def clashSameRow : OpenClaim := { program := "ytehiffddpebpkaagreatdoor", sum := "ab3a8f263cb09e5f949579a27c9473207db3acd4db22be069abf8344bd7fe661", func := "allonge/allongelaw22.ClashSame", spec := "clashSame", inPlace := ["slices.overlaps[allonge/api.Fact]"], unfollowed := true, recurses := true, named := ["allonge/order.numbers"], loops := true, apart := false, laid := [("allonge/order.numbers", laid_allonge_order_numbers)] }
def ClashSameSaid : Prop := clashSameRow.holds Tryz.pinned (OpenSpec.ofChange clashSameSpec)

/-- ITS FALSE NEIGHBOUR: 'it returns false'. Refute it at one input. -/
def clashSameWrong : ChangeSpec := { name := "clashSame", fn := fun _ => fun
  | [d1, d2, d3, d4, d5] => { results := [.lit (.bool false)], args := [d1, d2, d3, d4, d5] }
  | _ => none }
def ClashSameWrongFalsely : Prop := clashSameRow.holds Tryz.pinned (OpenSpec.ofChange clashSameWrong)

/-- 'allongelaw22.ClashKnows': WHATEVER THE INPUT: true; the input reads as it did. -/
def clashKnowsSpec : ChangeSpec := { name := "clashKnows", fn := fun _ => fun
  | [d1, d2, d3, d4, d5, d6] => { results := [.lit (.bool true)], args := [d1, d2, d3, d4, d5, d6] }
  | _ => none }
def clashKnowsRow : OpenClaim := { program := "ytehiffddpebpkaagreatdoor", sum := "ab3a8f263cb09e5f949579a27c9473207db3acd4db22be069abf8344bd7fe661", func := "allonge/allongelaw22.ClashKnows", spec := "clashKnows", inPlace := ["slices.overlaps[allonge/api.Fact]"], unfollowed := true, recurses := true, named := ["allonge/order.numbers"], loops := true, apart := false, laid := [("allonge/order.numbers", laid_allonge_order_numbers)] }
def ClashKnowsSaid : Prop := clashKnowsRow.holds Tryz.pinned (OpenSpec.ofChange clashKnowsSpec)

/-- ITS FALSE NEIGHBOUR: 'it returns false'. Refute it at one input. -/
def clashKnowsWrong : ChangeSpec := { name := "clashKnows", fn := fun _ => fun
  | [d1, d2, d3, d4, d5, d6] => { results := [.lit (.bool false)], args := [d1, d2, d3, d4, d5, d6] }
  | _ => none }
def ClashKnowsWrongFalsely : Prop := clashKnowsRow.holds Tryz.pinned (OpenSpec.ofChange clashKnowsWrong)

/-- 'allongelaw21.AskTells': WHATEVER THE INPUT: true; the input reads as it did. -/
def askTellsSpec : ChangeSpec := { name := "askTells", fn := fun _ => fun
  | [d1, d2, d3, d4, d5] => { results := [.lit (.bool true)], args := [d1, d2, d3, d4, d5] }
  | _ => none }
def askTellsRow : OpenClaim := { program := "ytehiffddpebpkaagreatdoor", sum := "ab3a8f263cb09e5f949579a27c9473207db3acd4db22be069abf8344bd7fe661", func := "allonge/allongelaw21.AskTells", spec := "askTells", unfollowed := true, recurses := true, named := ["allonge/order.numbers"], loops := true, apart := false, laid := [("allonge/order.numbers", laid_allonge_order_numbers)] }
def AskTellsSaid : Prop := askTellsRow.holds Tryz.pinned (OpenSpec.ofChange askTellsSpec)

/-- ITS FALSE NEIGHBOUR: 'it returns false'. Refute it at one input. -/
def askTellsWrong : ChangeSpec := { name := "askTells", fn := fun _ => fun
  | [d1, d2, d3, d4, d5] => { results := [.lit (.bool false)], args := [d1, d2, d3, d4, d5] }
  | _ => none }
def AskTellsWrongFalsely : Prop := askTellsRow.holds Tryz.pinned (OpenSpec.ofChange askTellsWrong)

/-- 'allongelaw21.AskJoins': WHATEVER THE INPUT: true; the input reads as it did. -/
def askJoinsSpec : ChangeSpec := { name := "askJoins", fn := fun _ => fun
  | [d1, d2, d3, d4] => { results := [.lit (.bool true)], args := [d1, d2, d3, d4] }
  | _ => none }
def askJoinsRow : OpenClaim := { program := "ytehiffddpebpkaagreatdoor", sum := "ab3a8f263cb09e5f949579a27c9473207db3acd4db22be069abf8344bd7fe661", func := "allonge/allongelaw21.AskJoins", spec := "askJoins", unfollowed := true, recurses := true, named := ["allonge/order.numbers"], loops := true, apart := false, laid := [("allonge/order.numbers", laid_allonge_order_numbers)] }
def AskJoinsSaid : Prop := askJoinsRow.holds Tryz.pinned (OpenSpec.ofChange askJoinsSpec)

/-- ITS FALSE NEIGHBOUR: 'it returns false'. Refute it at one input. -/
def askJoinsWrong : ChangeSpec := { name := "askJoins", fn := fun _ => fun
  | [d1, d2, d3, d4] => { results := [.lit (.bool false)], args := [d1, d2, d3, d4] }
  | _ => none }
def AskJoinsWrongFalsely : Prop := askJoinsRow.holds Tryz.pinned (OpenSpec.ofChange askJoinsWrong)

/-- 'allongelaw21.AskDays': WHATEVER THE INPUT: true; the input reads as it did. -/
def askDaysSpec : ChangeSpec := { name := "askDays", fn := fun _ => fun
  | [d1, d2, d3, d4, d5] => { results := [.lit (.bool true)], args := [d1, d2, d3, d4, d5] }
  | _ => none }
def askDaysRow : OpenClaim := { program := "ytehiffddpebpkaagreatdoor", sum := "ab3a8f263cb09e5f949579a27c9473207db3acd4db22be069abf8344bd7fe661", func := "allonge/allongelaw21.AskDays", spec := "askDays", unfollowed := true, recurses := true, named := ["allonge/order.numbers"], loops := true, apart := false, laid := [("allonge/order.numbers", laid_allonge_order_numbers)] }
def AskDaysSaid : Prop := askDaysRow.holds Tryz.pinned (OpenSpec.ofChange askDaysSpec)

/-- ITS FALSE NEIGHBOUR: 'it returns false'. Refute it at one input. -/
def askDaysWrong : ChangeSpec := { name := "askDays", fn := fun _ => fun
  | [d1, d2, d3, d4, d5] => { results := [.lit (.bool false)], args := [d1, d2, d3, d4, d5] }
  | _ => none }
def AskDaysWrongFalsely : Prop := askDaysRow.holds Tryz.pinned (OpenSpec.ofChange askDaysWrong)

/-- 'allongelaw21.AskKnows': WHATEVER THE INPUT: true; the input reads as it did. -/
def askKnowsSpec : ChangeSpec := { name := "askKnows", fn := fun _ => fun
  | [d1, d2, d3, d4, d5] => { results := [.lit (.bool true)], args := [d1, d2, d3, d4, d5] }
  | _ => none }
def askKnowsRow : OpenClaim := { program := "ytehiffddpebpkaagreatdoor", sum := "ab3a8f263cb09e5f949579a27c9473207db3acd4db22be069abf8344bd7fe661", func := "allonge/allongelaw21.AskKnows", spec := "askKnows", unfollowed := true, recurses := true, named := ["allonge/order.numbers"], loops := true, apart := false, laid := [("allonge/order.numbers", laid_allonge_order_numbers)] }
def AskKnowsSaid : Prop := askKnowsRow.holds Tryz.pinned (OpenSpec.ofChange askKnowsSpec)

/-- ITS FALSE NEIGHBOUR: 'it returns false'. Refute it at one input. -/
def askKnowsWrong : ChangeSpec := { name := "askKnows", fn := fun _ => fun
  | [d1, d2, d3, d4, d5] => { results := [.lit (.bool false)], args := [d1, d2, d3, d4, d5] }
  | _ => none }
def AskKnowsWrongFalsely : Prop := askKnowsRow.holds Tryz.pinned (OpenSpec.ofChange askKnowsWrong)

/-- 'allongelaw21.AskNeeds': WHATEVER THE INPUT: true; the input reads as it did. -/
def askNeedsSpec : ChangeSpec := { name := "askNeeds", fn := fun _ => fun
  | [d1, d2, d3, d4, d5] => { results := [.lit (.bool true)], args := [d1, d2, d3, d4, d5] }
  | _ => none }
def askNeedsRow : OpenClaim := { program := "ytehiffddpebpkaagreatdoor", sum := "ab3a8f263cb09e5f949579a27c9473207db3acd4db22be069abf8344bd7fe661", func := "allonge/allongelaw21.AskNeeds", spec := "askNeeds", unfollowed := true, recurses := true, named := ["allonge/order.numbers"], loops := true, apart := false, laid := [("allonge/order.numbers", laid_allonge_order_numbers)] }
def AskNeedsSaid : Prop := askNeedsRow.holds Tryz.pinned (OpenSpec.ofChange askNeedsSpec)

/-- ITS FALSE NEIGHBOUR: 'it returns false'. Refute it at one input. -/
def askNeedsWrong : ChangeSpec := { name := "askNeeds", fn := fun _ => fun
  | [d1, d2, d3, d4, d5] => { results := [.lit (.bool false)], args := [d1, d2, d3, d4, d5] }
  | _ => none }
def AskNeedsWrongFalsely : Prop := askNeedsRow.holds Tryz.pinned (OpenSpec.ofChange askNeedsWrong)

/-- 'allongelaw21.AskMaturity': WHATEVER THE INPUT: true; the input reads as it did. -/
def askMaturitySpec : ChangeSpec := { name := "askMaturity", fn := fun _ => fun
  | [d1, d2, d3, d4, d5, d6] => { results := [.lit (.bool true)], args := [d1, d2, d3, d4, d5, d6] }
  | _ => none }
def askMaturityRow : OpenClaim := { program := "ytehiffddpebpkaagreatdoor", sum := "ab3a8f263cb09e5f949579a27c9473207db3acd4db22be069abf8344bd7fe661", func := "allonge/allongelaw21.AskMaturity", spec := "askMaturity", unfollowed := true, recurses := true, named := ["allonge/order.numbers"], loops := true, apart := false, laid := [("allonge/order.numbers", laid_allonge_order_numbers)] }
def AskMaturitySaid : Prop := askMaturityRow.holds Tryz.pinned (OpenSpec.ofChange askMaturitySpec)

/-- ITS FALSE NEIGHBOUR: 'it returns false'. Refute it at one input. -/
def askMaturityWrong : ChangeSpec := { name := "askMaturity", fn := fun _ => fun
  | [d1, d2, d3, d4, d5, d6] => { results := [.lit (.bool false)], args := [d1, d2, d3, d4, d5, d6] }
  | _ => none }
def AskMaturityWrongFalsely : Prop := askMaturityRow.holds Tryz.pinned (OpenSpec.ofChange askMaturityWrong)

/- THE SECOND FORM. 'bulk': how many values and letters a reading holds, each counted each time it is reached (what is shared counts as often as it is met; a slice's spare places count too). A statement '..UptoSaid' is the law's where the arguments, and the package variables that the reading takes, are together of bulk at most 1048576: NARROWER than '..Said'. Prove '..Said' where nothing that the law and all that it calls make is longer than what came in: it says more and counts as full. Else prove '..UptoSaid'. A law counts once. -/
mutual
def uptoBulk {H : Type} : DataW H → Nat
  | .lit (.string bytes) => bytes.length + 1
  | .lit _ => 1
  | .nil => 1
  | .ptr d => uptoBulk d + 1
  | .slice elems spare => uptoBulkAll elems + uptoBulkAll spare + 1
  | .agg parts => uptoBulkAll parts + 1
  | .iface _ d => uptoBulk d + 1
  | .map entries => uptoBulkEntries entries + 1
  | .held _ => 1
def uptoBulkAll {H : Type} : List (DataW H) → Nat
  | [] => 0
  | d :: r => uptoBulk d + uptoBulkAll r
def uptoBulkEntries {H : Type} : List (Lit × DataW H) → Nat
  | [] => 0
  | x :: r => uptoBulkEntry x + uptoBulkEntries r
def uptoBulkEntry {H : Type} : Lit × DataW H → Nat
  | (.string bytes, d) => bytes.length + uptoBulk d + 1
  | (_, d) => uptoBulk d + 1
 end
def uptoSmall : (H : Type) → List (DataW H) → Bool := fun _ ds => decide (uptoBulkAll ds ≤ 1048576)
def OpenSpec.upto (s : _root_.Go.ChangeSpec) : _root_.Go.OpenSpec := { _root_.Go.OpenSpec.ofChange s with cond := some uptoSmall }

/-- 'allongelaw23.BindTells', WHERE WHAT IT READS IS OF BULK AT MOST 1048576: true; the input reads as it did. -/
def bindTellsUptoRow : OpenClaim := { program := "ytehiffddpebpkaagreatdoor", sum := "ab3a8f263cb09e5f949579a27c9473207db3acd4db22be069abf8344bd7fe661", func := "allonge/allongelaw23.BindTells", spec := "bindTells", unfollowed := true, recurses := true, named := ["allonge/order.numbers"], loops := true, apart := false, laid := [("allonge/order.numbers", laid_allonge_order_numbers)], narrowed := true }
def BindTellsUptoSaid : Prop := bindTellsUptoRow.holds Tryz.pinned (OpenSpec.upto bindTellsSpec)

/-- 'allongelaw23.BindAlone', WHERE WHAT IT READS IS OF BULK AT MOST 1048576: true; the input reads as it did. -/
def bindAloneUptoRow : OpenClaim := { program := "ytehiffddpebpkaagreatdoor", sum := "ab3a8f263cb09e5f949579a27c9473207db3acd4db22be069abf8344bd7fe661", func := "allonge/allongelaw23.BindAlone", spec := "bindAlone", unfollowed := true, recurses := true, named := ["allonge/order.numbers"], loops := true, apart := false, laid := [("allonge/order.numbers", laid_allonge_order_numbers)], narrowed := true }
def BindAloneUptoSaid : Prop := bindAloneUptoRow.holds Tryz.pinned (OpenSpec.upto bindAloneSpec)

/-- 'allongelaw23.BindGrows', WHERE WHAT IT READS IS OF BULK AT MOST 1048576: true; the input reads as it did. -/
def bindGrowsUptoRow : OpenClaim := { program := "ytehiffddpebpkaagreatdoor", sum := "ab3a8f263cb09e5f949579a27c9473207db3acd4db22be069abf8344bd7fe661", func := "allonge/allongelaw23.BindGrows", spec := "bindGrows", unfollowed := true, recurses := true, named := ["allonge/order.numbers"], loops := true, apart := false, laid := [("allonge/order.numbers", laid_allonge_order_numbers)], narrowed := true }
def BindGrowsUptoSaid : Prop := bindGrowsUptoRow.holds Tryz.pinned (OpenSpec.upto bindGrowsSpec)

/-- 'allongelaw23.BindStrikes', WHERE WHAT IT READS IS OF BULK AT MOST 1048576: true; the input reads as it did. -/
def bindStrikesUptoRow : OpenClaim := { program := "ytehiffddpebpkaagreatdoor", sum := "ab3a8f263cb09e5f949579a27c9473207db3acd4db22be069abf8344bd7fe661", func := "allonge/allongelaw23.BindStrikes", spec := "bindStrikes", unfollowed := true, recurses := true, named := ["allonge/order.numbers"], loops := true, apart := false, laid := [("allonge/order.numbers", laid_allonge_order_numbers)], narrowed := true }
def BindStrikesUptoSaid : Prop := bindStrikesUptoRow.holds Tryz.pinned (OpenSpec.upto bindStrikesSpec)

/-- 'allongelaw22.ClashSame', WHERE WHAT IT READS IS OF BULK AT MOST 1048576: true; the input reads as it did. -/
def clashSameUptoRow : OpenClaim := { program := "ytehiffddpebpkaagreatdoor", sum := "ab3a8f263cb09e5f949579a27c9473207db3acd4db22be069abf8344bd7fe661", func := "allonge/allongelaw22.ClashSame", spec := "clashSame", inPlace := ["slices.overlaps[allonge/api.Fact]"], unfollowed := true, recurses := true, named := ["allonge/order.numbers"], loops := true, apart := false, laid := [("allonge/order.numbers", laid_allonge_order_numbers)], narrowed := true }
def ClashSameUptoSaid : Prop := clashSameUptoRow.holds Tryz.pinned (OpenSpec.upto clashSameSpec)

/-- 'allongelaw22.ClashKnows', WHERE WHAT IT READS IS OF BULK AT MOST 1048576: true; the input reads as it did. -/
def clashKnowsUptoRow : OpenClaim := { program := "ytehiffddpebpkaagreatdoor", sum := "ab3a8f263cb09e5f949579a27c9473207db3acd4db22be069abf8344bd7fe661", func := "allonge/allongelaw22.ClashKnows", spec := "clashKnows", inPlace := ["slices.overlaps[allonge/api.Fact]"], unfollowed := true, recurses := true, named := ["allonge/order.numbers"], loops := true, apart := false, laid := [("allonge/order.numbers", laid_allonge_order_numbers)], narrowed := true }
def ClashKnowsUptoSaid : Prop := clashKnowsUptoRow.holds Tryz.pinned (OpenSpec.upto clashKnowsSpec)

/-- 'allongelaw21.AskTells', WHERE WHAT IT READS IS OF BULK AT MOST 1048576: true; the input reads as it did. -/
def askTellsUptoRow : OpenClaim := { program := "ytehiffddpebpkaagreatdoor", sum := "ab3a8f263cb09e5f949579a27c9473207db3acd4db22be069abf8344bd7fe661", func := "allonge/allongelaw21.AskTells", spec := "askTells", unfollowed := true, recurses := true, named := ["allonge/order.numbers"], loops := true, apart := false, laid := [("allonge/order.numbers", laid_allonge_order_numbers)], narrowed := true }
def AskTellsUptoSaid : Prop := askTellsUptoRow.holds Tryz.pinned (OpenSpec.upto askTellsSpec)

/-- 'allongelaw21.AskJoins', WHERE WHAT IT READS IS OF BULK AT MOST 1048576: true; the input reads as it did. -/
def askJoinsUptoRow : OpenClaim := { program := "ytehiffddpebpkaagreatdoor", sum := "ab3a8f263cb09e5f949579a27c9473207db3acd4db22be069abf8344bd7fe661", func := "allonge/allongelaw21.AskJoins", spec := "askJoins", unfollowed := true, recurses := true, named := ["allonge/order.numbers"], loops := true, apart := false, laid := [("allonge/order.numbers", laid_allonge_order_numbers)], narrowed := true }
def AskJoinsUptoSaid : Prop := askJoinsUptoRow.holds Tryz.pinned (OpenSpec.upto askJoinsSpec)

/-- 'allongelaw21.AskDays', WHERE WHAT IT READS IS OF BULK AT MOST 1048576: true; the input reads as it did. -/
def askDaysUptoRow : OpenClaim := { program := "ytehiffddpebpkaagreatdoor", sum := "ab3a8f263cb09e5f949579a27c9473207db3acd4db22be069abf8344bd7fe661", func := "allonge/allongelaw21.AskDays", spec := "askDays", unfollowed := true, recurses := true, named := ["allonge/order.numbers"], loops := true, apart := false, laid := [("allonge/order.numbers", laid_allonge_order_numbers)], narrowed := true }
def AskDaysUptoSaid : Prop := askDaysUptoRow.holds Tryz.pinned (OpenSpec.upto askDaysSpec)

/-- 'allongelaw21.AskKnows', WHERE WHAT IT READS IS OF BULK AT MOST 1048576: true; the input reads as it did. -/
def askKnowsUptoRow : OpenClaim := { program := "ytehiffddpebpkaagreatdoor", sum := "ab3a8f263cb09e5f949579a27c9473207db3acd4db22be069abf8344bd7fe661", func := "allonge/allongelaw21.AskKnows", spec := "askKnows", unfollowed := true, recurses := true, named := ["allonge/order.numbers"], loops := true, apart := false, laid := [("allonge/order.numbers", laid_allonge_order_numbers)], narrowed := true }
def AskKnowsUptoSaid : Prop := askKnowsUptoRow.holds Tryz.pinned (OpenSpec.upto askKnowsSpec)

/-- 'allongelaw21.AskNeeds', WHERE WHAT IT READS IS OF BULK AT MOST 1048576: true; the input reads as it did. -/
def askNeedsUptoRow : OpenClaim := { program := "ytehiffddpebpkaagreatdoor", sum := "ab3a8f263cb09e5f949579a27c9473207db3acd4db22be069abf8344bd7fe661", func := "allonge/allongelaw21.AskNeeds", spec := "askNeeds", unfollowed := true, recurses := true, named := ["allonge/order.numbers"], loops := true, apart := false, laid := [("allonge/order.numbers", laid_allonge_order_numbers)], narrowed := true }
def AskNeedsUptoSaid : Prop := askNeedsUptoRow.holds Tryz.pinned (OpenSpec.upto askNeedsSpec)

/-- 'allongelaw21.AskMaturity', WHERE WHAT IT READS IS OF BULK AT MOST 1048576: true; the input reads as it did. -/
def askMaturityUptoRow : OpenClaim := { program := "ytehiffddpebpkaagreatdoor", sum := "ab3a8f263cb09e5f949579a27c9473207db3acd4db22be069abf8344bd7fe661", func := "allonge/allongelaw21.AskMaturity", spec := "askMaturity", unfollowed := true, recurses := true, named := ["allonge/order.numbers"], loops := true, apart := false, laid := [("allonge/order.numbers", laid_allonge_order_numbers)], narrowed := true }
def AskMaturityUptoSaid : Prop := askMaturityUptoRow.holds Tryz.pinned (OpenSpec.upto askMaturitySpec)

end Rows
end Go.Proofs.YtehiffddpebpkaaGreatDoor
