/-
  No cell of these rows narrows 'for every input' (looked for: loops, veiled, ifaces, maps, wideKeys, modest, calm, conditions, laid).
  DERIVED. THE GIVEN ROWS OF THIS SEAT. 6 by the template 'for every input the law returns true; each argument reads behind the call as it read before'; 0 by the template 'total and deterministic' (their statements: YtjjfmpdhjbojfaaTotals.lean).
  GIVEN WITH THE SEED: the statements are not yours to turn. If you find one false, say at which input.
  Laid BY PROGRAM, IN A SANDBOX (cutbox-rows.mjs): the forced cells as the released guide's own fill.sh prints them over the translation 54ca5c7a15bfac95… (all of the seat's roots in one cut). By AI agents, Wed Nov 11 2026. No macro, syntax, notation, axiom, sorry.
-/
import Derived.Test.YtjjfmpdhjbojfaaChecked
import GoSem.Claim
import GoSem.ClaimJoined
import GoSem.ClaimMapViews
import Derived.JoinedTies
import Derived.KernelRfl
namespace Go.Proofs.Ytjjfmpdhjbojfaa
/- THE CELL 'sum', in the pinned program and in every row, IS THE sha256 OF THE DUMP (.gsa) THAT YtjjfmpdhjbojfaaProg.lean LOADS. Nothing in Lean hashes anything: it is a label: what it is worth is what the hold of that sum in a sandbox is worth. -/
noncomputable def Try.pinned : Pinned := { name := "ytjjfmpdhjbojfaa", sum := "54ca5c7a15bfac9534fc9905bd56a18e6864cf4ba1dde854ae5691fcecf8028f", checked := Try.checked }
namespace Rows
def none {H : Type} : Left H := { results := [], args := [] }

/-- 'allongelaw13.TitleTells': WHATEVER THE INPUT: true; the input reads as it did. -/
def titleTellsSpec : ChangeSpec := { name := "titleTells", fn := fun _ => fun
  | [d1, d2, d3, d4] => { results := [.lit (.bool true)], args := [d1, d2, d3, d4] }
  | _ => none }
def titleTellsRow : OpenClaim := { program := "ytjjfmpdhjbojfaa", sum := "54ca5c7a15bfac9534fc9905bd56a18e6864cf4ba1dde854ae5691fcecf8028f", func := "allonge/allongelaw13.TitleTells", spec := "titleTells", unfollowed := true, recurses := true, apart := false }
def TitleTellsSaid : Prop := titleTellsRow.holds Try.pinned (OpenSpec.ofChange titleTellsSpec)

/-- ITS FALSE NEIGHBOUR: 'it returns false'. Refute it at one input. -/
def titleTellsWrong : ChangeSpec := { name := "titleTells", fn := fun _ => fun
  | [d1, d2, d3, d4] => { results := [.lit (.bool false)], args := [d1, d2, d3, d4] }
  | _ => none }
def TitleTellsWrongFalsely : Prop := titleTellsRow.holds Try.pinned (OpenSpec.ofChange titleTellsWrong)

/-- 'allongelaw13.TitleLinks': WHATEVER THE INPUT: true; the input reads as it did. -/
def titleLinksSpec : ChangeSpec := { name := "titleLinks", fn := fun _ => fun
  | [d1, d2, d3] => { results := [.lit (.bool true)], args := [d1, d2, d3] }
  | _ => none }
def titleLinksRow : OpenClaim := { program := "ytjjfmpdhjbojfaa", sum := "54ca5c7a15bfac9534fc9905bd56a18e6864cf4ba1dde854ae5691fcecf8028f", func := "allonge/allongelaw13.TitleLinks", spec := "titleLinks", unfollowed := true, recurses := true, apart := false }
def TitleLinksSaid : Prop := titleLinksRow.holds Try.pinned (OpenSpec.ofChange titleLinksSpec)

/-- ITS FALSE NEIGHBOUR: 'it returns false'. Refute it at one input. -/
def titleLinksWrong : ChangeSpec := { name := "titleLinks", fn := fun _ => fun
  | [d1, d2, d3] => { results := [.lit (.bool false)], args := [d1, d2, d3] }
  | _ => none }
def TitleLinksWrongFalsely : Prop := titleLinksRow.holds Try.pinned (OpenSpec.ofChange titleLinksWrong)

/-- 'allongelaw13.TitleOthers': WHATEVER THE INPUT: true; the input reads as it did. -/
def titleOthersSpec : ChangeSpec := { name := "titleOthers", fn := fun _ => fun
  | [d1, d2, d3, d4, d5] => { results := [.lit (.bool true)], args := [d1, d2, d3, d4, d5] }
  | _ => none }
def titleOthersRow : OpenClaim := { program := "ytjjfmpdhjbojfaa", sum := "54ca5c7a15bfac9534fc9905bd56a18e6864cf4ba1dde854ae5691fcecf8028f", func := "allonge/allongelaw13.TitleOthers", spec := "titleOthers", unfollowed := true, recurses := true, apart := false }
def TitleOthersSaid : Prop := titleOthersRow.holds Try.pinned (OpenSpec.ofChange titleOthersSpec)

/-- ITS FALSE NEIGHBOUR: 'it returns false'. Refute it at one input. -/
def titleOthersWrong : ChangeSpec := { name := "titleOthers", fn := fun _ => fun
  | [d1, d2, d3, d4, d5] => { results := [.lit (.bool false)], args := [d1, d2, d3, d4, d5] }
  | _ => none }
def TitleOthersWrongFalsely : Prop := titleOthersRow.holds Try.pinned (OpenSpec.ofChange titleOthersWrong)

/-- 'allongelaw13.TitleGrows': WHATEVER THE INPUT: true; the input reads as it did. -/
def titleGrowsSpec : ChangeSpec := { name := "titleGrows", fn := fun _ => fun
  | [d1, d2, d3, d4] => { results := [.lit (.bool true)], args := [d1, d2, d3, d4] }
  | _ => none }
def titleGrowsRow : OpenClaim := { program := "ytjjfmpdhjbojfaa", sum := "54ca5c7a15bfac9534fc9905bd56a18e6864cf4ba1dde854ae5691fcecf8028f", func := "allonge/allongelaw13.TitleGrows", spec := "titleGrows", unfollowed := true, recurses := true, apart := false }
def TitleGrowsSaid : Prop := titleGrowsRow.holds Try.pinned (OpenSpec.ofChange titleGrowsSpec)

/-- ITS FALSE NEIGHBOUR: 'it returns false'. Refute it at one input. -/
def titleGrowsWrong : ChangeSpec := { name := "titleGrows", fn := fun _ => fun
  | [d1, d2, d3, d4] => { results := [.lit (.bool false)], args := [d1, d2, d3, d4] }
  | _ => none }
def TitleGrowsWrongFalsely : Prop := titleGrowsRow.holds Try.pinned (OpenSpec.ofChange titleGrowsWrong)

/-- 'allongelaw13.TitleStrikes': WHATEVER THE INPUT: true; the input reads as it did. -/
def titleStrikesSpec : ChangeSpec := { name := "titleStrikes", fn := fun _ => fun
  | [d1, d2, d3, d4, d5] => { results := [.lit (.bool true)], args := [d1, d2, d3, d4, d5] }
  | _ => none }
def titleStrikesRow : OpenClaim := { program := "ytjjfmpdhjbojfaa", sum := "54ca5c7a15bfac9534fc9905bd56a18e6864cf4ba1dde854ae5691fcecf8028f", func := "allonge/allongelaw13.TitleStrikes", spec := "titleStrikes", unfollowed := true, recurses := true, apart := false }
def TitleStrikesSaid : Prop := titleStrikesRow.holds Try.pinned (OpenSpec.ofChange titleStrikesSpec)

/-- ITS FALSE NEIGHBOUR: 'it returns false'. Refute it at one input. -/
def titleStrikesWrong : ChangeSpec := { name := "titleStrikes", fn := fun _ => fun
  | [d1, d2, d3, d4, d5] => { results := [.lit (.bool false)], args := [d1, d2, d3, d4, d5] }
  | _ => none }
def TitleStrikesWrongFalsely : Prop := titleStrikesRow.holds Try.pinned (OpenSpec.ofChange titleStrikesWrong)

/-- 'allongelaw13.TitleRivals': WHATEVER THE INPUT: true; the input reads as it did. -/
def titleRivalsSpec : ChangeSpec := { name := "titleRivals", fn := fun _ => fun
  | [d1, d2] => { results := [.lit (.bool true)], args := [d1, d2] }
  | _ => none }
def titleRivalsRow : OpenClaim := { program := "ytjjfmpdhjbojfaa", sum := "54ca5c7a15bfac9534fc9905bd56a18e6864cf4ba1dde854ae5691fcecf8028f", func := "allonge/allongelaw13.TitleRivals", spec := "titleRivals", unfollowed := true, recurses := true, apart := false }
def TitleRivalsSaid : Prop := titleRivalsRow.holds Try.pinned (OpenSpec.ofChange titleRivalsSpec)

/-- ITS FALSE NEIGHBOUR: 'it returns false'. Refute it at one input. -/
def titleRivalsWrong : ChangeSpec := { name := "titleRivals", fn := fun _ => fun
  | [d1, d2] => { results := [.lit (.bool false)], args := [d1, d2] }
  | _ => none }
def TitleRivalsWrongFalsely : Prop := titleRivalsRow.holds Try.pinned (OpenSpec.ofChange titleRivalsWrong)

/- THE SECOND FORM. 'bulk': how many values and letters a reading holds, each counted each time it is reached (what is shared counts as often as it is met; a slice's spare places count too). A statement '..UptoSaid' is the law's where the arguments, and the package variables that the reading takes, are together of bulk at most 1048576: NARROWER than '..Said'. Prove '..Said' where nothing that the law and all that it calls make is longer than what came in: it says more and counts as full. Else prove '..UptoSaid'. A law counts once. -/
mutual
def uptoBulk {H : Type} : DataW H → Nat
  | .lit (.string bytes) => bytes.length + 1
  | .lit _ => 1
  | .nil => 1
  | .ptr d => uptoBulk d + 1
  | .slice elems spare => uptoBulkAll elems + uptoBulkAll spare + 1
  | .agg parts => uptoBulkAll parts + 1
  | .iface _ d => uptoBulk d + 1
  | .map entries => uptoBulkEntries entries + 1
  | .held _ => 1
def uptoBulkAll {H : Type} : List (DataW H) → Nat
  | [] => 0
  | d :: r => uptoBulk d + uptoBulkAll r
def uptoBulkEntries {H : Type} : List (Lit × DataW H) → Nat
  | [] => 0
  | x :: r => uptoBulkEntry x + uptoBulkEntries r
def uptoBulkEntry {H : Type} : Lit × DataW H → Nat
  | (.string bytes, d) => bytes.length + uptoBulk d + 1
  | (_, d) => uptoBulk d + 1
 end
def uptoSmall : (H : Type) → List (DataW H) → Bool := fun _ ds => decide (uptoBulkAll ds ≤ 1048576)
def OpenSpec.upto (s : _root_.Go.ChangeSpec) : _root_.Go.OpenSpec := { _root_.Go.OpenSpec.ofChange s with cond := some uptoSmall }

/-- 'allongelaw13.TitleTells', WHERE WHAT IT READS IS OF BULK AT MOST 1048576: true; the input reads as it did. -/
def titleTellsUptoRow : OpenClaim := { program := "ytjjfmpdhjbojfaa", sum := "54ca5c7a15bfac9534fc9905bd56a18e6864cf4ba1dde854ae5691fcecf8028f", func := "allonge/allongelaw13.TitleTells", spec := "titleTells", unfollowed := true, recurses := true, apart := false, narrowed := true }
def TitleTellsUptoSaid : Prop := titleTellsUptoRow.holds Try.pinned (OpenSpec.upto titleTellsSpec)

/-- 'allongelaw13.TitleLinks', WHERE WHAT IT READS IS OF BULK AT MOST 1048576: true; the input reads as it did. -/
def titleLinksUptoRow : OpenClaim := { program := "ytjjfmpdhjbojfaa", sum := "54ca5c7a15bfac9534fc9905bd56a18e6864cf4ba1dde854ae5691fcecf8028f", func := "allonge/allongelaw13.TitleLinks", spec := "titleLinks", unfollowed := true, recurses := true, apart := false, narrowed := true }
def TitleLinksUptoSaid : Prop := titleLinksUptoRow.holds Try.pinned (OpenSpec.upto titleLinksSpec)

/-- 'allongelaw13.TitleOthers', WHERE WHAT IT READS IS OF BULK AT MOST 1048576: true; the input reads as it did. -/
def titleOthersUptoRow : OpenClaim := { program := "ytjjfmpdhjbojfaa", sum := "54ca5c7a15bfac9534fc9905bd56a18e6864cf4ba1dde854ae5691fcecf8028f", func := "allonge/allongelaw13.TitleOthers", spec := "titleOthers", unfollowed := true, recurses := true, apart := false, narrowed := true }
def TitleOthersUptoSaid : Prop := titleOthersUptoRow.holds Try.pinned (OpenSpec.upto titleOthersSpec)

/-- 'allongelaw13.TitleGrows', WHERE WHAT IT READS IS OF BULK AT MOST 1048576: true; the input reads as it did. -/
def titleGrowsUptoRow : OpenClaim := { program := "ytjjfmpdhjbojfaa", sum := "54ca5c7a15bfac9534fc9905bd56a18e6864cf4ba1dde854ae5691fcecf8028f", func := "allonge/allongelaw13.TitleGrows", spec := "titleGrows", unfollowed := true, recurses := true, apart := false, narrowed := true }
def TitleGrowsUptoSaid : Prop := titleGrowsUptoRow.holds Try.pinned (OpenSpec.upto titleGrowsSpec)

/-- 'allongelaw13.TitleStrikes', WHERE WHAT IT READS IS OF BULK AT MOST 1048576: true; the input reads as it did. -/
def titleStrikesUptoRow : OpenClaim := { program := "ytjjfmpdhjbojfaa", sum := "54ca5c7a15bfac9534fc9905bd56a18e6864cf4ba1dde854ae5691fcecf8028f", func := "allonge/allongelaw13.TitleStrikes", spec := "titleStrikes", unfollowed := true, recurses := true, apart := false, narrowed := true }
def TitleStrikesUptoSaid : Prop := titleStrikesUptoRow.holds Try.pinned (OpenSpec.upto titleStrikesSpec)

/-- 'allongelaw13.TitleRivals', WHERE WHAT IT READS IS OF BULK AT MOST 1048576: true; the input reads as it did. -/
def titleRivalsUptoRow : OpenClaim := { program := "ytjjfmpdhjbojfaa", sum := "54ca5c7a15bfac9534fc9905bd56a18e6864cf4ba1dde854ae5691fcecf8028f", func := "allonge/allongelaw13.TitleRivals", spec := "titleRivals", unfollowed := true, recurses := true, apart := false, narrowed := true }
def TitleRivalsUptoSaid : Prop := titleRivalsUptoRow.holds Try.pinned (OpenSpec.upto titleRivalsSpec)

end Rows
end Go.Proofs.Ytjjfmpdhjbojfaa
