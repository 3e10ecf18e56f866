/-
  DERIVED. GIVEN WITH THE SEED: THE CARDS: each row of YtepfoekldooaeaaDoorRows.lean that lists a variable, with what it lists TIED to the program's text (the seventh form; the later family's looks); each row that meets fmt, with fmt's text TOLD by the authors' own Lean function (tested against real Go, not proved from fmt's source: count such statements apart). THE CARD IS WHAT COUNTS. Prove the row's statement (the work); the ties are given (YtepfoekldooaeaaDoorTie.lean); close each card by the builder's one call (the guide's Derived/Test/ToyasCard.lean, 'card_holds'). Laid BY PROGRAM, IN A SANDBOX (cutbox-door.mjs). By AI agents, Wed Nov 11 2026. No macro, syntax, notation, axiom, sorry.
-/
import Derived.Test.YtepfoekldooaeaaDoorRows
import GoSem.ClaimSeven
namespace Go.Proofs.YtepfoekldooaeaaDoor
namespace Rows

/-- THE TIED CARD OF 'allongelaw48.EstateTaken'. -/
def estateTakenCard : Claim7 := { stood := { row := estateTakenRow, standIns := [], harness := (true, "18ff4003b293eea69141ae66121612609a958814b3c136d5b2f6fab31dcb1627"), looks := false }, kinds := [], alts := [], laidByText := true, laidKinds := [.widerDeep], laidTests := true, laidLooks := .later }
def EstateTakenCardSaid : Prop := Claim7.holds Tryd.pinned (.plain (OpenSpec.ofChange estateTakenSpec)) estateTakenCard

/-- THE SECOND FORM's CARD OF 'allongelaw48.EstateTaken'. -/
def estateTakenUptoCard : Claim7 := { stood := { row := estateTakenUptoRow, standIns := [], harness := (true, "18ff4003b293eea69141ae66121612609a958814b3c136d5b2f6fab31dcb1627"), looks := false }, kinds := [], alts := [], laidByText := true, laidKinds := [.widerDeep], laidTests := true, laidLooks := .later }
def EstateTakenUptoCardSaid : Prop := Claim7.holds Tryd.pinned (.plain (OpenSpec.upto estateTakenSpec)) estateTakenUptoCard
end Rows
end Go.Proofs.YtepfoekldooaeaaDoor
