/-
  DERIVED. GIVEN WITH THE SEED: THE CARDS: each row of YtbeeplempgffoaaGreatDoorRows.lean that lists a variable, with what it lists TIED to the program's text (the seventh form; the later family's looks); each row that meets fmt, with fmt's text TOLD by the authors' own Lean function (tested against real Go, not proved from fmt's source: count such statements apart). THE CARD IS WHAT COUNTS. Prove the row's statement (the work); the ties are given (YtbeeplempgffoaaGreatDoorTie.lean); close each card by the builder's one call (the guide's Derived/Test/ToyasCard.lean, 'card_holds'). Laid BY PROGRAM, IN A SANDBOX (cutbox-door.mjs). By AI agents, Wed Nov 11 2026. No macro, syntax, notation, axiom, sorry.
-/
import Derived.Test.YtbeeplempgffoaaGreatDoorRows
import GoSem.ClaimSeven
namespace Go.Proofs.YtbeeplempgffoaaGreatDoor
namespace Rows

/-- THE TIED CARD OF 'allongelaw23.BindTells'. -/
def bindTellsCard : Claim7 := { stood := { row := bindTellsRow, standIns := [], harness := (true, "910bf8ab54894ccb151465f318fbcff65847677fe2ce5caded0b63ef4e76dca1"), looks := false }, kinds := [], alts := [], laidByText := true, laidKinds := [.widerDeep], laidTests := true, laidLooks := .later }
def BindTellsCardSaid : Prop := Claim7.holds Tryz.pinned (.plain (OpenSpec.ofChange bindTellsSpec)) bindTellsCard

/-- THE TIED CARD OF 'allongelaw24.DiligenceCare'. -/
def diligenceCareCard : Claim7 := { stood := { row := diligenceCareRow, standIns := [], harness := (true, "910bf8ab54894ccb151465f318fbcff65847677fe2ce5caded0b63ef4e76dca1"), looks := false }, kinds := [], alts := [], laidByText := true, laidKinds := [.widerDeep], laidTests := true, laidLooks := .later }
def DiligenceCareCardSaid : Prop := Claim7.holds Tryz.pinned (.plain (OpenSpec.ofChange diligenceCareSpec)) diligenceCareCard

/-- THE SECOND FORM's CARD OF 'allongelaw23.BindTells'. -/
def bindTellsUptoCard : Claim7 := { stood := { row := bindTellsUptoRow, standIns := [], harness := (true, "910bf8ab54894ccb151465f318fbcff65847677fe2ce5caded0b63ef4e76dca1"), looks := false }, kinds := [], alts := [], laidByText := true, laidKinds := [.widerDeep], laidTests := true, laidLooks := .later }
def BindTellsUptoCardSaid : Prop := Claim7.holds Tryz.pinned (.plain (OpenSpec.upto bindTellsSpec)) bindTellsUptoCard

/-- THE SECOND FORM's CARD OF 'allongelaw24.DiligenceCare'. -/
def diligenceCareUptoCard : Claim7 := { stood := { row := diligenceCareUptoRow, standIns := [], harness := (true, "910bf8ab54894ccb151465f318fbcff65847677fe2ce5caded0b63ef4e76dca1"), looks := false }, kinds := [], alts := [], laidByText := true, laidKinds := [.widerDeep], laidTests := true, laidLooks := .later }
def DiligenceCareUptoCardSaid : Prop := Claim7.holds Tryz.pinned (.plain (OpenSpec.upto diligenceCareSpec)) diligenceCareUptoCard
end Rows
end Go.Proofs.YtbeeplempgffoaaGreatDoor
