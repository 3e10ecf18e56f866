/-
  DERIVED. GIVEN WITH THE SEED: THE CARDS: each row of YtipjidjopglknaaGreatDoorRows.lean that lists a variable, with what it lists TIED to the program's text (the seventh form; the later family's looks); each row that meets fmt, with fmt's text TOLD by the authors' own Lean function (tested against real Go, not proved from fmt's source: count such statements apart). THE CARD IS WHAT COUNTS. Prove the row's statement (the work); the ties are given (YtipjidjopglknaaGreatDoorTie.lean); close each card by the builder's one call (the guide's Derived/Test/ToyasCard.lean, 'card_holds'). Laid BY PROGRAM, IN A SANDBOX (cutbox-door.mjs). By AI agents, Wed Nov 11 2026. No macro, syntax, notation, axiom, sorry.
-/
import Derived.Test.YtipjidjopglknaaGreatDoorRows
import GoSem.ClaimSeven
namespace Go.Proofs.YtipjidjopglknaaGreatDoor
namespace Rows

/-- THE TIED CARD OF 'allongelaw21.AskTells'. -/
def askTellsCard : Claim7 := { stood := { row := askTellsRow, standIns := [], harness := (true, "ee257981351e0712bce2ea051cdae8a4ae6dce47e8025b999d2f029cc1a116ed"), looks := false }, kinds := [], alts := [], laidByText := true, laidKinds := [.widerDeep], laidTests := true, laidLooks := .later }
def AskTellsCardSaid : Prop := Claim7.holds Tryz.pinned (.plain (OpenSpec.ofChange askTellsSpec)) askTellsCard

/-- THE TIED CARD OF 'allongelaw21.AskDays'. -/
def askDaysCard : Claim7 := { stood := { row := askDaysRow, standIns := [], harness := (true, "ee257981351e0712bce2ea051cdae8a4ae6dce47e8025b999d2f029cc1a116ed"), looks := false }, kinds := [], alts := [], laidByText := true, laidKinds := [.widerDeep], laidTests := true, laidLooks := .later }
def AskDaysCardSaid : Prop := Claim7.holds Tryz.pinned (.plain (OpenSpec.ofChange askDaysSpec)) askDaysCard

/-- THE TIED CARD OF 'allongelaw21.AskNeeds'. -/
def askNeedsCard : Claim7 := { stood := { row := askNeedsRow, standIns := [], harness := (true, "ee257981351e0712bce2ea051cdae8a4ae6dce47e8025b999d2f029cc1a116ed"), looks := false }, kinds := [], alts := [], laidByText := true, laidKinds := [.widerDeep], laidTests := true, laidLooks := .later }
def AskNeedsCardSaid : Prop := Claim7.holds Tryz.pinned (.plain (OpenSpec.ofChange askNeedsSpec)) askNeedsCard

/-- THE SECOND FORM's CARD OF 'allongelaw21.AskTells'. -/
def askTellsUptoCard : Claim7 := { stood := { row := askTellsUptoRow, standIns := [], harness := (true, "ee257981351e0712bce2ea051cdae8a4ae6dce47e8025b999d2f029cc1a116ed"), looks := false }, kinds := [], alts := [], laidByText := true, laidKinds := [.widerDeep], laidTests := true, laidLooks := .later }
def AskTellsUptoCardSaid : Prop := Claim7.holds Tryz.pinned (.plain (OpenSpec.upto askTellsSpec)) askTellsUptoCard

/-- THE SECOND FORM's CARD OF 'allongelaw21.AskDays'. -/
def askDaysUptoCard : Claim7 := { stood := { row := askDaysUptoRow, standIns := [], harness := (true, "ee257981351e0712bce2ea051cdae8a4ae6dce47e8025b999d2f029cc1a116ed"), looks := false }, kinds := [], alts := [], laidByText := true, laidKinds := [.widerDeep], laidTests := true, laidLooks := .later }
def AskDaysUptoCardSaid : Prop := Claim7.holds Tryz.pinned (.plain (OpenSpec.upto askDaysSpec)) askDaysUptoCard

/-- THE SECOND FORM's CARD OF 'allongelaw21.AskNeeds'. -/
def askNeedsUptoCard : Claim7 := { stood := { row := askNeedsUptoRow, standIns := [], harness := (true, "ee257981351e0712bce2ea051cdae8a4ae6dce47e8025b999d2f029cc1a116ed"), looks := false }, kinds := [], alts := [], laidByText := true, laidKinds := [.widerDeep], laidTests := true, laidLooks := .later }
def AskNeedsUptoCardSaid : Prop := Claim7.holds Tryz.pinned (.plain (OpenSpec.upto askNeedsSpec)) askNeedsUptoCard
end Rows
end Go.Proofs.YtipjidjopglknaaGreatDoor
