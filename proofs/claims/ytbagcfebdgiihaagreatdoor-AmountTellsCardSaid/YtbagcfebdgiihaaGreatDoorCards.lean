/-
  DERIVED. GIVEN WITH THE SEED: THE CARDS: each row of YtbagcfebdgiihaaGreatDoorRows.lean that lists a variable, with what it lists TIED to the program's text (the seventh form; the later family's looks); each row that meets fmt, with fmt's text TOLD by the authors' own Lean function (tested against real Go, not proved from fmt's source: count such statements apart). THE CARD IS WHAT COUNTS. Prove the row's statement (the work); the ties are given (YtbagcfebdgiihaaGreatDoorTie.lean); close each card by the builder's one call (the guide's Derived/Test/ToyasCard.lean, 'card_holds'). Laid BY PROGRAM, IN A SANDBOX (cutbox-door.mjs). By AI agents, Wed Nov 11 2026. No macro, syntax, notation, axiom, sorry.
-/
import Derived.Test.YtbagcfebdgiihaaGreatDoorRows
import GoSem.ClaimSeven
namespace Go.Proofs.YtbagcfebdgiihaaGreatDoor
namespace Rows

/-- THE TIED CARD OF 'allongelaw25.AmountTells'. -/
def amountTellsCard : Claim7 := { stood := { row := amountTellsRow, standIns := [], harness := (true, "c1019dbb3a86099b2c42288fd1752d5b08e866cf7016f27c5744f8829eeea34b"), looks := false }, kinds := [], alts := [], laidByText := true, laidKinds := [.widerDeep], laidTests := true, laidLooks := .later }
def AmountTellsCardSaid : Prop := Claim7.holds Tryz.pinned (.plain (OpenSpec.ofChange amountTellsSpec)) amountTellsCard

/-- THE TIED CARD OF 'allongelaw39.ExposureKnows'. -/
def exposureKnowsCard : Claim7 := { stood := { row := exposureKnowsRow, standIns := [], harness := (true, "c1019dbb3a86099b2c42288fd1752d5b08e866cf7016f27c5744f8829eeea34b"), looks := false }, kinds := [], alts := [], laidByText := true, laidKinds := [.widerDeep], laidTests := true, laidLooks := .later }
def ExposureKnowsCardSaid : Prop := Claim7.holds Tryz.pinned (.plain (OpenSpec.ofChange exposureKnowsSpec)) exposureKnowsCard

/-- THE TIED CARD OF 'allongelaw39.ExposureOf'. -/
def exposureOfCard : Claim7 := { stood := { row := exposureOfRow, standIns := [], harness := (true, "c1019dbb3a86099b2c42288fd1752d5b08e866cf7016f27c5744f8829eeea34b"), looks := false }, kinds := [], alts := [], laidByText := true, laidKinds := [.widerDeep], laidTests := true, laidLooks := .later }
def ExposureOfCardSaid : Prop := Claim7.holds Tryz.pinned (.plain (OpenSpec.ofChange exposureOfSpec)) exposureOfCard

/-- THE SECOND FORM's CARD OF 'allongelaw25.AmountTells'. -/
def amountTellsUptoCard : Claim7 := { stood := { row := amountTellsUptoRow, standIns := [], harness := (true, "c1019dbb3a86099b2c42288fd1752d5b08e866cf7016f27c5744f8829eeea34b"), looks := false }, kinds := [], alts := [], laidByText := true, laidKinds := [.widerDeep], laidTests := true, laidLooks := .later }
def AmountTellsUptoCardSaid : Prop := Claim7.holds Tryz.pinned (.plain (OpenSpec.upto amountTellsSpec)) amountTellsUptoCard

/-- THE SECOND FORM's CARD OF 'allongelaw39.ExposureKnows'. -/
def exposureKnowsUptoCard : Claim7 := { stood := { row := exposureKnowsUptoRow, standIns := [], harness := (true, "c1019dbb3a86099b2c42288fd1752d5b08e866cf7016f27c5744f8829eeea34b"), looks := false }, kinds := [], alts := [], laidByText := true, laidKinds := [.widerDeep], laidTests := true, laidLooks := .later }
def ExposureKnowsUptoCardSaid : Prop := Claim7.holds Tryz.pinned (.plain (OpenSpec.upto exposureKnowsSpec)) exposureKnowsUptoCard

/-- THE SECOND FORM's CARD OF 'allongelaw39.ExposureOf'. -/
def exposureOfUptoCard : Claim7 := { stood := { row := exposureOfUptoRow, standIns := [], harness := (true, "c1019dbb3a86099b2c42288fd1752d5b08e866cf7016f27c5744f8829eeea34b"), looks := false }, kinds := [], alts := [], laidByText := true, laidKinds := [.widerDeep], laidTests := true, laidLooks := .later }
def ExposureOfUptoCardSaid : Prop := Claim7.holds Tryz.pinned (.plain (OpenSpec.upto exposureOfSpec)) exposureOfUptoCard
end Rows
end Go.Proofs.YtbagcfebdgiihaaGreatDoor
