/-
  DERIVED. GIVEN WITH THE SEED: THE CARDS: each row of YtepfoekldooaeaaGreatDoorRows.lean that lists a variable, with what it lists TIED to the program's text (the seventh form; the later family's looks); each row that meets fmt, with fmt's text TOLD by the authors' own Lean function (tested against real Go, not proved from fmt's source: count such statements apart). THE CARD IS WHAT COUNTS. Prove the row's statement (the work); the ties are given (YtepfoekldooaeaaGreatDoorTie.lean); close each card by the builder's one call (the guide's Derived/Test/ToyasCard.lean, 'card_holds'). Laid BY PROGRAM, IN A SANDBOX (cutbox-door.mjs). By AI agents, Wed Nov 11 2026. No macro, syntax, notation, axiom, sorry.
-/
import Derived.Test.YtepfoekldooaeaaGreatDoorRows
import GoSem.ClaimSeven
namespace Go.Proofs.YtepfoekldooaeaaGreatDoor
namespace Rows

/-- THE TIED CARD OF 'allongelaw49.LostHolder'. -/
def lostHolderCard : Claim7 := { stood := { row := lostHolderRow, standIns := [], harness := (true, "c296379279b6b365cad427ea6039c54041c40be79fae0d5486415967cf0ef3f9"), looks := false }, kinds := [], alts := [], laidByText := true, laidKinds := [.widerDeep], laidTests := true, laidLooks := .later }
def LostHolderCardSaid : Prop := Claim7.holds Tryz.pinned (.plain (OpenSpec.ofChange lostHolderSpec)) lostHolderCard

/-- THE TIED CARD OF 'allongelaw49.LostDays'. -/
def lostDaysCard : Claim7 := { stood := { row := lostDaysRow, standIns := [], harness := (true, "c296379279b6b365cad427ea6039c54041c40be79fae0d5486415967cf0ef3f9"), looks := false }, kinds := [], alts := [], laidByText := true, laidKinds := [.widerDeep], laidTests := true, laidLooks := .later }
def LostDaysCardSaid : Prop := Claim7.holds Tryz.pinned (.plain (OpenSpec.ofChange lostDaysSpec)) lostDaysCard

/-- THE TIED CARD OF 'allongelaw49.LostObjects'. -/
def lostObjectsCard : Claim7 := { stood := { row := lostObjectsRow, standIns := [], harness := (true, "c296379279b6b365cad427ea6039c54041c40be79fae0d5486415967cf0ef3f9"), looks := false }, kinds := [], alts := [], laidByText := true, laidKinds := [.widerDeep], laidTests := true, laidLooks := .later }
def LostObjectsCardSaid : Prop := Claim7.holds Tryz.pinned (.plain (OpenSpec.ofChange lostObjectsSpec)) lostObjectsCard

/-- THE TIED CARD OF 'allongelaw24.DiligenceKnows'. -/
def diligenceKnowsCard : Claim7 := { stood := { row := diligenceKnowsRow, standIns := [], harness := (true, "c296379279b6b365cad427ea6039c54041c40be79fae0d5486415967cf0ef3f9"), looks := false }, kinds := [], alts := [], laidByText := true, laidKinds := [.widerDeep], laidTests := true, laidLooks := .later }
def DiligenceKnowsCardSaid : Prop := Claim7.holds Tryz.pinned (.plain (OpenSpec.ofChange diligenceKnowsSpec)) diligenceKnowsCard

/-- THE TIED CARD OF 'allongelaw24.DiligenceLater'. -/
def diligenceLaterCard : Claim7 := { stood := { row := diligenceLaterRow, standIns := [], harness := (true, "c296379279b6b365cad427ea6039c54041c40be79fae0d5486415967cf0ef3f9"), looks := false }, kinds := [], alts := [], laidByText := true, laidKinds := [.widerDeep], laidTests := true, laidLooks := .later }
def DiligenceLaterCardSaid : Prop := Claim7.holds Tryz.pinned (.plain (OpenSpec.ofChange diligenceLaterSpec)) diligenceLaterCard

/-- THE TIED CARD OF 'allongelaw24.DiligenceAnd'. -/
def diligenceAndCard : Claim7 := { stood := { row := diligenceAndRow, standIns := [], harness := (true, "c296379279b6b365cad427ea6039c54041c40be79fae0d5486415967cf0ef3f9"), looks := false }, kinds := [], alts := [], laidByText := true, laidKinds := [.widerDeep], laidTests := true, laidLooks := .later }
def DiligenceAndCardSaid : Prop := Claim7.holds Tryz.pinned (.plain (OpenSpec.ofChange diligenceAndSpec)) diligenceAndCard

/-- THE TIED CARD OF 'allongelaw49.LostBinds'. -/
def lostBindsCard : Claim7 := { stood := { row := lostBindsRow, standIns := [], harness := (true, "c296379279b6b365cad427ea6039c54041c40be79fae0d5486415967cf0ef3f9"), looks := false }, kinds := [], alts := [], laidByText := true, laidKinds := [.widerDeep], laidTests := true, laidLooks := .later }
def LostBindsCardSaid : Prop := Claim7.holds Tryz.pinned (.plain (OpenSpec.ofChange lostBindsSpec)) lostBindsCard

/-- THE TIED CARD OF 'allongelaw25.AmountKnows'. -/
def amountKnowsCard : Claim7 := { stood := { row := amountKnowsRow, standIns := [], harness := (true, "c296379279b6b365cad427ea6039c54041c40be79fae0d5486415967cf0ef3f9"), looks := false }, kinds := [], alts := [], laidByText := true, laidKinds := [.widerDeep], laidTests := true, laidLooks := .later }
def AmountKnowsCardSaid : Prop := Claim7.holds Tryz.pinned (.plain (OpenSpec.ofChange amountKnowsSpec)) amountKnowsCard

/-- THE TIED CARD OF 'allongelaw25.AmountParts'. -/
def amountPartsCard : Claim7 := { stood := { row := amountPartsRow, standIns := [], harness := (true, "c296379279b6b365cad427ea6039c54041c40be79fae0d5486415967cf0ef3f9"), looks := false }, kinds := [], alts := [], laidByText := true, laidKinds := [.widerDeep], laidTests := true, laidLooks := .later }
def AmountPartsCardSaid : Prop := Claim7.holds Tryz.pinned (.plain (OpenSpec.ofChange amountPartsSpec)) amountPartsCard

/-- THE TIED CARD OF 'allongelaw25.AmountCosts'. -/
def amountCostsCard : Claim7 := { stood := { row := amountCostsRow, standIns := [], harness := (true, "c296379279b6b365cad427ea6039c54041c40be79fae0d5486415967cf0ef3f9"), looks := false }, kinds := [], alts := [], laidByText := true, laidKinds := [.widerDeep], laidTests := true, laidLooks := .later }
def AmountCostsCardSaid : Prop := Claim7.holds Tryz.pinned (.plain (OpenSpec.ofChange amountCostsSpec)) amountCostsCard

/-- THE TIED CARD OF 'allongelaw25.AmountDays'. -/
def amountDaysCard : Claim7 := { stood := { row := amountDaysRow, standIns := [], harness := (true, "c296379279b6b365cad427ea6039c54041c40be79fae0d5486415967cf0ef3f9"), looks := false }, kinds := [], alts := [], laidByText := true, laidKinds := [.widerDeep], laidTests := true, laidLooks := .later }
def AmountDaysCardSaid : Prop := Claim7.holds Tryz.pinned (.plain (OpenSpec.ofChange amountDaysSpec)) amountDaysCard

/-- THE SECOND FORM's CARD OF 'allongelaw49.LostHolder'. -/
def lostHolderUptoCard : Claim7 := { stood := { row := lostHolderUptoRow, standIns := [], harness := (true, "c296379279b6b365cad427ea6039c54041c40be79fae0d5486415967cf0ef3f9"), looks := false }, kinds := [], alts := [], laidByText := true, laidKinds := [.widerDeep], laidTests := true, laidLooks := .later }
def LostHolderUptoCardSaid : Prop := Claim7.holds Tryz.pinned (.plain (OpenSpec.upto lostHolderSpec)) lostHolderUptoCard

/-- THE SECOND FORM's CARD OF 'allongelaw49.LostDays'. -/
def lostDaysUptoCard : Claim7 := { stood := { row := lostDaysUptoRow, standIns := [], harness := (true, "c296379279b6b365cad427ea6039c54041c40be79fae0d5486415967cf0ef3f9"), looks := false }, kinds := [], alts := [], laidByText := true, laidKinds := [.widerDeep], laidTests := true, laidLooks := .later }
def LostDaysUptoCardSaid : Prop := Claim7.holds Tryz.pinned (.plain (OpenSpec.upto lostDaysSpec)) lostDaysUptoCard

/-- THE SECOND FORM's CARD OF 'allongelaw49.LostObjects'. -/
def lostObjectsUptoCard : Claim7 := { stood := { row := lostObjectsUptoRow, standIns := [], harness := (true, "c296379279b6b365cad427ea6039c54041c40be79fae0d5486415967cf0ef3f9"), looks := false }, kinds := [], alts := [], laidByText := true, laidKinds := [.widerDeep], laidTests := true, laidLooks := .later }
def LostObjectsUptoCardSaid : Prop := Claim7.holds Tryz.pinned (.plain (OpenSpec.upto lostObjectsSpec)) lostObjectsUptoCard

/-- THE SECOND FORM's CARD OF 'allongelaw24.DiligenceKnows'. -/
def diligenceKnowsUptoCard : Claim7 := { stood := { row := diligenceKnowsUptoRow, standIns := [], harness := (true, "c296379279b6b365cad427ea6039c54041c40be79fae0d5486415967cf0ef3f9"), looks := false }, kinds := [], alts := [], laidByText := true, laidKinds := [.widerDeep], laidTests := true, laidLooks := .later }
def DiligenceKnowsUptoCardSaid : Prop := Claim7.holds Tryz.pinned (.plain (OpenSpec.upto diligenceKnowsSpec)) diligenceKnowsUptoCard

/-- THE SECOND FORM's CARD OF 'allongelaw24.DiligenceLater'. -/
def diligenceLaterUptoCard : Claim7 := { stood := { row := diligenceLaterUptoRow, standIns := [], harness := (true, "c296379279b6b365cad427ea6039c54041c40be79fae0d5486415967cf0ef3f9"), looks := false }, kinds := [], alts := [], laidByText := true, laidKinds := [.widerDeep], laidTests := true, laidLooks := .later }
def DiligenceLaterUptoCardSaid : Prop := Claim7.holds Tryz.pinned (.plain (OpenSpec.upto diligenceLaterSpec)) diligenceLaterUptoCard

/-- THE SECOND FORM's CARD OF 'allongelaw24.DiligenceAnd'. -/
def diligenceAndUptoCard : Claim7 := { stood := { row := diligenceAndUptoRow, standIns := [], harness := (true, "c296379279b6b365cad427ea6039c54041c40be79fae0d5486415967cf0ef3f9"), looks := false }, kinds := [], alts := [], laidByText := true, laidKinds := [.widerDeep], laidTests := true, laidLooks := .later }
def DiligenceAndUptoCardSaid : Prop := Claim7.holds Tryz.pinned (.plain (OpenSpec.upto diligenceAndSpec)) diligenceAndUptoCard

/-- THE SECOND FORM's CARD OF 'allongelaw49.LostBinds'. -/
def lostBindsUptoCard : Claim7 := { stood := { row := lostBindsUptoRow, standIns := [], harness := (true, "c296379279b6b365cad427ea6039c54041c40be79fae0d5486415967cf0ef3f9"), looks := false }, kinds := [], alts := [], laidByText := true, laidKinds := [.widerDeep], laidTests := true, laidLooks := .later }
def LostBindsUptoCardSaid : Prop := Claim7.holds Tryz.pinned (.plain (OpenSpec.upto lostBindsSpec)) lostBindsUptoCard

/-- THE SECOND FORM's CARD OF 'allongelaw25.AmountKnows'. -/
def amountKnowsUptoCard : Claim7 := { stood := { row := amountKnowsUptoRow, standIns := [], harness := (true, "c296379279b6b365cad427ea6039c54041c40be79fae0d5486415967cf0ef3f9"), looks := false }, kinds := [], alts := [], laidByText := true, laidKinds := [.widerDeep], laidTests := true, laidLooks := .later }
def AmountKnowsUptoCardSaid : Prop := Claim7.holds Tryz.pinned (.plain (OpenSpec.upto amountKnowsSpec)) amountKnowsUptoCard

/-- THE SECOND FORM's CARD OF 'allongelaw25.AmountParts'. -/
def amountPartsUptoCard : Claim7 := { stood := { row := amountPartsUptoRow, standIns := [], harness := (true, "c296379279b6b365cad427ea6039c54041c40be79fae0d5486415967cf0ef3f9"), looks := false }, kinds := [], alts := [], laidByText := true, laidKinds := [.widerDeep], laidTests := true, laidLooks := .later }
def AmountPartsUptoCardSaid : Prop := Claim7.holds Tryz.pinned (.plain (OpenSpec.upto amountPartsSpec)) amountPartsUptoCard

/-- THE SECOND FORM's CARD OF 'allongelaw25.AmountCosts'. -/
def amountCostsUptoCard : Claim7 := { stood := { row := amountCostsUptoRow, standIns := [], harness := (true, "c296379279b6b365cad427ea6039c54041c40be79fae0d5486415967cf0ef3f9"), looks := false }, kinds := [], alts := [], laidByText := true, laidKinds := [.widerDeep], laidTests := true, laidLooks := .later }
def AmountCostsUptoCardSaid : Prop := Claim7.holds Tryz.pinned (.plain (OpenSpec.upto amountCostsSpec)) amountCostsUptoCard

/-- THE SECOND FORM's CARD OF 'allongelaw25.AmountDays'. -/
def amountDaysUptoCard : Claim7 := { stood := { row := amountDaysUptoRow, standIns := [], harness := (true, "c296379279b6b365cad427ea6039c54041c40be79fae0d5486415967cf0ef3f9"), looks := false }, kinds := [], alts := [], laidByText := true, laidKinds := [.widerDeep], laidTests := true, laidLooks := .later }
def AmountDaysUptoCardSaid : Prop := Claim7.holds Tryz.pinned (.plain (OpenSpec.upto amountDaysSpec)) amountDaysUptoCard
end Rows
end Go.Proofs.YtepfoekldooaeaaGreatDoor
