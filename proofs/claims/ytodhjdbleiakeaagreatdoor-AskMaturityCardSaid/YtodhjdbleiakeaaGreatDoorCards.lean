/-
  DERIVED. GIVEN WITH THE SEED: THE CARDS: each row of YtodhjdbleiakeaaGreatDoorRows.lean that lists a variable, with what it lists TIED to the program's text (the seventh form; the later family's looks); each row that meets fmt, with fmt's text TOLD by the authors' own Lean function (tested against real Go, not proved from fmt's source: count such statements apart). THE CARD IS WHAT COUNTS. Prove the row's statement (the work); the ties are given (YtodhjdbleiakeaaGreatDoorTie.lean); close each card by the builder's one call (the guide's Derived/Test/ToyasCard.lean, 'card_holds'). Laid BY PROGRAM, IN A SANDBOX (cutbox-door.mjs). By AI agents, Wed Nov 11 2026. No macro, syntax, notation, axiom, sorry.
-/
import Derived.Test.YtodhjdbleiakeaaGreatDoorRows
import GoSem.ClaimSeven
namespace Go.Proofs.YtodhjdbleiakeaaGreatDoor
namespace Rows

/-- THE TIED CARD OF 'allongelaw23.BindTells'. -/
def bindTellsCard : Claim7 := { stood := { row := bindTellsRow, standIns := [], harness := (true, "f63d2df4e85a4d567f4c37c870b2bcfa92ac30557806e13c1a0e5996749c07ab"), looks := false }, kinds := [], alts := [], laidByText := true, laidKinds := [.widerDeep], laidTests := true, laidLooks := .later }
def BindTellsCardSaid : Prop := Claim7.holds Tryz.pinned (.plain (OpenSpec.ofChange bindTellsSpec)) bindTellsCard

/-- THE TIED CARD OF 'allongelaw49.LostDays'. -/
def lostDaysCard : Claim7 := { stood := { row := lostDaysRow, standIns := [], harness := (true, "f63d2df4e85a4d567f4c37c870b2bcfa92ac30557806e13c1a0e5996749c07ab"), looks := false }, kinds := [], alts := [], laidByText := true, laidKinds := [.widerDeep], laidTests := true, laidLooks := .later }
def LostDaysCardSaid : Prop := Claim7.holds Tryz.pinned (.plain (OpenSpec.ofChange lostDaysSpec)) lostDaysCard

/-- THE TIED CARD OF 'allongelaw49.LostObjects'. -/
def lostObjectsCard : Claim7 := { stood := { row := lostObjectsRow, standIns := [], harness := (true, "f63d2df4e85a4d567f4c37c870b2bcfa92ac30557806e13c1a0e5996749c07ab"), looks := false }, kinds := [], alts := [], laidByText := true, laidKinds := [.widerDeep], laidTests := true, laidLooks := .later }
def LostObjectsCardSaid : Prop := Claim7.holds Tryz.pinned (.plain (OpenSpec.ofChange lostObjectsSpec)) lostObjectsCard

/-- THE TIED CARD OF 'allongelaw21.AskJoins'. -/
def askJoinsCard : Claim7 := { stood := { row := askJoinsRow, standIns := [], harness := (true, "f63d2df4e85a4d567f4c37c870b2bcfa92ac30557806e13c1a0e5996749c07ab"), looks := false }, kinds := [], alts := [], laidByText := true, laidKinds := [.widerDeep], laidTests := true, laidLooks := .later }
def AskJoinsCardSaid : Prop := Claim7.holds Tryz.pinned (.plain (OpenSpec.ofChange askJoinsSpec)) askJoinsCard

/-- THE TIED CARD OF 'allongelaw24.DiligenceLater'. -/
def diligenceLaterCard : Claim7 := { stood := { row := diligenceLaterRow, standIns := [], harness := (true, "f63d2df4e85a4d567f4c37c870b2bcfa92ac30557806e13c1a0e5996749c07ab"), looks := false }, kinds := [], alts := [], laidByText := true, laidKinds := [.widerDeep], laidTests := true, laidLooks := .later }
def DiligenceLaterCardSaid : Prop := Claim7.holds Tryz.pinned (.plain (OpenSpec.ofChange diligenceLaterSpec)) diligenceLaterCard

/-- THE TIED CARD OF 'allongelaw24.DiligenceCare'. -/
def diligenceCareCard : Claim7 := { stood := { row := diligenceCareRow, standIns := [], harness := (true, "f63d2df4e85a4d567f4c37c870b2bcfa92ac30557806e13c1a0e5996749c07ab"), looks := false }, kinds := [], alts := [], laidByText := true, laidKinds := [.widerDeep], laidTests := true, laidLooks := .later }
def DiligenceCareCardSaid : Prop := Claim7.holds Tryz.pinned (.plain (OpenSpec.ofChange diligenceCareSpec)) diligenceCareCard

/-- THE TIED CARD OF 'allongelaw21.AskKnows'. -/
def askKnowsCard : Claim7 := { stood := { row := askKnowsRow, standIns := [], harness := (true, "f63d2df4e85a4d567f4c37c870b2bcfa92ac30557806e13c1a0e5996749c07ab"), looks := false }, kinds := [], alts := [], laidByText := true, laidKinds := [.widerDeep], laidTests := true, laidLooks := .later }
def AskKnowsCardSaid : Prop := Claim7.holds Tryz.pinned (.plain (OpenSpec.ofChange askKnowsSpec)) askKnowsCard

/-- THE TIED CARD OF 'allongelaw21.AskMaturity'. -/
def askMaturityCard : Claim7 := { stood := { row := askMaturityRow, standIns := [], harness := (true, "f63d2df4e85a4d567f4c37c870b2bcfa92ac30557806e13c1a0e5996749c07ab"), looks := false }, kinds := [], alts := [], laidByText := true, laidKinds := [.widerDeep], laidTests := true, laidLooks := .later }
def AskMaturityCardSaid : Prop := Claim7.holds Tryz.pinned (.plain (OpenSpec.ofChange askMaturitySpec)) askMaturityCard

/-- THE TIED CARD OF 'allongelaw39.ExposureKnows'. -/
def exposureKnowsCard : Claim7 := { stood := { row := exposureKnowsRow, standIns := [], harness := (true, "f63d2df4e85a4d567f4c37c870b2bcfa92ac30557806e13c1a0e5996749c07ab"), looks := false }, kinds := [], alts := [], laidByText := true, laidKinds := [.widerDeep], laidTests := true, laidLooks := .later }
def ExposureKnowsCardSaid : Prop := Claim7.holds Tryz.pinned (.plain (OpenSpec.ofChange exposureKnowsSpec)) exposureKnowsCard

/-- THE TIED CARD OF 'allongelaw39.ExposureOf'. -/
def exposureOfCard : Claim7 := { stood := { row := exposureOfRow, standIns := [], harness := (true, "f63d2df4e85a4d567f4c37c870b2bcfa92ac30557806e13c1a0e5996749c07ab"), looks := false }, kinds := [], alts := [], laidByText := true, laidKinds := [.widerDeep], laidTests := true, laidLooks := .later }
def ExposureOfCardSaid : Prop := Claim7.holds Tryz.pinned (.plain (OpenSpec.ofChange exposureOfSpec)) exposureOfCard

/-- THE SECOND FORM's CARD OF 'allongelaw23.BindTells'. -/
def bindTellsUptoCard : Claim7 := { stood := { row := bindTellsUptoRow, standIns := [], harness := (true, "f63d2df4e85a4d567f4c37c870b2bcfa92ac30557806e13c1a0e5996749c07ab"), looks := false }, kinds := [], alts := [], laidByText := true, laidKinds := [.widerDeep], laidTests := true, laidLooks := .later }
def BindTellsUptoCardSaid : Prop := Claim7.holds Tryz.pinned (.plain (OpenSpec.upto bindTellsSpec)) bindTellsUptoCard

/-- THE SECOND FORM's CARD OF 'allongelaw49.LostDays'. -/
def lostDaysUptoCard : Claim7 := { stood := { row := lostDaysUptoRow, standIns := [], harness := (true, "f63d2df4e85a4d567f4c37c870b2bcfa92ac30557806e13c1a0e5996749c07ab"), looks := false }, kinds := [], alts := [], laidByText := true, laidKinds := [.widerDeep], laidTests := true, laidLooks := .later }
def LostDaysUptoCardSaid : Prop := Claim7.holds Tryz.pinned (.plain (OpenSpec.upto lostDaysSpec)) lostDaysUptoCard

/-- THE SECOND FORM's CARD OF 'allongelaw49.LostObjects'. -/
def lostObjectsUptoCard : Claim7 := { stood := { row := lostObjectsUptoRow, standIns := [], harness := (true, "f63d2df4e85a4d567f4c37c870b2bcfa92ac30557806e13c1a0e5996749c07ab"), looks := false }, kinds := [], alts := [], laidByText := true, laidKinds := [.widerDeep], laidTests := true, laidLooks := .later }
def LostObjectsUptoCardSaid : Prop := Claim7.holds Tryz.pinned (.plain (OpenSpec.upto lostObjectsSpec)) lostObjectsUptoCard

/-- THE SECOND FORM's CARD OF 'allongelaw21.AskJoins'. -/
def askJoinsUptoCard : Claim7 := { stood := { row := askJoinsUptoRow, standIns := [], harness := (true, "f63d2df4e85a4d567f4c37c870b2bcfa92ac30557806e13c1a0e5996749c07ab"), looks := false }, kinds := [], alts := [], laidByText := true, laidKinds := [.widerDeep], laidTests := true, laidLooks := .later }
def AskJoinsUptoCardSaid : Prop := Claim7.holds Tryz.pinned (.plain (OpenSpec.upto askJoinsSpec)) askJoinsUptoCard

/-- THE SECOND FORM's CARD OF 'allongelaw24.DiligenceLater'. -/
def diligenceLaterUptoCard : Claim7 := { stood := { row := diligenceLaterUptoRow, standIns := [], harness := (true, "f63d2df4e85a4d567f4c37c870b2bcfa92ac30557806e13c1a0e5996749c07ab"), looks := false }, kinds := [], alts := [], laidByText := true, laidKinds := [.widerDeep], laidTests := true, laidLooks := .later }
def DiligenceLaterUptoCardSaid : Prop := Claim7.holds Tryz.pinned (.plain (OpenSpec.upto diligenceLaterSpec)) diligenceLaterUptoCard

/-- THE SECOND FORM's CARD OF 'allongelaw24.DiligenceCare'. -/
def diligenceCareUptoCard : Claim7 := { stood := { row := diligenceCareUptoRow, standIns := [], harness := (true, "f63d2df4e85a4d567f4c37c870b2bcfa92ac30557806e13c1a0e5996749c07ab"), looks := false }, kinds := [], alts := [], laidByText := true, laidKinds := [.widerDeep], laidTests := true, laidLooks := .later }
def DiligenceCareUptoCardSaid : Prop := Claim7.holds Tryz.pinned (.plain (OpenSpec.upto diligenceCareSpec)) diligenceCareUptoCard

/-- THE SECOND FORM's CARD OF 'allongelaw21.AskKnows'. -/
def askKnowsUptoCard : Claim7 := { stood := { row := askKnowsUptoRow, standIns := [], harness := (true, "f63d2df4e85a4d567f4c37c870b2bcfa92ac30557806e13c1a0e5996749c07ab"), looks := false }, kinds := [], alts := [], laidByText := true, laidKinds := [.widerDeep], laidTests := true, laidLooks := .later }
def AskKnowsUptoCardSaid : Prop := Claim7.holds Tryz.pinned (.plain (OpenSpec.upto askKnowsSpec)) askKnowsUptoCard

/-- THE SECOND FORM's CARD OF 'allongelaw21.AskMaturity'. -/
def askMaturityUptoCard : Claim7 := { stood := { row := askMaturityUptoRow, standIns := [], harness := (true, "f63d2df4e85a4d567f4c37c870b2bcfa92ac30557806e13c1a0e5996749c07ab"), looks := false }, kinds := [], alts := [], laidByText := true, laidKinds := [.widerDeep], laidTests := true, laidLooks := .later }
def AskMaturityUptoCardSaid : Prop := Claim7.holds Tryz.pinned (.plain (OpenSpec.upto askMaturitySpec)) askMaturityUptoCard

/-- THE SECOND FORM's CARD OF 'allongelaw39.ExposureKnows'. -/
def exposureKnowsUptoCard : Claim7 := { stood := { row := exposureKnowsUptoRow, standIns := [], harness := (true, "f63d2df4e85a4d567f4c37c870b2bcfa92ac30557806e13c1a0e5996749c07ab"), looks := false }, kinds := [], alts := [], laidByText := true, laidKinds := [.widerDeep], laidTests := true, laidLooks := .later }
def ExposureKnowsUptoCardSaid : Prop := Claim7.holds Tryz.pinned (.plain (OpenSpec.upto exposureKnowsSpec)) exposureKnowsUptoCard

/-- THE SECOND FORM's CARD OF 'allongelaw39.ExposureOf'. -/
def exposureOfUptoCard : Claim7 := { stood := { row := exposureOfUptoRow, standIns := [], harness := (true, "f63d2df4e85a4d567f4c37c870b2bcfa92ac30557806e13c1a0e5996749c07ab"), looks := false }, kinds := [], alts := [], laidByText := true, laidKinds := [.widerDeep], laidTests := true, laidLooks := .later }
def ExposureOfUptoCardSaid : Prop := Claim7.holds Tryz.pinned (.plain (OpenSpec.upto exposureOfSpec)) exposureOfUptoCard
end Rows
end Go.Proofs.YtodhjdbleiakeaaGreatDoor
