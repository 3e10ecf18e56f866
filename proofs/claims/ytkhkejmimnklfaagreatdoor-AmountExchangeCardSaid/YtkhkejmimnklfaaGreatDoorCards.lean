/-
  DERIVED. GIVEN WITH THE SEED: THE CARDS: each row of YtkhkejmimnklfaaGreatDoorRows.lean that lists a variable, with what it lists TIED to the program's text (the seventh form; the later family's looks); each row that meets fmt, with fmt's text TOLD by the authors' own Lean function (tested against real Go, not proved from fmt's source: count such statements apart). THE CARD IS WHAT COUNTS. Prove the row's statement (the work); the ties are given (YtkhkejmimnklfaaGreatDoorTie.lean); close each card by the builder's one call (the guide's Derived/Test/ToyasCard.lean, 'card_holds'). Laid BY PROGRAM, IN A SANDBOX (cutbox-door.mjs). By AI agents, Wed Nov 11 2026. No macro, syntax, notation, axiom, sorry.
-/
import Derived.Test.YtkhkejmimnklfaaGreatDoorRows
import GoSem.ClaimSeven
namespace Go.Proofs.YtkhkejmimnklfaaGreatDoor
namespace Rows

/-- THE TIED CARD OF 'allongelaw22.ClashTurns'. -/
def clashTurnsCard : Claim7 := { stood := { row := clashTurnsRow, standIns := [], harness := (true, "0c4efc3bfab166a1186ce4ea93942d9373863cbba0f96f15dd9c48c5f9b01c8e"), looks := false }, kinds := [], alts := [], laidByText := true, laidKinds := [.widerDeep], laidTests := true, laidLooks := .later }
def ClashTurnsCardSaid : Prop := Claim7.holds Tryz.pinned (.plain (OpenSpec.ofChange clashTurnsSpec)) clashTurnsCard

/-- THE TIED CARD OF 'allongelaw22.ClashSame'. -/
def clashSameCard : Claim7 := { stood := { row := clashSameRow, standIns := [], harness := (true, "0c4efc3bfab166a1186ce4ea93942d9373863cbba0f96f15dd9c48c5f9b01c8e"), looks := false }, kinds := [], alts := [], laidByText := true, laidKinds := [.widerDeep], laidTests := true, laidLooks := .later }
def ClashSameCardSaid : Prop := Claim7.holds Tryz.pinned (.plain (OpenSpec.ofChange clashSameSpec)) clashSameCard

/-- THE TIED CARD OF 'allongelaw22.ClashKnows'. -/
def clashKnowsCard : Claim7 := { stood := { row := clashKnowsRow, standIns := [], harness := (true, "0c4efc3bfab166a1186ce4ea93942d9373863cbba0f96f15dd9c48c5f9b01c8e"), looks := false }, kinds := [], alts := [], laidByText := true, laidKinds := [.widerDeep], laidTests := true, laidLooks := .later }
def ClashKnowsCardSaid : Prop := Claim7.holds Tryz.pinned (.plain (OpenSpec.ofChange clashKnowsSpec)) clashKnowsCard

/-- THE TIED CARD OF 'allongelaw22.ClashOpens'. -/
def clashOpensCard : Claim7 := { stood := { row := clashOpensRow, standIns := [], harness := (true, "0c4efc3bfab166a1186ce4ea93942d9373863cbba0f96f15dd9c48c5f9b01c8e"), looks := false }, kinds := [], alts := [], laidByText := true, laidKinds := [.widerDeep], laidTests := true, laidLooks := .later }
def ClashOpensCardSaid : Prop := Claim7.holds Tryz.pinned (.plain (OpenSpec.ofChange clashOpensSpec)) clashOpensCard

/-- THE TIED CARD OF 'allongelaw21.AskJoins'. -/
def askJoinsCard : Claim7 := { stood := { row := askJoinsRow, standIns := [], harness := (true, "0c4efc3bfab166a1186ce4ea93942d9373863cbba0f96f15dd9c48c5f9b01c8e"), looks := false }, kinds := [], alts := [], laidByText := true, laidKinds := [.widerDeep], laidTests := true, laidLooks := .later }
def AskJoinsCardSaid : Prop := Claim7.holds Tryz.pinned (.plain (OpenSpec.ofChange askJoinsSpec)) askJoinsCard

/-- THE TIED CARD OF 'allongelaw24.DiligenceCare'. -/
def diligenceCareCard : Claim7 := { stood := { row := diligenceCareRow, standIns := [], harness := (true, "0c4efc3bfab166a1186ce4ea93942d9373863cbba0f96f15dd9c48c5f9b01c8e"), looks := false }, kinds := [], alts := [], laidByText := true, laidKinds := [.widerDeep], laidTests := true, laidLooks := .later }
def DiligenceCareCardSaid : Prop := Claim7.holds Tryz.pinned (.plain (OpenSpec.ofChange diligenceCareSpec)) diligenceCareCard

/-- THE TIED CARD OF 'allongelaw25.AmountExchange'. -/
def amountExchangeCard : Claim7 := { stood := { row := amountExchangeRow, standIns := [], harness := (true, "0c4efc3bfab166a1186ce4ea93942d9373863cbba0f96f15dd9c48c5f9b01c8e"), looks := false }, kinds := [], alts := [], laidByText := true, laidKinds := [.widerDeep], laidTests := true, laidLooks := .later }
def AmountExchangeCardSaid : Prop := Claim7.holds Tryz.pinned (.plain (OpenSpec.ofChange amountExchangeSpec)) amountExchangeCard

/-- THE TIED CARD OF 'allongelaw21.AskKnows'. -/
def askKnowsCard : Claim7 := { stood := { row := askKnowsRow, standIns := [], harness := (true, "0c4efc3bfab166a1186ce4ea93942d9373863cbba0f96f15dd9c48c5f9b01c8e"), looks := false }, kinds := [], alts := [], laidByText := true, laidKinds := [.widerDeep], laidTests := true, laidLooks := .later }
def AskKnowsCardSaid : Prop := Claim7.holds Tryz.pinned (.plain (OpenSpec.ofChange askKnowsSpec)) askKnowsCard

/-- THE TIED CARD OF 'allongelaw21.AskMaturity'. -/
def askMaturityCard : Claim7 := { stood := { row := askMaturityRow, standIns := [], harness := (true, "0c4efc3bfab166a1186ce4ea93942d9373863cbba0f96f15dd9c48c5f9b01c8e"), looks := false }, kinds := [], alts := [], laidByText := true, laidKinds := [.widerDeep], laidTests := true, laidLooks := .later }
def AskMaturityCardSaid : Prop := Claim7.holds Tryz.pinned (.plain (OpenSpec.ofChange askMaturitySpec)) askMaturityCard

/-- THE SECOND FORM's CARD OF 'allongelaw22.ClashTurns'. -/
def clashTurnsUptoCard : Claim7 := { stood := { row := clashTurnsUptoRow, standIns := [], harness := (true, "0c4efc3bfab166a1186ce4ea93942d9373863cbba0f96f15dd9c48c5f9b01c8e"), looks := false }, kinds := [], alts := [], laidByText := true, laidKinds := [.widerDeep], laidTests := true, laidLooks := .later }
def ClashTurnsUptoCardSaid : Prop := Claim7.holds Tryz.pinned (.plain (OpenSpec.upto clashTurnsSpec)) clashTurnsUptoCard

/-- THE SECOND FORM's CARD OF 'allongelaw22.ClashSame'. -/
def clashSameUptoCard : Claim7 := { stood := { row := clashSameUptoRow, standIns := [], harness := (true, "0c4efc3bfab166a1186ce4ea93942d9373863cbba0f96f15dd9c48c5f9b01c8e"), looks := false }, kinds := [], alts := [], laidByText := true, laidKinds := [.widerDeep], laidTests := true, laidLooks := .later }
def ClashSameUptoCardSaid : Prop := Claim7.holds Tryz.pinned (.plain (OpenSpec.upto clashSameSpec)) clashSameUptoCard

/-- THE SECOND FORM's CARD OF 'allongelaw22.ClashKnows'. -/
def clashKnowsUptoCard : Claim7 := { stood := { row := clashKnowsUptoRow, standIns := [], harness := (true, "0c4efc3bfab166a1186ce4ea93942d9373863cbba0f96f15dd9c48c5f9b01c8e"), looks := false }, kinds := [], alts := [], laidByText := true, laidKinds := [.widerDeep], laidTests := true, laidLooks := .later }
def ClashKnowsUptoCardSaid : Prop := Claim7.holds Tryz.pinned (.plain (OpenSpec.upto clashKnowsSpec)) clashKnowsUptoCard

/-- THE SECOND FORM's CARD OF 'allongelaw22.ClashOpens'. -/
def clashOpensUptoCard : Claim7 := { stood := { row := clashOpensUptoRow, standIns := [], harness := (true, "0c4efc3bfab166a1186ce4ea93942d9373863cbba0f96f15dd9c48c5f9b01c8e"), looks := false }, kinds := [], alts := [], laidByText := true, laidKinds := [.widerDeep], laidTests := true, laidLooks := .later }
def ClashOpensUptoCardSaid : Prop := Claim7.holds Tryz.pinned (.plain (OpenSpec.upto clashOpensSpec)) clashOpensUptoCard

/-- THE SECOND FORM's CARD OF 'allongelaw21.AskJoins'. -/
def askJoinsUptoCard : Claim7 := { stood := { row := askJoinsUptoRow, standIns := [], harness := (true, "0c4efc3bfab166a1186ce4ea93942d9373863cbba0f96f15dd9c48c5f9b01c8e"), looks := false }, kinds := [], alts := [], laidByText := true, laidKinds := [.widerDeep], laidTests := true, laidLooks := .later }
def AskJoinsUptoCardSaid : Prop := Claim7.holds Tryz.pinned (.plain (OpenSpec.upto askJoinsSpec)) askJoinsUptoCard

/-- THE SECOND FORM's CARD OF 'allongelaw24.DiligenceCare'. -/
def diligenceCareUptoCard : Claim7 := { stood := { row := diligenceCareUptoRow, standIns := [], harness := (true, "0c4efc3bfab166a1186ce4ea93942d9373863cbba0f96f15dd9c48c5f9b01c8e"), looks := false }, kinds := [], alts := [], laidByText := true, laidKinds := [.widerDeep], laidTests := true, laidLooks := .later }
def DiligenceCareUptoCardSaid : Prop := Claim7.holds Tryz.pinned (.plain (OpenSpec.upto diligenceCareSpec)) diligenceCareUptoCard

/-- THE SECOND FORM's CARD OF 'allongelaw25.AmountExchange'. -/
def amountExchangeUptoCard : Claim7 := { stood := { row := amountExchangeUptoRow, standIns := [], harness := (true, "0c4efc3bfab166a1186ce4ea93942d9373863cbba0f96f15dd9c48c5f9b01c8e"), looks := false }, kinds := [], alts := [], laidByText := true, laidKinds := [.widerDeep], laidTests := true, laidLooks := .later }
def AmountExchangeUptoCardSaid : Prop := Claim7.holds Tryz.pinned (.plain (OpenSpec.upto amountExchangeSpec)) amountExchangeUptoCard

/-- THE SECOND FORM's CARD OF 'allongelaw21.AskKnows'. -/
def askKnowsUptoCard : Claim7 := { stood := { row := askKnowsUptoRow, standIns := [], harness := (true, "0c4efc3bfab166a1186ce4ea93942d9373863cbba0f96f15dd9c48c5f9b01c8e"), looks := false }, kinds := [], alts := [], laidByText := true, laidKinds := [.widerDeep], laidTests := true, laidLooks := .later }
def AskKnowsUptoCardSaid : Prop := Claim7.holds Tryz.pinned (.plain (OpenSpec.upto askKnowsSpec)) askKnowsUptoCard

/-- THE SECOND FORM's CARD OF 'allongelaw21.AskMaturity'. -/
def askMaturityUptoCard : Claim7 := { stood := { row := askMaturityUptoRow, standIns := [], harness := (true, "0c4efc3bfab166a1186ce4ea93942d9373863cbba0f96f15dd9c48c5f9b01c8e"), looks := false }, kinds := [], alts := [], laidByText := true, laidKinds := [.widerDeep], laidTests := true, laidLooks := .later }
def AskMaturityUptoCardSaid : Prop := Claim7.holds Tryz.pinned (.plain (OpenSpec.upto askMaturitySpec)) askMaturityUptoCard
end Rows
end Go.Proofs.YtkhkejmimnklfaaGreatDoor
