/-
  DERIVED. GIVEN WITH THE SEED: THE CARDS: each row of YtefchokhgdmamaaGreatDoorRows.lean that lists a variable, with what it lists TIED to the program's text (the seventh form; the later family's looks); each row that meets fmt, with fmt's text TOLD by the authors' own Lean function (tested against real Go, not proved from fmt's source: count such statements apart). THE CARD IS WHAT COUNTS. Prove the row's statement (the work); the ties are given (YtefchokhgdmamaaGreatDoorTie.lean); close each card by the builder's one call (the guide's Derived/Test/ToyasCard.lean, 'card_holds'). Laid BY PROGRAM, IN A SANDBOX (cutbox-door.mjs). By AI agents, Wed Nov 11 2026. No macro, syntax, notation, axiom, sorry.
-/
import Derived.Test.YtefchokhgdmamaaGreatDoorRows
import GoSem.ClaimSeven
namespace Go.Proofs.YtefchokhgdmamaaGreatDoor
namespace Rows

/-- THE TIED CARD OF 'allongelaw22.ClashTells'. -/
def clashTellsCard : Claim7 := { stood := { row := clashTellsRow, standIns := [], harness := (true, "a3d668e6c97eaf8f0fd00d2b197971d1e83be4dd1f3d82c91f46a6eaef084950"), looks := false }, kinds := [], alts := [], laidByText := true, laidKinds := [.widerDeep], laidTests := true, laidLooks := .later }
def ClashTellsCardSaid : Prop := Claim7.holds Tryz.pinned (.plain (OpenSpec.ofChange clashTellsSpec)) clashTellsCard

/-- THE TIED CARD OF 'allongelaw22.ClashTurns'. -/
def clashTurnsCard : Claim7 := { stood := { row := clashTurnsRow, standIns := [], harness := (true, "a3d668e6c97eaf8f0fd00d2b197971d1e83be4dd1f3d82c91f46a6eaef084950"), looks := false }, kinds := [], alts := [], laidByText := true, laidKinds := [.widerDeep], laidTests := true, laidLooks := .later }
def ClashTurnsCardSaid : Prop := Claim7.holds Tryz.pinned (.plain (OpenSpec.ofChange clashTurnsSpec)) clashTurnsCard

/-- THE TIED CARD OF 'allongelaw22.ClashSame'. -/
def clashSameCard : Claim7 := { stood := { row := clashSameRow, standIns := [], harness := (true, "a3d668e6c97eaf8f0fd00d2b197971d1e83be4dd1f3d82c91f46a6eaef084950"), looks := false }, kinds := [], alts := [], laidByText := true, laidKinds := [.widerDeep], laidTests := true, laidLooks := .later }
def ClashSameCardSaid : Prop := Claim7.holds Tryz.pinned (.plain (OpenSpec.ofChange clashSameSpec)) clashSameCard

/-- THE TIED CARD OF 'allongelaw22.ClashKnows'. -/
def clashKnowsCard : Claim7 := { stood := { row := clashKnowsRow, standIns := [], harness := (true, "a3d668e6c97eaf8f0fd00d2b197971d1e83be4dd1f3d82c91f46a6eaef084950"), looks := false }, kinds := [], alts := [], laidByText := true, laidKinds := [.widerDeep], laidTests := true, laidLooks := .later }
def ClashKnowsCardSaid : Prop := Claim7.holds Tryz.pinned (.plain (OpenSpec.ofChange clashKnowsSpec)) clashKnowsCard

/-- THE TIED CARD OF 'allongelaw22.ClashOpens'. -/
def clashOpensCard : Claim7 := { stood := { row := clashOpensRow, standIns := [], harness := (true, "a3d668e6c97eaf8f0fd00d2b197971d1e83be4dd1f3d82c91f46a6eaef084950"), looks := false }, kinds := [], alts := [], laidByText := true, laidKinds := [.widerDeep], laidTests := true, laidLooks := .later }
def ClashOpensCardSaid : Prop := Claim7.holds Tryz.pinned (.plain (OpenSpec.ofChange clashOpensSpec)) clashOpensCard

/-- THE SECOND FORM's CARD OF 'allongelaw22.ClashTells'. -/
def clashTellsUptoCard : Claim7 := { stood := { row := clashTellsUptoRow, standIns := [], harness := (true, "a3d668e6c97eaf8f0fd00d2b197971d1e83be4dd1f3d82c91f46a6eaef084950"), looks := false }, kinds := [], alts := [], laidByText := true, laidKinds := [.widerDeep], laidTests := true, laidLooks := .later }
def ClashTellsUptoCardSaid : Prop := Claim7.holds Tryz.pinned (.plain (OpenSpec.upto clashTellsSpec)) clashTellsUptoCard

/-- THE SECOND FORM's CARD OF 'allongelaw22.ClashTurns'. -/
def clashTurnsUptoCard : Claim7 := { stood := { row := clashTurnsUptoRow, standIns := [], harness := (true, "a3d668e6c97eaf8f0fd00d2b197971d1e83be4dd1f3d82c91f46a6eaef084950"), looks := false }, kinds := [], alts := [], laidByText := true, laidKinds := [.widerDeep], laidTests := true, laidLooks := .later }
def ClashTurnsUptoCardSaid : Prop := Claim7.holds Tryz.pinned (.plain (OpenSpec.upto clashTurnsSpec)) clashTurnsUptoCard

/-- THE SECOND FORM's CARD OF 'allongelaw22.ClashSame'. -/
def clashSameUptoCard : Claim7 := { stood := { row := clashSameUptoRow, standIns := [], harness := (true, "a3d668e6c97eaf8f0fd00d2b197971d1e83be4dd1f3d82c91f46a6eaef084950"), looks := false }, kinds := [], alts := [], laidByText := true, laidKinds := [.widerDeep], laidTests := true, laidLooks := .later }
def ClashSameUptoCardSaid : Prop := Claim7.holds Tryz.pinned (.plain (OpenSpec.upto clashSameSpec)) clashSameUptoCard

/-- THE SECOND FORM's CARD OF 'allongelaw22.ClashKnows'. -/
def clashKnowsUptoCard : Claim7 := { stood := { row := clashKnowsUptoRow, standIns := [], harness := (true, "a3d668e6c97eaf8f0fd00d2b197971d1e83be4dd1f3d82c91f46a6eaef084950"), looks := false }, kinds := [], alts := [], laidByText := true, laidKinds := [.widerDeep], laidTests := true, laidLooks := .later }
def ClashKnowsUptoCardSaid : Prop := Claim7.holds Tryz.pinned (.plain (OpenSpec.upto clashKnowsSpec)) clashKnowsUptoCard

/-- THE SECOND FORM's CARD OF 'allongelaw22.ClashOpens'. -/
def clashOpensUptoCard : Claim7 := { stood := { row := clashOpensUptoRow, standIns := [], harness := (true, "a3d668e6c97eaf8f0fd00d2b197971d1e83be4dd1f3d82c91f46a6eaef084950"), looks := false }, kinds := [], alts := [], laidByText := true, laidKinds := [.widerDeep], laidTests := true, laidLooks := .later }
def ClashOpensUptoCardSaid : Prop := Claim7.holds Tryz.pinned (.plain (OpenSpec.upto clashOpensSpec)) clashOpensUptoCard
end Rows
end Go.Proofs.YtefchokhgdmamaaGreatDoor
