/-
  DERIVED. GIVEN WITH THE SEED: THE CARDS: each row of YtmnnipoiigfapaaGreatDoorRows.lean that lists a variable, with what it lists TIED to the program's text (the seventh form; the later family's looks); each row that meets fmt, with fmt's text TOLD by the authors' own Lean function (tested against real Go, not proved from fmt's source: count such statements apart). THE CARD IS WHAT COUNTS. Prove the row's statement (the work); the ties are given (YtmnnipoiigfapaaGreatDoorTie.lean); close each card by the builder's one call (the guide's Derived/Test/ToyasCard.lean, 'card_holds'). Laid BY PROGRAM, IN A SANDBOX (cutbox-door.mjs). By AI agents, Wed Nov 11 2026. No macro, syntax, notation, axiom, sorry.
-/
import Derived.Test.YtmnnipoiigfapaaGreatDoorRows
import GoSem.ClaimSeven
namespace Go.Proofs.YtmnnipoiigfapaaGreatDoor
namespace Rows

/-- THE TIED CARD OF 'allongelaw49.LostHolder'. -/
def lostHolderCard : Claim7 := { stood := { row := lostHolderRow, standIns := [], harness := (true, "a399b5fb3ed0115138ca3e91a0991f1664a0c778265214f3fd6abae19e871963"), looks := false }, kinds := [], alts := [], laidByText := true, laidKinds := [.widerDeep], laidTests := true, laidLooks := .later }
def LostHolderCardSaid : Prop := Claim7.holds Tryz.pinned (.plain (OpenSpec.ofChange lostHolderSpec)) lostHolderCard

/-- THE TIED CARD OF 'allongelaw49.LostDays'. -/
def lostDaysCard : Claim7 := { stood := { row := lostDaysRow, standIns := [], harness := (true, "a399b5fb3ed0115138ca3e91a0991f1664a0c778265214f3fd6abae19e871963"), looks := false }, kinds := [], alts := [], laidByText := true, laidKinds := [.widerDeep], laidTests := true, laidLooks := .later }
def LostDaysCardSaid : Prop := Claim7.holds Tryz.pinned (.plain (OpenSpec.ofChange lostDaysSpec)) lostDaysCard

/-- THE TIED CARD OF 'allongelaw49.LostObjects'. -/
def lostObjectsCard : Claim7 := { stood := { row := lostObjectsRow, standIns := [], harness := (true, "a399b5fb3ed0115138ca3e91a0991f1664a0c778265214f3fd6abae19e871963"), looks := false }, kinds := [], alts := [], laidByText := true, laidKinds := [.widerDeep], laidTests := true, laidLooks := .later }
def LostObjectsCardSaid : Prop := Claim7.holds Tryz.pinned (.plain (OpenSpec.ofChange lostObjectsSpec)) lostObjectsCard

/-- THE TIED CARD OF 'allongelaw49.LostBinds'. -/
def lostBindsCard : Claim7 := { stood := { row := lostBindsRow, standIns := [], harness := (true, "a399b5fb3ed0115138ca3e91a0991f1664a0c778265214f3fd6abae19e871963"), looks := false }, kinds := [], alts := [], laidByText := true, laidKinds := [.widerDeep], laidTests := true, laidLooks := .later }
def LostBindsCardSaid : Prop := Claim7.holds Tryz.pinned (.plain (OpenSpec.ofChange lostBindsSpec)) lostBindsCard

/-- THE SECOND FORM's CARD OF 'allongelaw49.LostHolder'. -/
def lostHolderUptoCard : Claim7 := { stood := { row := lostHolderUptoRow, standIns := [], harness := (true, "a399b5fb3ed0115138ca3e91a0991f1664a0c778265214f3fd6abae19e871963"), looks := false }, kinds := [], alts := [], laidByText := true, laidKinds := [.widerDeep], laidTests := true, laidLooks := .later }
def LostHolderUptoCardSaid : Prop := Claim7.holds Tryz.pinned (.plain (OpenSpec.upto lostHolderSpec)) lostHolderUptoCard

/-- THE SECOND FORM's CARD OF 'allongelaw49.LostDays'. -/
def lostDaysUptoCard : Claim7 := { stood := { row := lostDaysUptoRow, standIns := [], harness := (true, "a399b5fb3ed0115138ca3e91a0991f1664a0c778265214f3fd6abae19e871963"), looks := false }, kinds := [], alts := [], laidByText := true, laidKinds := [.widerDeep], laidTests := true, laidLooks := .later }
def LostDaysUptoCardSaid : Prop := Claim7.holds Tryz.pinned (.plain (OpenSpec.upto lostDaysSpec)) lostDaysUptoCard

/-- THE SECOND FORM's CARD OF 'allongelaw49.LostObjects'. -/
def lostObjectsUptoCard : Claim7 := { stood := { row := lostObjectsUptoRow, standIns := [], harness := (true, "a399b5fb3ed0115138ca3e91a0991f1664a0c778265214f3fd6abae19e871963"), looks := false }, kinds := [], alts := [], laidByText := true, laidKinds := [.widerDeep], laidTests := true, laidLooks := .later }
def LostObjectsUptoCardSaid : Prop := Claim7.holds Tryz.pinned (.plain (OpenSpec.upto lostObjectsSpec)) lostObjectsUptoCard

/-- THE SECOND FORM's CARD OF 'allongelaw49.LostBinds'. -/
def lostBindsUptoCard : Claim7 := { stood := { row := lostBindsUptoRow, standIns := [], harness := (true, "a399b5fb3ed0115138ca3e91a0991f1664a0c778265214f3fd6abae19e871963"), looks := false }, kinds := [], alts := [], laidByText := true, laidKinds := [.widerDeep], laidTests := true, laidLooks := .later }
def LostBindsUptoCardSaid : Prop := Claim7.holds Tryz.pinned (.plain (OpenSpec.upto lostBindsSpec)) lostBindsUptoCard
end Rows
end Go.Proofs.YtmnnipoiigfapaaGreatDoor
