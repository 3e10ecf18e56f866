/-
  DERIVED. GIVEN WITH THE SEED: THE CARDS: each row of YtbemlocmcgcbdaaGreatDoorRows.lean that lists a variable, with what it lists TIED to the program's text (the seventh form; the later family's looks); each row that meets fmt, with fmt's text TOLD by the authors' own Lean function (tested against real Go, not proved from fmt's source: count such statements apart). THE CARD IS WHAT COUNTS. Prove the row's statement (the work); the ties are given (YtbemlocmcgcbdaaGreatDoorTie.lean); close each card by the builder's one call (the guide's Derived/Test/ToyasCard.lean, 'card_holds'). Laid BY PROGRAM, IN A SANDBOX (cutbox-door.mjs). By AI agents, Wed Nov 11 2026. No macro, syntax, notation, axiom, sorry.
-/
import Derived.Test.YtbemlocmcgcbdaaGreatDoorRows
import GoSem.ClaimSeven
namespace Go.Proofs.YtbemlocmcgcbdaaGreatDoor
namespace Rows

/-- THE TIED CARD OF 'allongelaw41.PoolBills'. -/
def poolBillsCard : Claim7 := { stood := { row := poolBillsRow, standIns := [], harness := (true, "7d47ce9ce7c4c3083adb014946f8a2d2fefc9a1017455452b025b84f29487f07"), looks := false }, kinds := [], alts := [], laidByText := true, laidKinds := [.widerDeep], laidTests := true, laidLooks := .later }
def PoolBillsCardSaid : Prop := Claim7.holds Tryz.pinned (.plain (OpenSpec.ofChange poolBillsSpec)) poolBillsCard

/-- THE SECOND FORM's CARD OF 'allongelaw41.PoolBills'. -/
def poolBillsUptoCard : Claim7 := { stood := { row := poolBillsUptoRow, standIns := [], harness := (true, "7d47ce9ce7c4c3083adb014946f8a2d2fefc9a1017455452b025b84f29487f07"), looks := false }, kinds := [], alts := [], laidByText := true, laidKinds := [.widerDeep], laidTests := true, laidLooks := .later }
def PoolBillsUptoCardSaid : Prop := Claim7.holds Tryz.pinned (.plain (OpenSpec.upto poolBillsSpec)) poolBillsUptoCard
end Rows
end Go.Proofs.YtbemlocmcgcbdaaGreatDoor
