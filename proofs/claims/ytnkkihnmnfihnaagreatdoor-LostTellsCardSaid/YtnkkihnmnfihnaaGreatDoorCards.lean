/-
  DERIVED. GIVEN WITH THE SEED: THE CARDS: each row of YtnkkihnmnfihnaaGreatDoorRows.lean that lists a variable, with what it lists TIED to the program's text (the seventh form; the later family's looks); each row that meets fmt, with fmt's text TOLD by the authors' own Lean function (tested against real Go, not proved from fmt's source: count such statements apart). THE CARD IS WHAT COUNTS. Prove the row's statement (the work); the ties are given (YtnkkihnmnfihnaaGreatDoorTie.lean); close each card by the builder's one call (the guide's Derived/Test/ToyasCard.lean, 'card_holds'). Laid BY PROGRAM, IN A SANDBOX (cutbox-door.mjs). By AI agents, Wed Nov 11 2026. No macro, syntax, notation, axiom, sorry.
-/
import Derived.Test.YtnkkihnmnfihnaaGreatDoorRows
import GoSem.ClaimSeven
namespace Go.Proofs.YtnkkihnmnfihnaaGreatDoor
namespace Rows

/-- THE TIED CARD OF 'allongelaw49.LostTells'. -/
def lostTellsCard : Claim7 := { stood := { row := lostTellsRow, standIns := [], harness := (true, "f38cdb830bb2f9ec9f5a3a0ceaf9dae3f78515116c1fbe1b3564571f842021fc"), looks := false }, kinds := [], alts := [], laidByText := true, laidKinds := [.widerDeep], laidTests := true, laidLooks := .later }
def LostTellsCardSaid : Prop := Claim7.holds Tryz.pinned (.plain (OpenSpec.ofChange lostTellsSpec)) lostTellsCard

/-- THE SECOND FORM's CARD OF 'allongelaw49.LostTells'. -/
def lostTellsUptoCard : Claim7 := { stood := { row := lostTellsUptoRow, standIns := [], harness := (true, "f38cdb830bb2f9ec9f5a3a0ceaf9dae3f78515116c1fbe1b3564571f842021fc"), looks := false }, kinds := [], alts := [], laidByText := true, laidKinds := [.widerDeep], laidTests := true, laidLooks := .later }
def LostTellsUptoCardSaid : Prop := Claim7.holds Tryz.pinned (.plain (OpenSpec.upto lostTellsSpec)) lostTellsUptoCard
end Rows
end Go.Proofs.YtnkkihnmnfihnaaGreatDoor
