/-
  DERIVED. GIVEN WITH THE SEED: THE CARDS: each row of YtopjnikcppafdaaGreatDoorRows.lean that lists a variable, with what it lists TIED to the program's text (the seventh form; the later family's looks); each row that meets fmt, with fmt's text TOLD by the authors' own Lean function (tested against real Go, not proved from fmt's source: count such statements apart). THE CARD IS WHAT COUNTS. Prove the row's statement (the work); the ties are given (YtopjnikcppafdaaGreatDoorTie.lean); close each card by the builder's one call (the guide's Derived/Test/ToyasCard.lean, 'card_holds'). Laid BY PROGRAM, IN A SANDBOX (cutbox-door.mjs). By AI agents, Wed Nov 11 2026. No macro, syntax, notation, axiom, sorry.
-/
import Derived.Test.YtopjnikcppafdaaGreatDoorRows
import GoSem.ClaimSeven
namespace Go.Proofs.YtopjnikcppafdaaGreatDoor
namespace Rows

/-- THE TIED CARD OF 'allongelaw38.PriceSigns'. -/
def priceSignsCard : Claim7 := { stood := { row := priceSignsRow, standIns := [], harness := (true, "5b8767a4af669ce6224829762ff8e4143423812e43ed4f5ff6d28c068a8b4b5f"), looks := false }, kinds := [], alts := [], laidByText := true, laidKinds := [.widerDeep], laidTests := true, laidLooks := .later }
def PriceSignsCardSaid : Prop := Claim7.holds Tryz.pinned (.plain (OpenSpec.ofChange priceSignsSpec)) priceSignsCard

/-- THE TIED CARD OF 'allongelaw38.PriceRatio'. -/
def priceRatioCard : Claim7 := { stood := { row := priceRatioRow, standIns := [], harness := (true, "5b8767a4af669ce6224829762ff8e4143423812e43ed4f5ff6d28c068a8b4b5f"), looks := false }, kinds := [], alts := [], laidByText := true, laidKinds := [.widerDeep], laidTests := true, laidLooks := .later }
def PriceRatioCardSaid : Prop := Claim7.holds Tryz.pinned (.plain (OpenSpec.ofChange priceRatioSpec)) priceRatioCard

/-- THE SECOND FORM's CARD OF 'allongelaw38.PriceSigns'. -/
def priceSignsUptoCard : Claim7 := { stood := { row := priceSignsUptoRow, standIns := [], harness := (true, "5b8767a4af669ce6224829762ff8e4143423812e43ed4f5ff6d28c068a8b4b5f"), looks := false }, kinds := [], alts := [], laidByText := true, laidKinds := [.widerDeep], laidTests := true, laidLooks := .later }
def PriceSignsUptoCardSaid : Prop := Claim7.holds Tryz.pinned (.plain (OpenSpec.upto priceSignsSpec)) priceSignsUptoCard

/-- THE SECOND FORM's CARD OF 'allongelaw38.PriceRatio'. -/
def priceRatioUptoCard : Claim7 := { stood := { row := priceRatioUptoRow, standIns := [], harness := (true, "5b8767a4af669ce6224829762ff8e4143423812e43ed4f5ff6d28c068a8b4b5f"), looks := false }, kinds := [], alts := [], laidByText := true, laidKinds := [.widerDeep], laidTests := true, laidLooks := .later }
def PriceRatioUptoCardSaid : Prop := Claim7.holds Tryz.pinned (.plain (OpenSpec.upto priceRatioSpec)) priceRatioUptoCard
end Rows
end Go.Proofs.YtopjnikcppafdaaGreatDoor
