/-
  DERIVED. GIVEN WITH THE SEED: THE CARDS: each row of YtibbcfbmjlehcaaGreatDoorRows.lean that lists a variable, with what it lists TIED to the program's text (the seventh form; the later family's looks); each row that meets fmt, with fmt's text TOLD by the authors' own Lean function (tested against real Go, not proved from fmt's source: count such statements apart). THE CARD IS WHAT COUNTS. Prove the row's statement (the work); the ties are given (YtibbcfbmjlehcaaGreatDoorTie.lean); close each card by the builder's one call (the guide's Derived/Test/ToyasCard.lean, 'card_holds'). Laid BY PROGRAM, IN A SANDBOX (cutbox-door.mjs). By AI agents, Wed Nov 11 2026. No macro, syntax, notation, axiom, sorry.
-/
import Derived.Test.YtibbcfbmjlehcaaGreatDoorRows
import GoSem.ClaimSeven
namespace Go.Proofs.YtibbcfbmjlehcaaGreatDoor
namespace Rows

/-- THE TIED CARD OF 'allongelaw38.PriceGrows'. -/
def priceGrowsCard : Claim7 := { stood := { row := priceGrowsRow, standIns := [], harness := (true, "2eea7660366e7e750e1fdbab395b46ddf19c722c69e6af79a6e3fc0d5dd071b5"), looks := false }, kinds := [], alts := [], laidByText := true, laidKinds := [.widerDeep], laidTests := true, laidLooks := .later }
def PriceGrowsCardSaid : Prop := Claim7.holds Tryz.pinned (.plain (OpenSpec.ofChange priceGrowsSpec)) priceGrowsCard

/-- THE TIED CARD OF 'allongelaw38.PriceNames'. -/
def priceNamesCard : Claim7 := { stood := { row := priceNamesRow, standIns := [], harness := (true, "2eea7660366e7e750e1fdbab395b46ddf19c722c69e6af79a6e3fc0d5dd071b5"), looks := false }, kinds := [], alts := [], laidByText := true, laidKinds := [.widerDeep], laidTests := true, laidLooks := .later }
def PriceNamesCardSaid : Prop := Claim7.holds Tryz.pinned (.plain (OpenSpec.ofChange priceNamesSpec)) priceNamesCard

/-- THE TIED CARD OF 'allongelaw38.PriceBounds'. -/
def priceBoundsCard : Claim7 := { stood := { row := priceBoundsRow, standIns := [], harness := (true, "2eea7660366e7e750e1fdbab395b46ddf19c722c69e6af79a6e3fc0d5dd071b5"), looks := false }, kinds := [], alts := [], laidByText := true, laidKinds := [.widerDeep], laidTests := true, laidLooks := .later }
def PriceBoundsCardSaid : Prop := Claim7.holds Tryz.pinned (.plain (OpenSpec.ofChange priceBoundsSpec)) priceBoundsCard

/-- THE SECOND FORM's CARD OF 'allongelaw38.PriceGrows'. -/
def priceGrowsUptoCard : Claim7 := { stood := { row := priceGrowsUptoRow, standIns := [], harness := (true, "2eea7660366e7e750e1fdbab395b46ddf19c722c69e6af79a6e3fc0d5dd071b5"), looks := false }, kinds := [], alts := [], laidByText := true, laidKinds := [.widerDeep], laidTests := true, laidLooks := .later }
def PriceGrowsUptoCardSaid : Prop := Claim7.holds Tryz.pinned (.plain (OpenSpec.upto priceGrowsSpec)) priceGrowsUptoCard

/-- THE SECOND FORM's CARD OF 'allongelaw38.PriceNames'. -/
def priceNamesUptoCard : Claim7 := { stood := { row := priceNamesUptoRow, standIns := [], harness := (true, "2eea7660366e7e750e1fdbab395b46ddf19c722c69e6af79a6e3fc0d5dd071b5"), looks := false }, kinds := [], alts := [], laidByText := true, laidKinds := [.widerDeep], laidTests := true, laidLooks := .later }
def PriceNamesUptoCardSaid : Prop := Claim7.holds Tryz.pinned (.plain (OpenSpec.upto priceNamesSpec)) priceNamesUptoCard

/-- THE SECOND FORM's CARD OF 'allongelaw38.PriceBounds'. -/
def priceBoundsUptoCard : Claim7 := { stood := { row := priceBoundsUptoRow, standIns := [], harness := (true, "2eea7660366e7e750e1fdbab395b46ddf19c722c69e6af79a6e3fc0d5dd071b5"), looks := false }, kinds := [], alts := [], laidByText := true, laidKinds := [.widerDeep], laidTests := true, laidLooks := .later }
def PriceBoundsUptoCardSaid : Prop := Claim7.holds Tryz.pinned (.plain (OpenSpec.upto priceBoundsSpec)) priceBoundsUptoCard
end Rows
end Go.Proofs.YtibbcfbmjlehcaaGreatDoor
