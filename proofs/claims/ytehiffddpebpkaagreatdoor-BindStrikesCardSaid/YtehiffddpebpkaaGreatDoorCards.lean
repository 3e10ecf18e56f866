/-
  DERIVED. GIVEN WITH THE SEED: THE CARDS: each row of YtehiffddpebpkaaGreatDoorRows.lean that lists a variable, with what it lists TIED to the program's text (the seventh form; the later family's looks); each row that meets fmt, with fmt's text TOLD by the authors' own Lean function (tested against real Go, not proved from fmt's source: count such statements apart). THE CARD IS WHAT COUNTS. Prove the row's statement (the work); the ties are given (YtehiffddpebpkaaGreatDoorTie.lean); close each card by the builder's one call (the guide's Derived/Test/ToyasCard.lean, 'card_holds'). Laid BY PROGRAM, IN A SANDBOX (cutbox-door.mjs). By AI agents, Wed Nov 11 2026. No macro, syntax, notation, axiom, sorry.
-/
import Derived.Test.YtehiffddpebpkaaGreatDoorRows
import GoSem.ClaimSeven
namespace Go.Proofs.YtehiffddpebpkaaGreatDoor
namespace Rows

/-- THE TIED CARD OF 'allongelaw23.BindTells'. -/
def bindTellsCard : Claim7 := { stood := { row := bindTellsRow, standIns := [], harness := (true, "7a89ebd8fe6190d5882d4bc529bbf5bee1142d07dde37d8d178d5560bbb31a51"), looks := false }, kinds := [], alts := [], laidByText := true, laidKinds := [.widerDeep], laidTests := true, laidLooks := .later }
def BindTellsCardSaid : Prop := Claim7.holds Tryz.pinned (.plain (OpenSpec.ofChange bindTellsSpec)) bindTellsCard

/-- THE TIED CARD OF 'allongelaw23.BindAlone'. -/
def bindAloneCard : Claim7 := { stood := { row := bindAloneRow, standIns := [], harness := (true, "7a89ebd8fe6190d5882d4bc529bbf5bee1142d07dde37d8d178d5560bbb31a51"), looks := false }, kinds := [], alts := [], laidByText := true, laidKinds := [.widerDeep], laidTests := true, laidLooks := .later }
def BindAloneCardSaid : Prop := Claim7.holds Tryz.pinned (.plain (OpenSpec.ofChange bindAloneSpec)) bindAloneCard

/-- THE TIED CARD OF 'allongelaw23.BindGrows'. -/
def bindGrowsCard : Claim7 := { stood := { row := bindGrowsRow, standIns := [], harness := (true, "7a89ebd8fe6190d5882d4bc529bbf5bee1142d07dde37d8d178d5560bbb31a51"), looks := false }, kinds := [], alts := [], laidByText := true, laidKinds := [.widerDeep], laidTests := true, laidLooks := .later }
def BindGrowsCardSaid : Prop := Claim7.holds Tryz.pinned (.plain (OpenSpec.ofChange bindGrowsSpec)) bindGrowsCard

/-- THE TIED CARD OF 'allongelaw23.BindStrikes'. -/
def bindStrikesCard : Claim7 := { stood := { row := bindStrikesRow, standIns := [], harness := (true, "7a89ebd8fe6190d5882d4bc529bbf5bee1142d07dde37d8d178d5560bbb31a51"), looks := false }, kinds := [], alts := [], laidByText := true, laidKinds := [.widerDeep], laidTests := true, laidLooks := .later }
def BindStrikesCardSaid : Prop := Claim7.holds Tryz.pinned (.plain (OpenSpec.ofChange bindStrikesSpec)) bindStrikesCard

/-- THE TIED CARD OF 'allongelaw22.ClashSame'. -/
def clashSameCard : Claim7 := { stood := { row := clashSameRow, standIns := [], harness := (true, "7a89ebd8fe6190d5882d4bc529bbf5bee1142d07dde37d8d178d5560bbb31a51"), looks := false }, kinds := [], alts := [], laidByText := true, laidKinds := [.widerDeep], laidTests := true, laidLooks := .later }
def ClashSameCardSaid : Prop := Claim7.holds Tryz.pinned (.plain (OpenSpec.ofChange clashSameSpec)) clashSameCard

/-- THE TIED CARD OF 'allongelaw22.ClashKnows'. -/
def clashKnowsCard : Claim7 := { stood := { row := clashKnowsRow, standIns := [], harness := (true, "7a89ebd8fe6190d5882d4bc529bbf5bee1142d07dde37d8d178d5560bbb31a51"), looks := false }, kinds := [], alts := [], laidByText := true, laidKinds := [.widerDeep], laidTests := true, laidLooks := .later }
def ClashKnowsCardSaid : Prop := Claim7.holds Tryz.pinned (.plain (OpenSpec.ofChange clashKnowsSpec)) clashKnowsCard

/-- THE TIED CARD OF 'allongelaw21.AskTells'. -/
def askTellsCard : Claim7 := { stood := { row := askTellsRow, standIns := [], harness := (true, "7a89ebd8fe6190d5882d4bc529bbf5bee1142d07dde37d8d178d5560bbb31a51"), looks := false }, kinds := [], alts := [], laidByText := true, laidKinds := [.widerDeep], laidTests := true, laidLooks := .later }
def AskTellsCardSaid : Prop := Claim7.holds Tryz.pinned (.plain (OpenSpec.ofChange askTellsSpec)) askTellsCard

/-- THE TIED CARD OF 'allongelaw21.AskJoins'. -/
def askJoinsCard : Claim7 := { stood := { row := askJoinsRow, standIns := [], harness := (true, "7a89ebd8fe6190d5882d4bc529bbf5bee1142d07dde37d8d178d5560bbb31a51"), looks := false }, kinds := [], alts := [], laidByText := true, laidKinds := [.widerDeep], laidTests := true, laidLooks := .later }
def AskJoinsCardSaid : Prop := Claim7.holds Tryz.pinned (.plain (OpenSpec.ofChange askJoinsSpec)) askJoinsCard

/-- THE TIED CARD OF 'allongelaw21.AskDays'. -/
def askDaysCard : Claim7 := { stood := { row := askDaysRow, standIns := [], harness := (true, "7a89ebd8fe6190d5882d4bc529bbf5bee1142d07dde37d8d178d5560bbb31a51"), looks := false }, kinds := [], alts := [], laidByText := true, laidKinds := [.widerDeep], laidTests := true, laidLooks := .later }
def AskDaysCardSaid : Prop := Claim7.holds Tryz.pinned (.plain (OpenSpec.ofChange askDaysSpec)) askDaysCard

/-- THE TIED CARD OF 'allongelaw21.AskKnows'. -/
def askKnowsCard : Claim7 := { stood := { row := askKnowsRow, standIns := [], harness := (true, "7a89ebd8fe6190d5882d4bc529bbf5bee1142d07dde37d8d178d5560bbb31a51"), looks := false }, kinds := [], alts := [], laidByText := true, laidKinds := [.widerDeep], laidTests := true, laidLooks := .later }
def AskKnowsCardSaid : Prop := Claim7.holds Tryz.pinned (.plain (OpenSpec.ofChange askKnowsSpec)) askKnowsCard

/-- THE TIED CARD OF 'allongelaw21.AskNeeds'. -/
def askNeedsCard : Claim7 := { stood := { row := askNeedsRow, standIns := [], harness := (true, "7a89ebd8fe6190d5882d4bc529bbf5bee1142d07dde37d8d178d5560bbb31a51"), looks := false }, kinds := [], alts := [], laidByText := true, laidKinds := [.widerDeep], laidTests := true, laidLooks := .later }
def AskNeedsCardSaid : Prop := Claim7.holds Tryz.pinned (.plain (OpenSpec.ofChange askNeedsSpec)) askNeedsCard

/-- THE TIED CARD OF 'allongelaw21.AskMaturity'. -/
def askMaturityCard : Claim7 := { stood := { row := askMaturityRow, standIns := [], harness := (true, "7a89ebd8fe6190d5882d4bc529bbf5bee1142d07dde37d8d178d5560bbb31a51"), looks := false }, kinds := [], alts := [], laidByText := true, laidKinds := [.widerDeep], laidTests := true, laidLooks := .later }
def AskMaturityCardSaid : Prop := Claim7.holds Tryz.pinned (.plain (OpenSpec.ofChange askMaturitySpec)) askMaturityCard

/-- THE SECOND FORM's CARD OF 'allongelaw23.BindTells'. -/
def bindTellsUptoCard : Claim7 := { stood := { row := bindTellsUptoRow, standIns := [], harness := (true, "7a89ebd8fe6190d5882d4bc529bbf5bee1142d07dde37d8d178d5560bbb31a51"), looks := false }, kinds := [], alts := [], laidByText := true, laidKinds := [.widerDeep], laidTests := true, laidLooks := .later }
def BindTellsUptoCardSaid : Prop := Claim7.holds Tryz.pinned (.plain (OpenSpec.upto bindTellsSpec)) bindTellsUptoCard

/-- THE SECOND FORM's CARD OF 'allongelaw23.BindAlone'. -/
def bindAloneUptoCard : Claim7 := { stood := { row := bindAloneUptoRow, standIns := [], harness := (true, "7a89ebd8fe6190d5882d4bc529bbf5bee1142d07dde37d8d178d5560bbb31a51"), looks := false }, kinds := [], alts := [], laidByText := true, laidKinds := [.widerDeep], laidTests := true, laidLooks := .later }
def BindAloneUptoCardSaid : Prop := Claim7.holds Tryz.pinned (.plain (OpenSpec.upto bindAloneSpec)) bindAloneUptoCard

/-- THE SECOND FORM's CARD OF 'allongelaw23.BindGrows'. -/
def bindGrowsUptoCard : Claim7 := { stood := { row := bindGrowsUptoRow, standIns := [], harness := (true, "7a89ebd8fe6190d5882d4bc529bbf5bee1142d07dde37d8d178d5560bbb31a51"), looks := false }, kinds := [], alts := [], laidByText := true, laidKinds := [.widerDeep], laidTests := true, laidLooks := .later }
def BindGrowsUptoCardSaid : Prop := Claim7.holds Tryz.pinned (.plain (OpenSpec.upto bindGrowsSpec)) bindGrowsUptoCard

/-- THE SECOND FORM's CARD OF 'allongelaw23.BindStrikes'. -/
def bindStrikesUptoCard : Claim7 := { stood := { row := bindStrikesUptoRow, standIns := [], harness := (true, "7a89ebd8fe6190d5882d4bc529bbf5bee1142d07dde37d8d178d5560bbb31a51"), looks := false }, kinds := [], alts := [], laidByText := true, laidKinds := [.widerDeep], laidTests := true, laidLooks := .later }
def BindStrikesUptoCardSaid : Prop := Claim7.holds Tryz.pinned (.plain (OpenSpec.upto bindStrikesSpec)) bindStrikesUptoCard

/-- THE SECOND FORM's CARD OF 'allongelaw22.ClashSame'. -/
def clashSameUptoCard : Claim7 := { stood := { row := clashSameUptoRow, standIns := [], harness := (true, "7a89ebd8fe6190d5882d4bc529bbf5bee1142d07dde37d8d178d5560bbb31a51"), looks := false }, kinds := [], alts := [], laidByText := true, laidKinds := [.widerDeep], laidTests := true, laidLooks := .later }
def ClashSameUptoCardSaid : Prop := Claim7.holds Tryz.pinned (.plain (OpenSpec.upto clashSameSpec)) clashSameUptoCard

/-- THE SECOND FORM's CARD OF 'allongelaw22.ClashKnows'. -/
def clashKnowsUptoCard : Claim7 := { stood := { row := clashKnowsUptoRow, standIns := [], harness := (true, "7a89ebd8fe6190d5882d4bc529bbf5bee1142d07dde37d8d178d5560bbb31a51"), looks := false }, kinds := [], alts := [], laidByText := true, laidKinds := [.widerDeep], laidTests := true, laidLooks := .later }
def ClashKnowsUptoCardSaid : Prop := Claim7.holds Tryz.pinned (.plain (OpenSpec.upto clashKnowsSpec)) clashKnowsUptoCard

/-- THE SECOND FORM's CARD OF 'allongelaw21.AskTells'. -/
def askTellsUptoCard : Claim7 := { stood := { row := askTellsUptoRow, standIns := [], harness := (true, "7a89ebd8fe6190d5882d4bc529bbf5bee1142d07dde37d8d178d5560bbb31a51"), looks := false }, kinds := [], alts := [], laidByText := true, laidKinds := [.widerDeep], laidTests := true, laidLooks := .later }
def AskTellsUptoCardSaid : Prop := Claim7.holds Tryz.pinned (.plain (OpenSpec.upto askTellsSpec)) askTellsUptoCard

/-- THE SECOND FORM's CARD OF 'allongelaw21.AskJoins'. -/
def askJoinsUptoCard : Claim7 := { stood := { row := askJoinsUptoRow, standIns := [], harness := (true, "7a89ebd8fe6190d5882d4bc529bbf5bee1142d07dde37d8d178d5560bbb31a51"), looks := false }, kinds := [], alts := [], laidByText := true, laidKinds := [.widerDeep], laidTests := true, laidLooks := .later }
def AskJoinsUptoCardSaid : Prop := Claim7.holds Tryz.pinned (.plain (OpenSpec.upto askJoinsSpec)) askJoinsUptoCard

/-- THE SECOND FORM's CARD OF 'allongelaw21.AskDays'. -/
def askDaysUptoCard : Claim7 := { stood := { row := askDaysUptoRow, standIns := [], harness := (true, "7a89ebd8fe6190d5882d4bc529bbf5bee1142d07dde37d8d178d5560bbb31a51"), looks := false }, kinds := [], alts := [], laidByText := true, laidKinds := [.widerDeep], laidTests := true, laidLooks := .later }
def AskDaysUptoCardSaid : Prop := Claim7.holds Tryz.pinned (.plain (OpenSpec.upto askDaysSpec)) askDaysUptoCard

/-- THE SECOND FORM's CARD OF 'allongelaw21.AskKnows'. -/
def askKnowsUptoCard : Claim7 := { stood := { row := askKnowsUptoRow, standIns := [], harness := (true, "7a89ebd8fe6190d5882d4bc529bbf5bee1142d07dde37d8d178d5560bbb31a51"), looks := false }, kinds := [], alts := [], laidByText := true, laidKinds := [.widerDeep], laidTests := true, laidLooks := .later }
def AskKnowsUptoCardSaid : Prop := Claim7.holds Tryz.pinned (.plain (OpenSpec.upto askKnowsSpec)) askKnowsUptoCard

/-- THE SECOND FORM's CARD OF 'allongelaw21.AskNeeds'. -/
def askNeedsUptoCard : Claim7 := { stood := { row := askNeedsUptoRow, standIns := [], harness := (true, "7a89ebd8fe6190d5882d4bc529bbf5bee1142d07dde37d8d178d5560bbb31a51"), looks := false }, kinds := [], alts := [], laidByText := true, laidKinds := [.widerDeep], laidTests := true, laidLooks := .later }
def AskNeedsUptoCardSaid : Prop := Claim7.holds Tryz.pinned (.plain (OpenSpec.upto askNeedsSpec)) askNeedsUptoCard

/-- THE SECOND FORM's CARD OF 'allongelaw21.AskMaturity'. -/
def askMaturityUptoCard : Claim7 := { stood := { row := askMaturityUptoRow, standIns := [], harness := (true, "7a89ebd8fe6190d5882d4bc529bbf5bee1142d07dde37d8d178d5560bbb31a51"), looks := false }, kinds := [], alts := [], laidByText := true, laidKinds := [.widerDeep], laidTests := true, laidLooks := .later }
def AskMaturityUptoCardSaid : Prop := Claim7.holds Tryz.pinned (.plain (OpenSpec.upto askMaturitySpec)) askMaturityUptoCard
end Rows
end Go.Proofs.YtehiffddpebpkaaGreatDoor
