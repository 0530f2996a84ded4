/-
  DERIVED. GIVEN WITH THE SEED: THE CARDS: each row of YtlfillhffpiffaaDoorRows.lean that lists a variable, with what it lists TIED to the program's text (the seventh form; the later family's looks); each row that meets fmt, with fmt's text TOLD by the authors' own Lean function (tested against real Go, not proved from fmt's source: count such statements apart). THE CARD IS WHAT COUNTS. Prove the row's statement (the work); the ties are given (YtlfillhffpiffaaDoorTie.lean); close each card by the builder's one call (the guide's Derived/Test/ToyasCard.lean, 'card_holds'). Laid BY PROGRAM, IN A SANDBOX (cutbox-door.mjs). By AI agents, Wed Nov 11 2026. No macro, syntax, notation, axiom, sorry.
-/
import Derived.Test.YtlfillhffpiffaaDoorRows
import GoSem.ClaimSeven
namespace Go.Proofs.YtlfillhffpiffaaDoor
namespace Rows

/-- THE TIED CARD OF 'trammellaw8.Rows'. -/
def rowsCard : Claim7 := { stood := { row := rowsRow, standIns := [], harness := (true, "2dba2de7876eea66e96cac6cd31bebb381486c7b06b07d1b175b5b1b8b9e717d"), looks := false }, kinds := [], alts := [], laidByText := true, laidKinds := [.data, .data, .data], laidTests := true, laidLooks := .later }
def RowsCardSaid : Prop := Claim7.holds Tryd.pinned (.plain (OpenSpec.ofChange rowsSpec)) rowsCard

/-- THE TIED CARD OF 'trammellaw8.RowSolves'. -/
def rowSolvesCard : Claim7 := { stood := { row := rowSolvesRow, standIns := [], harness := (true, "2dba2de7876eea66e96cac6cd31bebb381486c7b06b07d1b175b5b1b8b9e717d"), looks := false }, kinds := [], alts := [], laidByText := true, laidKinds := [.data, .data, .data], laidTests := true, laidLooks := .later }
def RowSolvesCardSaid : Prop := Claim7.holds Tryd.pinned (.plain (OpenSpec.ofChange rowSolvesSpec)) rowSolvesCard

/-- THE TIED CARD OF 'trammellaw8.RowForms'. -/
def rowFormsCard : Claim7 := { stood := { row := rowFormsRow, standIns := [], harness := (true, "2dba2de7876eea66e96cac6cd31bebb381486c7b06b07d1b175b5b1b8b9e717d"), looks := false }, kinds := [], alts := [], laidByText := true, laidKinds := [.data, .data, .data], laidTests := true, laidLooks := .later }
def RowFormsCardSaid : Prop := Claim7.holds Tryd.pinned (.plain (OpenSpec.ofChange rowFormsSpec)) rowFormsCard

/-- THE TIED CARD OF 'trammellaw8.RowSwap'. -/
def rowSwapCard : Claim7 := { stood := { row := rowSwapRow, standIns := [], harness := (true, "2dba2de7876eea66e96cac6cd31bebb381486c7b06b07d1b175b5b1b8b9e717d"), looks := false }, kinds := [], alts := [], laidByText := true, laidKinds := [.data, .data, .data], laidTests := true, laidLooks := .later }
def RowSwapCardSaid : Prop := Claim7.holds Tryd.pinned (.plain (OpenSpec.ofChange rowSwapSpec)) rowSwapCard

/-- THE TIED CARD OF 'trammellaw8.RowTexts'. -/
def rowTextsCard : Claim7 := { stood := { row := rowTextsRow, standIns := [], harness := (true, "2dba2de7876eea66e96cac6cd31bebb381486c7b06b07d1b175b5b1b8b9e717d"), looks := false }, kinds := [], alts := [], laidByText := true, laidKinds := [.data, .data, .data], laidTests := true, laidLooks := .later }
def RowTextsCardSaid : Prop := Claim7.holds Tryd.pinned (.plain (OpenSpec.ofChange rowTextsSpec)) rowTextsCard

/-- THE TIED CARD OF 'trammellaw8.RowPure'. -/
def rowPureCard : Claim7 := { stood := { row := rowPureRow, standIns := [], harness := (true, "2dba2de7876eea66e96cac6cd31bebb381486c7b06b07d1b175b5b1b8b9e717d"), looks := false }, kinds := [], alts := [], laidByText := true, laidKinds := [.data, .data, .data], laidTests := true, laidLooks := .later }
def RowPureCardSaid : Prop := Claim7.holds Tryd.pinned (.plain (OpenSpec.ofChange rowPureSpec)) rowPureCard

/-- THE TIED CARD OF 'trammellaw11.Matches'. -/
def matchesCard : Claim7 := { stood := { row := matchesRow, standIns := [], harness := (true, "2dba2de7876eea66e96cac6cd31bebb381486c7b06b07d1b175b5b1b8b9e717d"), looks := false }, kinds := [], alts := [], laidByText := true, laidKinds := [.data, .data, .data], laidTests := true, laidLooks := .later }
def MatchesCardSaid : Prop := Claim7.holds Tryd.pinned (.plain (OpenSpec.ofChange matchesSpec)) matchesCard

/-- THE TIED CARD OF 'trammellaw11.MatchBoth'. -/
def matchBothCard : Claim7 := { stood := { row := matchBothRow, standIns := [], harness := (true, "2dba2de7876eea66e96cac6cd31bebb381486c7b06b07d1b175b5b1b8b9e717d"), looks := false }, kinds := [], alts := [], laidByText := true, laidKinds := [.data, .data, .data], laidTests := true, laidLooks := .later }
def MatchBothCardSaid : Prop := Claim7.holds Tryd.pinned (.plain (OpenSpec.ofChange matchBothSpec)) matchBothCard

/-- THE TIED CARD OF 'trammellaw11.MatchRows'. -/
def matchRowsCard : Claim7 := { stood := { row := matchRowsRow, standIns := [], harness := (true, "2dba2de7876eea66e96cac6cd31bebb381486c7b06b07d1b175b5b1b8b9e717d"), looks := false }, kinds := [], alts := [], laidByText := true, laidKinds := [.data, .data, .data], laidTests := true, laidLooks := .later }
def MatchRowsCardSaid : Prop := Claim7.holds Tryd.pinned (.plain (OpenSpec.ofChange matchRowsSpec)) matchRowsCard

/-- THE TIED CARD OF 'trammellaw11.MatchKinds'. -/
def matchKindsCard : Claim7 := { stood := { row := matchKindsRow, standIns := [], harness := (true, "2dba2de7876eea66e96cac6cd31bebb381486c7b06b07d1b175b5b1b8b9e717d"), looks := false }, kinds := [], alts := [], laidByText := true, laidKinds := [.data, .data, .data], laidTests := true, laidLooks := .later }
def MatchKindsCardSaid : Prop := Claim7.holds Tryd.pinned (.plain (OpenSpec.ofChange matchKindsSpec)) matchKindsCard

/-- THE TIED CARD OF 'trammellaw7.Types'. -/
def typesCard : Claim7 := { stood := { row := typesRow, standIns := [], harness := (true, "2dba2de7876eea66e96cac6cd31bebb381486c7b06b07d1b175b5b1b8b9e717d"), looks := false }, kinds := [], alts := [], laidByText := true, laidKinds := [.data, .data, .data], laidTests := true, laidLooks := .later }
def TypesCardSaid : Prop := Claim7.holds Tryd.pinned (.plain (OpenSpec.ofChange typesSpec)) typesCard

/-- THE TIED CARD OF 'trammellaw7.TypeNames'. -/
def typeNamesCard : Claim7 := { stood := { row := typeNamesRow, standIns := [], harness := (true, "2dba2de7876eea66e96cac6cd31bebb381486c7b06b07d1b175b5b1b8b9e717d"), looks := false }, kinds := [], alts := [], laidByText := true, laidKinds := [.data, .data, .data], laidTests := true, laidLooks := .later }
def TypeNamesCardSaid : Prop := Claim7.holds Tryd.pinned (.plain (OpenSpec.ofChange typeNamesSpec)) typeNamesCard

/-- THE TIED CARD OF 'trammellaw7.TypForms'. -/
def typFormsCard : Claim7 := { stood := { row := typFormsRow, standIns := [], harness := (true, "2dba2de7876eea66e96cac6cd31bebb381486c7b06b07d1b175b5b1b8b9e717d"), looks := false }, kinds := [], alts := [], laidByText := true, laidKinds := [.data, .data, .data], laidTests := true, laidLooks := .later }
def TypFormsCardSaid : Prop := Claim7.holds Tryd.pinned (.plain (OpenSpec.ofChange typFormsSpec)) typFormsCard

/-- THE TIED CARD OF 'trammellaw7.TypGrows'. -/
def typGrowsCard : Claim7 := { stood := { row := typGrowsRow, standIns := [], harness := (true, "2dba2de7876eea66e96cac6cd31bebb381486c7b06b07d1b175b5b1b8b9e717d"), looks := false }, kinds := [], alts := [], laidByText := true, laidKinds := [.data, .data, .data], laidTests := true, laidLooks := .later }
def TypGrowsCardSaid : Prop := Claim7.holds Tryd.pinned (.plain (OpenSpec.ofChange typGrowsSpec)) typGrowsCard

/-- THE TIED CARD OF 'trammellaw11.MatchMade'. -/
def matchMadeCard : Claim7 := { stood := { row := matchMadeRow, standIns := [], harness := (true, "2dba2de7876eea66e96cac6cd31bebb381486c7b06b07d1b175b5b1b8b9e717d"), looks := false }, kinds := [], alts := [], laidByText := true, laidKinds := [.data, .data, .data], laidTests := true, laidLooks := .later }
def MatchMadeCardSaid : Prop := Claim7.holds Tryd.pinned (.plain (OpenSpec.ofChange matchMadeSpec)) matchMadeCard

/-- THE SECOND FORM's CARD OF 'trammellaw8.Rows'. -/
def rowsUptoCard : Claim7 := { stood := { row := rowsUptoRow, standIns := [], harness := (true, "2dba2de7876eea66e96cac6cd31bebb381486c7b06b07d1b175b5b1b8b9e717d"), looks := false }, kinds := [], alts := [], laidByText := true, laidKinds := [.data, .data, .data], laidTests := true, laidLooks := .later }
def RowsUptoCardSaid : Prop := Claim7.holds Tryd.pinned (.plain (OpenSpec.upto rowsSpec)) rowsUptoCard

/-- THE SECOND FORM's CARD OF 'trammellaw8.RowSolves'. -/
def rowSolvesUptoCard : Claim7 := { stood := { row := rowSolvesUptoRow, standIns := [], harness := (true, "2dba2de7876eea66e96cac6cd31bebb381486c7b06b07d1b175b5b1b8b9e717d"), looks := false }, kinds := [], alts := [], laidByText := true, laidKinds := [.data, .data, .data], laidTests := true, laidLooks := .later }
def RowSolvesUptoCardSaid : Prop := Claim7.holds Tryd.pinned (.plain (OpenSpec.upto rowSolvesSpec)) rowSolvesUptoCard

/-- THE SECOND FORM's CARD OF 'trammellaw8.RowForms'. -/
def rowFormsUptoCard : Claim7 := { stood := { row := rowFormsUptoRow, standIns := [], harness := (true, "2dba2de7876eea66e96cac6cd31bebb381486c7b06b07d1b175b5b1b8b9e717d"), looks := false }, kinds := [], alts := [], laidByText := true, laidKinds := [.data, .data, .data], laidTests := true, laidLooks := .later }
def RowFormsUptoCardSaid : Prop := Claim7.holds Tryd.pinned (.plain (OpenSpec.upto rowFormsSpec)) rowFormsUptoCard

/-- THE SECOND FORM's CARD OF 'trammellaw8.RowSwap'. -/
def rowSwapUptoCard : Claim7 := { stood := { row := rowSwapUptoRow, standIns := [], harness := (true, "2dba2de7876eea66e96cac6cd31bebb381486c7b06b07d1b175b5b1b8b9e717d"), looks := false }, kinds := [], alts := [], laidByText := true, laidKinds := [.data, .data, .data], laidTests := true, laidLooks := .later }
def RowSwapUptoCardSaid : Prop := Claim7.holds Tryd.pinned (.plain (OpenSpec.upto rowSwapSpec)) rowSwapUptoCard

/-- THE SECOND FORM's CARD OF 'trammellaw8.RowTexts'. -/
def rowTextsUptoCard : Claim7 := { stood := { row := rowTextsUptoRow, standIns := [], harness := (true, "2dba2de7876eea66e96cac6cd31bebb381486c7b06b07d1b175b5b1b8b9e717d"), looks := false }, kinds := [], alts := [], laidByText := true, laidKinds := [.data, .data, .data], laidTests := true, laidLooks := .later }
def RowTextsUptoCardSaid : Prop := Claim7.holds Tryd.pinned (.plain (OpenSpec.upto rowTextsSpec)) rowTextsUptoCard

/-- THE SECOND FORM's CARD OF 'trammellaw8.RowPure'. -/
def rowPureUptoCard : Claim7 := { stood := { row := rowPureUptoRow, standIns := [], harness := (true, "2dba2de7876eea66e96cac6cd31bebb381486c7b06b07d1b175b5b1b8b9e717d"), looks := false }, kinds := [], alts := [], laidByText := true, laidKinds := [.data, .data, .data], laidTests := true, laidLooks := .later }
def RowPureUptoCardSaid : Prop := Claim7.holds Tryd.pinned (.plain (OpenSpec.upto rowPureSpec)) rowPureUptoCard

/-- THE SECOND FORM's CARD OF 'trammellaw11.Matches'. -/
def matchesUptoCard : Claim7 := { stood := { row := matchesUptoRow, standIns := [], harness := (true, "2dba2de7876eea66e96cac6cd31bebb381486c7b06b07d1b175b5b1b8b9e717d"), looks := false }, kinds := [], alts := [], laidByText := true, laidKinds := [.data, .data, .data], laidTests := true, laidLooks := .later }
def MatchesUptoCardSaid : Prop := Claim7.holds Tryd.pinned (.plain (OpenSpec.upto matchesSpec)) matchesUptoCard

/-- THE SECOND FORM's CARD OF 'trammellaw11.MatchBoth'. -/
def matchBothUptoCard : Claim7 := { stood := { row := matchBothUptoRow, standIns := [], harness := (true, "2dba2de7876eea66e96cac6cd31bebb381486c7b06b07d1b175b5b1b8b9e717d"), looks := false }, kinds := [], alts := [], laidByText := true, laidKinds := [.data, .data, .data], laidTests := true, laidLooks := .later }
def MatchBothUptoCardSaid : Prop := Claim7.holds Tryd.pinned (.plain (OpenSpec.upto matchBothSpec)) matchBothUptoCard

/-- THE SECOND FORM's CARD OF 'trammellaw11.MatchRows'. -/
def matchRowsUptoCard : Claim7 := { stood := { row := matchRowsUptoRow, standIns := [], harness := (true, "2dba2de7876eea66e96cac6cd31bebb381486c7b06b07d1b175b5b1b8b9e717d"), looks := false }, kinds := [], alts := [], laidByText := true, laidKinds := [.data, .data, .data], laidTests := true, laidLooks := .later }
def MatchRowsUptoCardSaid : Prop := Claim7.holds Tryd.pinned (.plain (OpenSpec.upto matchRowsSpec)) matchRowsUptoCard

/-- THE SECOND FORM's CARD OF 'trammellaw11.MatchKinds'. -/
def matchKindsUptoCard : Claim7 := { stood := { row := matchKindsUptoRow, standIns := [], harness := (true, "2dba2de7876eea66e96cac6cd31bebb381486c7b06b07d1b175b5b1b8b9e717d"), looks := false }, kinds := [], alts := [], laidByText := true, laidKinds := [.data, .data, .data], laidTests := true, laidLooks := .later }
def MatchKindsUptoCardSaid : Prop := Claim7.holds Tryd.pinned (.plain (OpenSpec.upto matchKindsSpec)) matchKindsUptoCard

/-- THE SECOND FORM's CARD OF 'trammellaw7.Types'. -/
def typesUptoCard : Claim7 := { stood := { row := typesUptoRow, standIns := [], harness := (true, "2dba2de7876eea66e96cac6cd31bebb381486c7b06b07d1b175b5b1b8b9e717d"), looks := false }, kinds := [], alts := [], laidByText := true, laidKinds := [.data, .data, .data], laidTests := true, laidLooks := .later }
def TypesUptoCardSaid : Prop := Claim7.holds Tryd.pinned (.plain (OpenSpec.upto typesSpec)) typesUptoCard

/-- THE SECOND FORM's CARD OF 'trammellaw7.TypeNames'. -/
def typeNamesUptoCard : Claim7 := { stood := { row := typeNamesUptoRow, standIns := [], harness := (true, "2dba2de7876eea66e96cac6cd31bebb381486c7b06b07d1b175b5b1b8b9e717d"), looks := false }, kinds := [], alts := [], laidByText := true, laidKinds := [.data, .data, .data], laidTests := true, laidLooks := .later }
def TypeNamesUptoCardSaid : Prop := Claim7.holds Tryd.pinned (.plain (OpenSpec.upto typeNamesSpec)) typeNamesUptoCard

/-- THE SECOND FORM's CARD OF 'trammellaw7.TypForms'. -/
def typFormsUptoCard : Claim7 := { stood := { row := typFormsUptoRow, standIns := [], harness := (true, "2dba2de7876eea66e96cac6cd31bebb381486c7b06b07d1b175b5b1b8b9e717d"), looks := false }, kinds := [], alts := [], laidByText := true, laidKinds := [.data, .data, .data], laidTests := true, laidLooks := .later }
def TypFormsUptoCardSaid : Prop := Claim7.holds Tryd.pinned (.plain (OpenSpec.upto typFormsSpec)) typFormsUptoCard

/-- THE SECOND FORM's CARD OF 'trammellaw7.TypGrows'. -/
def typGrowsUptoCard : Claim7 := { stood := { row := typGrowsUptoRow, standIns := [], harness := (true, "2dba2de7876eea66e96cac6cd31bebb381486c7b06b07d1b175b5b1b8b9e717d"), looks := false }, kinds := [], alts := [], laidByText := true, laidKinds := [.data, .data, .data], laidTests := true, laidLooks := .later }
def TypGrowsUptoCardSaid : Prop := Claim7.holds Tryd.pinned (.plain (OpenSpec.upto typGrowsSpec)) typGrowsUptoCard

/-- THE SECOND FORM's CARD OF 'trammellaw11.MatchMade'. -/
def matchMadeUptoCard : Claim7 := { stood := { row := matchMadeUptoRow, standIns := [], harness := (true, "2dba2de7876eea66e96cac6cd31bebb381486c7b06b07d1b175b5b1b8b9e717d"), looks := false }, kinds := [], alts := [], laidByText := true, laidKinds := [.data, .data, .data], laidTests := true, laidLooks := .later }
def MatchMadeUptoCardSaid : Prop := Claim7.holds Tryd.pinned (.plain (OpenSpec.upto matchMadeSpec)) matchMadeUptoCard
end Rows
end Go.Proofs.YtlfillhffpiffaaDoor
