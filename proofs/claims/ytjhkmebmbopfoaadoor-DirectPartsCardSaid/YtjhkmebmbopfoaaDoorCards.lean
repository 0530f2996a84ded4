/-
  DERIVED. GIVEN WITH THE SEED: THE CARDS: each row of YtjhkmebmbopfoaaDoorRows.lean that lists a variable, with what it lists TIED to the program's text (the seventh form; the later family's looks); each row that meets fmt, with fmt's text TOLD by the authors' own Lean function (tested against real Go, not proved from fmt's source: count such statements apart). THE CARD IS WHAT COUNTS. Prove the row's statement (the work); the ties are given (YtjhkmebmbopfoaaDoorTie.lean); close each card by the builder's one call (the guide's Derived/Test/ToyasCard.lean, 'card_holds'). Laid BY PROGRAM, IN A SANDBOX (cutbox-door.mjs). By AI agents, Wed Nov 11 2026. No macro, syntax, notation, axiom, sorry.
-/
import Derived.Test.YtjhkmebmbopfoaaDoorRows
import GoSem.ClaimSeven
namespace Go.Proofs.YtjhkmebmbopfoaaDoor
namespace Rows

/-- THE TIED CARD OF 'trammellaw18.Directs'. -/
def directsCard : Claim7 := { stood := { row := directsRow, standIns := [], harness := (true, "7e34f355ef389fe82a9e0575246d0128f80679ae509744a6488f0c43e9305616"), looks := false }, kinds := [], alts := [], laidByText := true, laidKinds := [.data, .pinned], laidTests := true, laidLooks := .later }
def DirectsCardSaid : Prop := Claim7.holds Tryd.pinned (.plain (OpenSpec.ofChange directsSpec)) directsCard

/-- THE TIED CARD OF 'trammellaw18.DirectParts'. -/
def directPartsCard : Claim7 := { stood := { row := directPartsRow, standIns := [], harness := (true, "7e34f355ef389fe82a9e0575246d0128f80679ae509744a6488f0c43e9305616"), looks := false }, kinds := [], alts := [], laidByText := true, laidKinds := [.data, .pinned], laidTests := true, laidLooks := .later }
def DirectPartsCardSaid : Prop := Claim7.holds Tryd.pinned (.plain (OpenSpec.ofChange directPartsSpec)) directPartsCard

/-- THE TIED CARD OF 'trammellaw24.Places'. -/
def placesCard : Claim7 := { stood := { row := placesRow, standIns := [], harness := (true, "7e34f355ef389fe82a9e0575246d0128f80679ae509744a6488f0c43e9305616"), looks := false }, kinds := [], alts := [], laidByText := true, laidKinds := [.data, .data, .data], laidTests := true, laidLooks := .later }
def PlacesCardSaid : Prop := Claim7.holds Tryd.pinned (.plain (OpenSpec.ofChange placesSpec)) placesCard

/-- THE TIED CARD OF 'trammellaw24.PlaceWalks'. -/
def placeWalksCard : Claim7 := { stood := { row := placeWalksRow, standIns := [], harness := (true, "7e34f355ef389fe82a9e0575246d0128f80679ae509744a6488f0c43e9305616"), looks := false }, kinds := [], alts := [], laidByText := true, laidKinds := [.data, .data, .data], laidTests := true, laidLooks := .later }
def PlaceWalksCardSaid : Prop := Claim7.holds Tryd.pinned (.plain (OpenSpec.ofChange placeWalksSpec)) placeWalksCard

/-- THE TIED CARD OF 'trammellaw24.PlaceForms'. -/
def placeFormsCard : Claim7 := { stood := { row := placeFormsRow, standIns := [], harness := (true, "7e34f355ef389fe82a9e0575246d0128f80679ae509744a6488f0c43e9305616"), looks := false }, kinds := [], alts := [], laidByText := true, laidKinds := [.data, .data, .data], laidTests := true, laidLooks := .later }
def PlaceFormsCardSaid : Prop := Claim7.holds Tryd.pinned (.plain (OpenSpec.ofChange placeFormsSpec)) placeFormsCard

/-- THE TIED CARD OF 'trammellaw24.PlaceTells'. -/
def placeTellsCard : Claim7 := { stood := { row := placeTellsRow, standIns := [], harness := (true, "7e34f355ef389fe82a9e0575246d0128f80679ae509744a6488f0c43e9305616"), looks := false }, kinds := [], alts := [], laidByText := true, laidKinds := [.data, .data, .data], laidTests := true, laidLooks := .later }
def PlaceTellsCardSaid : Prop := Claim7.holds Tryd.pinned (.plain (OpenSpec.ofChange placeTellsSpec)) placeTellsCard

/-- THE TIED CARD OF 'trammellaw24.PlaceRises'. -/
def placeRisesCard : Claim7 := { stood := { row := placeRisesRow, standIns := [], harness := (true, "7e34f355ef389fe82a9e0575246d0128f80679ae509744a6488f0c43e9305616"), looks := false }, kinds := [], alts := [], laidByText := true, laidKinds := [.data, .data, .data], laidTests := true, laidLooks := .later }
def PlaceRisesCardSaid : Prop := Claim7.holds Tryd.pinned (.plain (OpenSpec.ofChange placeRisesSpec)) placeRisesCard

/-- THE TIED CARD OF 'trammellaw18.DirectEnds'. -/
def directEndsCard : Claim7 := { stood := { row := directEndsRow, standIns := [], harness := (true, "7e34f355ef389fe82a9e0575246d0128f80679ae509744a6488f0c43e9305616"), looks := false }, kinds := [], alts := [], laidByText := true, laidKinds := [.data, .pinned], laidTests := true, laidLooks := .later }
def DirectEndsCardSaid : Prop := Claim7.holds Tryd.pinned (.plain (OpenSpec.ofChange directEndsSpec)) directEndsCard

/-- THE SECOND FORM's CARD OF 'trammellaw18.Directs'. -/
def directsUptoCard : Claim7 := { stood := { row := directsUptoRow, standIns := [], harness := (true, "7e34f355ef389fe82a9e0575246d0128f80679ae509744a6488f0c43e9305616"), looks := false }, kinds := [], alts := [], laidByText := true, laidKinds := [.data, .pinned], laidTests := true, laidLooks := .later }
def DirectsUptoCardSaid : Prop := Claim7.holds Tryd.pinned (.plain (OpenSpec.upto directsSpec)) directsUptoCard

/-- THE SECOND FORM's CARD OF 'trammellaw18.DirectParts'. -/
def directPartsUptoCard : Claim7 := { stood := { row := directPartsUptoRow, standIns := [], harness := (true, "7e34f355ef389fe82a9e0575246d0128f80679ae509744a6488f0c43e9305616"), looks := false }, kinds := [], alts := [], laidByText := true, laidKinds := [.data, .pinned], laidTests := true, laidLooks := .later }
def DirectPartsUptoCardSaid : Prop := Claim7.holds Tryd.pinned (.plain (OpenSpec.upto directPartsSpec)) directPartsUptoCard

/-- THE SECOND FORM's CARD OF 'trammellaw24.Places'. -/
def placesUptoCard : Claim7 := { stood := { row := placesUptoRow, standIns := [], harness := (true, "7e34f355ef389fe82a9e0575246d0128f80679ae509744a6488f0c43e9305616"), looks := false }, kinds := [], alts := [], laidByText := true, laidKinds := [.data, .data, .data], laidTests := true, laidLooks := .later }
def PlacesUptoCardSaid : Prop := Claim7.holds Tryd.pinned (.plain (OpenSpec.upto placesSpec)) placesUptoCard

/-- THE SECOND FORM's CARD OF 'trammellaw24.PlaceWalks'. -/
def placeWalksUptoCard : Claim7 := { stood := { row := placeWalksUptoRow, standIns := [], harness := (true, "7e34f355ef389fe82a9e0575246d0128f80679ae509744a6488f0c43e9305616"), looks := false }, kinds := [], alts := [], laidByText := true, laidKinds := [.data, .data, .data], laidTests := true, laidLooks := .later }
def PlaceWalksUptoCardSaid : Prop := Claim7.holds Tryd.pinned (.plain (OpenSpec.upto placeWalksSpec)) placeWalksUptoCard

/-- THE SECOND FORM's CARD OF 'trammellaw24.PlaceForms'. -/
def placeFormsUptoCard : Claim7 := { stood := { row := placeFormsUptoRow, standIns := [], harness := (true, "7e34f355ef389fe82a9e0575246d0128f80679ae509744a6488f0c43e9305616"), looks := false }, kinds := [], alts := [], laidByText := true, laidKinds := [.data, .data, .data], laidTests := true, laidLooks := .later }
def PlaceFormsUptoCardSaid : Prop := Claim7.holds Tryd.pinned (.plain (OpenSpec.upto placeFormsSpec)) placeFormsUptoCard

/-- THE SECOND FORM's CARD OF 'trammellaw24.PlaceTells'. -/
def placeTellsUptoCard : Claim7 := { stood := { row := placeTellsUptoRow, standIns := [], harness := (true, "7e34f355ef389fe82a9e0575246d0128f80679ae509744a6488f0c43e9305616"), looks := false }, kinds := [], alts := [], laidByText := true, laidKinds := [.data, .data, .data], laidTests := true, laidLooks := .later }
def PlaceTellsUptoCardSaid : Prop := Claim7.holds Tryd.pinned (.plain (OpenSpec.upto placeTellsSpec)) placeTellsUptoCard

/-- THE SECOND FORM's CARD OF 'trammellaw24.PlaceRises'. -/
def placeRisesUptoCard : Claim7 := { stood := { row := placeRisesUptoRow, standIns := [], harness := (true, "7e34f355ef389fe82a9e0575246d0128f80679ae509744a6488f0c43e9305616"), looks := false }, kinds := [], alts := [], laidByText := true, laidKinds := [.data, .data, .data], laidTests := true, laidLooks := .later }
def PlaceRisesUptoCardSaid : Prop := Claim7.holds Tryd.pinned (.plain (OpenSpec.upto placeRisesSpec)) placeRisesUptoCard

/-- THE SECOND FORM's CARD OF 'trammellaw18.DirectEnds'. -/
def directEndsUptoCard : Claim7 := { stood := { row := directEndsUptoRow, standIns := [], harness := (true, "7e34f355ef389fe82a9e0575246d0128f80679ae509744a6488f0c43e9305616"), looks := false }, kinds := [], alts := [], laidByText := true, laidKinds := [.data, .pinned], laidTests := true, laidLooks := .later }
def DirectEndsUptoCardSaid : Prop := Claim7.holds Tryd.pinned (.plain (OpenSpec.upto directEndsSpec)) directEndsUptoCard
end Rows
end Go.Proofs.YtjhkmebmbopfoaaDoor
