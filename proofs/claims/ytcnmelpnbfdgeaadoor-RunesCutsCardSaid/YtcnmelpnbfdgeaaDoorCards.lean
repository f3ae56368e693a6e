/-
  DERIVED. GIVEN WITH THE SEED: THE CARDS: each row of YtcnmelpnbfdgeaaDoorRows.lean that lists a variable, with what it lists TIED to the program's text (the seventh form; the later family's looks); each row that meets fmt, with fmt's text TOLD by the authors' own Lean function (tested against real Go, not proved from fmt's source: count such statements apart). THE CARD IS WHAT COUNTS. Prove the row's statement (the work); the ties are given (YtcnmelpnbfdgeaaDoorTie.lean); close each card by the builder's one call (the guide's Derived/Test/ToyasCard.lean, 'card_holds'). Laid BY PROGRAM, IN A SANDBOX (cutbox-door.mjs). By AI agents, Wed Nov 11 2026. No macro, syntax, notation, axiom, sorry.
-/
import Derived.Test.YtcnmelpnbfdgeaaDoorRows
import GoSem.ClaimSeven
namespace Go.Proofs.YtcnmelpnbfdgeaaDoor
namespace Rows

/-- THE TIED CARD OF 'marquetrylaw01.RunesPlaces'. -/
def runesPlacesCard : Claim7 := { stood := { row := runesPlacesRow, standIns := [], harness := (true, "a37d78a95d3957c3a5d016d399f0af3cf9ba0cc2a4f08d8b0a08b513e138dbf8"), looks := false }, kinds := [], alts := [], laidByText := true, laidKinds := [.data, .pinned], laidTests := true, laidLooks := .later }
def RunesPlacesCardSaid : Prop := Claim7.holds Tryd.pinned (.plain (OpenSpec.ofChange runesPlacesSpec)) runesPlacesCard

/-- THE TIED CARD OF 'marquetrylaw01.RunesLines'. -/
def runesLinesCard : Claim7 := { stood := { row := runesLinesRow, standIns := [], harness := (true, "a37d78a95d3957c3a5d016d399f0af3cf9ba0cc2a4f08d8b0a08b513e138dbf8"), looks := false }, kinds := [], alts := [], laidByText := true, laidKinds := [.data, .pinned], laidTests := true, laidLooks := .later }
def RunesLinesCardSaid : Prop := Claim7.holds Tryd.pinned (.plain (OpenSpec.ofChange runesLinesSpec)) runesLinesCard

/-- THE TIED CARD OF 'marquetrylaw01.RunesDecode'. -/
def runesDecodeCard : Claim7 := { stood := { row := runesDecodeRow, standIns := [], harness := (true, "a37d78a95d3957c3a5d016d399f0af3cf9ba0cc2a4f08d8b0a08b513e138dbf8"), looks := false }, kinds := [], alts := [], laidByText := true, laidKinds := [.data, .pinned], laidTests := true, laidLooks := .later }
def RunesDecodeCardSaid : Prop := Claim7.holds Tryd.pinned (.plain (OpenSpec.ofChange runesDecodeSpec)) runesDecodeCard

/-- THE TIED CARD OF 'marquetrylaw01.RunesBack'. -/
def runesBackCard : Claim7 := { stood := { row := runesBackRow, standIns := [], harness := (true, "a37d78a95d3957c3a5d016d399f0af3cf9ba0cc2a4f08d8b0a08b513e138dbf8"), looks := false }, kinds := [], alts := [], laidByText := true, laidKinds := [.data, .pinned], laidTests := true, laidLooks := .later }
def RunesBackCardSaid : Prop := Claim7.holds Tryd.pinned (.plain (OpenSpec.ofChange runesBackSpec)) runesBackCard

/-- THE TIED CARD OF 'marquetrylaw01.RunesCuts'. -/
def runesCutsCard : Claim7 := { stood := { row := runesCutsRow, standIns := [], harness := (true, "a37d78a95d3957c3a5d016d399f0af3cf9ba0cc2a4f08d8b0a08b513e138dbf8"), looks := false }, kinds := [], alts := [], laidByText := true, laidKinds := [.data, .pinned], laidTests := true, laidLooks := .later }
def RunesCutsCardSaid : Prop := Claim7.holds Tryd.pinned (.plain (OpenSpec.ofChange runesCutsSpec)) runesCutsCard

/-- THE TIED CARD OF 'marquetrylaw01.RunesClasses'. -/
def runesClassesCard : Claim7 := { stood := { row := runesClassesRow, standIns := [], harness := (true, "a37d78a95d3957c3a5d016d399f0af3cf9ba0cc2a4f08d8b0a08b513e138dbf8"), looks := false }, kinds := [], alts := [], laidByText := true, laidKinds := [.data, .pinned], laidTests := true, laidLooks := .later }
def RunesClassesCardSaid : Prop := Claim7.holds Tryd.pinned (.plain (OpenSpec.ofChange runesClassesSpec)) runesClassesCard

/-- THE TIED CARD OF 'marquetrylaw01.RunesNames'. -/
def runesNamesCard : Claim7 := { stood := { row := runesNamesRow, standIns := [], harness := (true, "a37d78a95d3957c3a5d016d399f0af3cf9ba0cc2a4f08d8b0a08b513e138dbf8"), looks := false }, kinds := [], alts := [], laidByText := true, laidKinds := [.data, .pinned], laidTests := true, laidLooks := .later }
def RunesNamesCardSaid : Prop := Claim7.holds Tryd.pinned (.plain (OpenSpec.ofChange runesNamesSpec)) runesNamesCard

/-- THE SECOND FORM's CARD OF 'marquetrylaw01.RunesPlaces'. -/
def runesPlacesUptoCard : Claim7 := { stood := { row := runesPlacesUptoRow, standIns := [], harness := (true, "a37d78a95d3957c3a5d016d399f0af3cf9ba0cc2a4f08d8b0a08b513e138dbf8"), looks := false }, kinds := [], alts := [], laidByText := true, laidKinds := [.data, .pinned], laidTests := true, laidLooks := .later }
def RunesPlacesUptoCardSaid : Prop := Claim7.holds Tryd.pinned (.plain (OpenSpec.upto runesPlacesSpec)) runesPlacesUptoCard

/-- THE SECOND FORM's CARD OF 'marquetrylaw01.RunesLines'. -/
def runesLinesUptoCard : Claim7 := { stood := { row := runesLinesUptoRow, standIns := [], harness := (true, "a37d78a95d3957c3a5d016d399f0af3cf9ba0cc2a4f08d8b0a08b513e138dbf8"), looks := false }, kinds := [], alts := [], laidByText := true, laidKinds := [.data, .pinned], laidTests := true, laidLooks := .later }
def RunesLinesUptoCardSaid : Prop := Claim7.holds Tryd.pinned (.plain (OpenSpec.upto runesLinesSpec)) runesLinesUptoCard

/-- THE SECOND FORM's CARD OF 'marquetrylaw01.RunesDecode'. -/
def runesDecodeUptoCard : Claim7 := { stood := { row := runesDecodeUptoRow, standIns := [], harness := (true, "a37d78a95d3957c3a5d016d399f0af3cf9ba0cc2a4f08d8b0a08b513e138dbf8"), looks := false }, kinds := [], alts := [], laidByText := true, laidKinds := [.data, .pinned], laidTests := true, laidLooks := .later }
def RunesDecodeUptoCardSaid : Prop := Claim7.holds Tryd.pinned (.plain (OpenSpec.upto runesDecodeSpec)) runesDecodeUptoCard

/-- THE SECOND FORM's CARD OF 'marquetrylaw01.RunesBack'. -/
def runesBackUptoCard : Claim7 := { stood := { row := runesBackUptoRow, standIns := [], harness := (true, "a37d78a95d3957c3a5d016d399f0af3cf9ba0cc2a4f08d8b0a08b513e138dbf8"), looks := false }, kinds := [], alts := [], laidByText := true, laidKinds := [.data, .pinned], laidTests := true, laidLooks := .later }
def RunesBackUptoCardSaid : Prop := Claim7.holds Tryd.pinned (.plain (OpenSpec.upto runesBackSpec)) runesBackUptoCard

/-- THE SECOND FORM's CARD OF 'marquetrylaw01.RunesCuts'. -/
def runesCutsUptoCard : Claim7 := { stood := { row := runesCutsUptoRow, standIns := [], harness := (true, "a37d78a95d3957c3a5d016d399f0af3cf9ba0cc2a4f08d8b0a08b513e138dbf8"), looks := false }, kinds := [], alts := [], laidByText := true, laidKinds := [.data, .pinned], laidTests := true, laidLooks := .later }
def RunesCutsUptoCardSaid : Prop := Claim7.holds Tryd.pinned (.plain (OpenSpec.upto runesCutsSpec)) runesCutsUptoCard

/-- THE SECOND FORM's CARD OF 'marquetrylaw01.RunesClasses'. -/
def runesClassesUptoCard : Claim7 := { stood := { row := runesClassesUptoRow, standIns := [], harness := (true, "a37d78a95d3957c3a5d016d399f0af3cf9ba0cc2a4f08d8b0a08b513e138dbf8"), looks := false }, kinds := [], alts := [], laidByText := true, laidKinds := [.data, .pinned], laidTests := true, laidLooks := .later }
def RunesClassesUptoCardSaid : Prop := Claim7.holds Tryd.pinned (.plain (OpenSpec.upto runesClassesSpec)) runesClassesUptoCard

/-- THE SECOND FORM's CARD OF 'marquetrylaw01.RunesNames'. -/
def runesNamesUptoCard : Claim7 := { stood := { row := runesNamesUptoRow, standIns := [], harness := (true, "a37d78a95d3957c3a5d016d399f0af3cf9ba0cc2a4f08d8b0a08b513e138dbf8"), looks := false }, kinds := [], alts := [], laidByText := true, laidKinds := [.data, .pinned], laidTests := true, laidLooks := .later }
def RunesNamesUptoCardSaid : Prop := Claim7.holds Tryd.pinned (.plain (OpenSpec.upto runesNamesSpec)) runesNamesUptoCard
end Rows
end Go.Proofs.YtcnmelpnbfdgeaaDoor
