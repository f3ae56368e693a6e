/-
  DERIVED. GIVEN WITH THE SEED: THE CARDS: each row of YtdeingogdblddaaDoorRows.lean that lists a variable, with what it lists TIED to the program's text (the seventh form; the later family's looks); each row that meets fmt, with fmt's text TOLD by the authors' own Lean function (tested against real Go, not proved from fmt's source: count such statements apart). THE CARD IS WHAT COUNTS. Prove the row's statement (the work); the ties are given (YtdeingogdblddaaDoorTie.lean); close each card by the builder's one call (the guide's Derived/Test/ToyasCard.lean, 'card_holds'). Laid BY PROGRAM, IN A SANDBOX (cutbox-door.mjs). By AI agents, Wed Nov 11 2026. No macro, syntax, notation, axiom, sorry.
-/
import Derived.Test.YtdeingogdblddaaDoorRows
import GoSem.ClaimSeven
namespace Go.Proofs.YtdeingogdblddaaDoor
namespace Rows

/-- THE TIED CARD OF 'marquetrylaw02.LexerWords'. -/
def lexerWordsCard : Claim7 := { stood := { row := lexerWordsRow, standIns := [], harness := (true, "c813560b35a9e9c7df67ea76d7c78a20951d020b7904acf174eb4550a49bcd45"), looks := false }, kinds := [], alts := [], laidByText := true, laidKinds := [.data, .pinned], laidTests := true, laidLooks := .later }
def LexerWordsCardSaid : Prop := Claim7.holds Tryd.pinned (.plain (OpenSpec.ofChange lexerWordsSpec)) lexerWordsCard

/-- THE TIED CARD OF 'marquetrylaw02.LexerBlanks'. -/
def lexerBlanksCard : Claim7 := { stood := { row := lexerBlanksRow, standIns := [], harness := (true, "c813560b35a9e9c7df67ea76d7c78a20951d020b7904acf174eb4550a49bcd45"), looks := false }, kinds := [], alts := [], laidByText := true, laidKinds := [.data, .pinned], laidTests := true, laidLooks := .later }
def LexerBlanksCardSaid : Prop := Claim7.holds Tryd.pinned (.plain (OpenSpec.ofChange lexerBlanksSpec)) lexerBlanksCard

/-- THE TIED CARD OF 'marquetrylaw02.LexerPlaces'. -/
def lexerPlacesCard : Claim7 := { stood := { row := lexerPlacesRow, standIns := [], harness := (true, "c813560b35a9e9c7df67ea76d7c78a20951d020b7904acf174eb4550a49bcd45"), looks := false }, kinds := [], alts := [], laidByText := true, laidKinds := [.data, .pinned], laidTests := true, laidLooks := .later }
def LexerPlacesCardSaid : Prop := Claim7.holds Tryd.pinned (.plain (OpenSpec.ofChange lexerPlacesSpec)) lexerPlacesCard

/-- THE TIED CARD OF 'marquetrylaw02.LexerShows'. -/
def lexerShowsCard : Claim7 := { stood := { row := lexerShowsRow, standIns := [], harness := (true, "c813560b35a9e9c7df67ea76d7c78a20951d020b7904acf174eb4550a49bcd45"), looks := false }, kinds := [], alts := [], laidByText := true, laidKinds := [.data, .pinned], laidTests := true, laidLooks := .later }
def LexerShowsCardSaid : Prop := Claim7.holds Tryd.pinned (.plain (OpenSpec.ofChange lexerShowsSpec)) lexerShowsCard

/-- THE TIED CARD OF 'marquetrylaw02.LexerBack'. -/
def lexerBackCard : Claim7 := { stood := { row := lexerBackRow, standIns := [], harness := (true, "c813560b35a9e9c7df67ea76d7c78a20951d020b7904acf174eb4550a49bcd45"), looks := false }, kinds := [], alts := [], laidByText := true, laidKinds := [.data, .pinned], laidTests := true, laidLooks := .later }
def LexerBackCardSaid : Prop := Claim7.holds Tryd.pinned (.plain (OpenSpec.ofChange lexerBackSpec)) lexerBackCard

/-- THE TIED CARD OF 'marquetrylaw03.NamesMoves'. -/
def namesMovesCard : Claim7 := { stood := { row := namesMovesRow, standIns := [], harness := (true, "c813560b35a9e9c7df67ea76d7c78a20951d020b7904acf174eb4550a49bcd45"), looks := false }, kinds := [], alts := [], laidByText := true, laidKinds := [.data, .pinned], laidTests := true, laidLooks := .later }
def NamesMovesCardSaid : Prop := Claim7.holds Tryd.pinned (.plain (OpenSpec.ofChange namesMovesSpec)) namesMovesCard

/-- THE TIED CARD OF 'marquetrylaw03.NamesFresh'. -/
def namesFreshCard : Claim7 := { stood := { row := namesFreshRow, standIns := [], harness := (true, "c813560b35a9e9c7df67ea76d7c78a20951d020b7904acf174eb4550a49bcd45"), looks := false }, kinds := [], alts := [], laidByText := true, laidKinds := [.data, .pinned], laidTests := true, laidLooks := .later }
def NamesFreshCardSaid : Prop := Claim7.holds Tryd.pinned (.plain (OpenSpec.ofChange namesFreshSpec)) namesFreshCard

/-- THE TIED CARD OF 'marquetrylaw03.NamesThere'. -/
def namesThereCard : Claim7 := { stood := { row := namesThereRow, standIns := [], harness := (true, "c813560b35a9e9c7df67ea76d7c78a20951d020b7904acf174eb4550a49bcd45"), looks := false }, kinds := [], alts := [], laidByText := true, laidKinds := [.data, .pinned], laidTests := true, laidLooks := .later }
def NamesThereCardSaid : Prop := Claim7.holds Tryd.pinned (.plain (OpenSpec.ofChange namesThereSpec)) namesThereCard

/-- THE TIED CARD OF 'marquetrylaw03.NamesNew'. -/
def namesNewCard : Claim7 := { stood := { row := namesNewRow, standIns := [], harness := (true, "c813560b35a9e9c7df67ea76d7c78a20951d020b7904acf174eb4550a49bcd45"), looks := false }, kinds := [], alts := [], laidByText := true, laidKinds := [.data, .pinned], laidTests := true, laidLooks := .later }
def NamesNewCardSaid : Prop := Claim7.holds Tryd.pinned (.plain (OpenSpec.ofChange namesNewSpec)) namesNewCard

/-- THE TIED CARD OF 'marquetrylaw03.NamesParts'. -/
def namesPartsCard : Claim7 := { stood := { row := namesPartsRow, standIns := [], harness := (true, "c813560b35a9e9c7df67ea76d7c78a20951d020b7904acf174eb4550a49bcd45"), looks := false }, kinds := [], alts := [], laidByText := true, laidKinds := [.data, .pinned], laidTests := true, laidLooks := .later }
def NamesPartsCardSaid : Prop := Claim7.holds Tryd.pinned (.plain (OpenSpec.ofChange namesPartsSpec)) namesPartsCard

/-- THE TIED CARD OF 'marquetrylaw03.NamesBack'. -/
def namesBackCard : Claim7 := { stood := { row := namesBackRow, standIns := [], harness := (true, "c813560b35a9e9c7df67ea76d7c78a20951d020b7904acf174eb4550a49bcd45"), looks := false }, kinds := [], alts := [], laidByText := true, laidKinds := [.data, .pinned], laidTests := true, laidLooks := .later }
def NamesBackCardSaid : Prop := Claim7.holds Tryd.pinned (.plain (OpenSpec.ofChange namesBackSpec)) namesBackCard

/-- THE SECOND FORM's CARD OF 'marquetrylaw02.LexerWords'. -/
def lexerWordsUptoCard : Claim7 := { stood := { row := lexerWordsUptoRow, standIns := [], harness := (true, "c813560b35a9e9c7df67ea76d7c78a20951d020b7904acf174eb4550a49bcd45"), looks := false }, kinds := [], alts := [], laidByText := true, laidKinds := [.data, .pinned], laidTests := true, laidLooks := .later }
def LexerWordsUptoCardSaid : Prop := Claim7.holds Tryd.pinned (.plain (OpenSpec.upto lexerWordsSpec)) lexerWordsUptoCard

/-- THE SECOND FORM's CARD OF 'marquetrylaw02.LexerBlanks'. -/
def lexerBlanksUptoCard : Claim7 := { stood := { row := lexerBlanksUptoRow, standIns := [], harness := (true, "c813560b35a9e9c7df67ea76d7c78a20951d020b7904acf174eb4550a49bcd45"), looks := false }, kinds := [], alts := [], laidByText := true, laidKinds := [.data, .pinned], laidTests := true, laidLooks := .later }
def LexerBlanksUptoCardSaid : Prop := Claim7.holds Tryd.pinned (.plain (OpenSpec.upto lexerBlanksSpec)) lexerBlanksUptoCard

/-- THE SECOND FORM's CARD OF 'marquetrylaw02.LexerPlaces'. -/
def lexerPlacesUptoCard : Claim7 := { stood := { row := lexerPlacesUptoRow, standIns := [], harness := (true, "c813560b35a9e9c7df67ea76d7c78a20951d020b7904acf174eb4550a49bcd45"), looks := false }, kinds := [], alts := [], laidByText := true, laidKinds := [.data, .pinned], laidTests := true, laidLooks := .later }
def LexerPlacesUptoCardSaid : Prop := Claim7.holds Tryd.pinned (.plain (OpenSpec.upto lexerPlacesSpec)) lexerPlacesUptoCard

/-- THE SECOND FORM's CARD OF 'marquetrylaw02.LexerShows'. -/
def lexerShowsUptoCard : Claim7 := { stood := { row := lexerShowsUptoRow, standIns := [], harness := (true, "c813560b35a9e9c7df67ea76d7c78a20951d020b7904acf174eb4550a49bcd45"), looks := false }, kinds := [], alts := [], laidByText := true, laidKinds := [.data, .pinned], laidTests := true, laidLooks := .later }
def LexerShowsUptoCardSaid : Prop := Claim7.holds Tryd.pinned (.plain (OpenSpec.upto lexerShowsSpec)) lexerShowsUptoCard

/-- THE SECOND FORM's CARD OF 'marquetrylaw02.LexerBack'. -/
def lexerBackUptoCard : Claim7 := { stood := { row := lexerBackUptoRow, standIns := [], harness := (true, "c813560b35a9e9c7df67ea76d7c78a20951d020b7904acf174eb4550a49bcd45"), looks := false }, kinds := [], alts := [], laidByText := true, laidKinds := [.data, .pinned], laidTests := true, laidLooks := .later }
def LexerBackUptoCardSaid : Prop := Claim7.holds Tryd.pinned (.plain (OpenSpec.upto lexerBackSpec)) lexerBackUptoCard

/-- THE SECOND FORM's CARD OF 'marquetrylaw03.NamesMoves'. -/
def namesMovesUptoCard : Claim7 := { stood := { row := namesMovesUptoRow, standIns := [], harness := (true, "c813560b35a9e9c7df67ea76d7c78a20951d020b7904acf174eb4550a49bcd45"), looks := false }, kinds := [], alts := [], laidByText := true, laidKinds := [.data, .pinned], laidTests := true, laidLooks := .later }
def NamesMovesUptoCardSaid : Prop := Claim7.holds Tryd.pinned (.plain (OpenSpec.upto namesMovesSpec)) namesMovesUptoCard

/-- THE SECOND FORM's CARD OF 'marquetrylaw03.NamesFresh'. -/
def namesFreshUptoCard : Claim7 := { stood := { row := namesFreshUptoRow, standIns := [], harness := (true, "c813560b35a9e9c7df67ea76d7c78a20951d020b7904acf174eb4550a49bcd45"), looks := false }, kinds := [], alts := [], laidByText := true, laidKinds := [.data, .pinned], laidTests := true, laidLooks := .later }
def NamesFreshUptoCardSaid : Prop := Claim7.holds Tryd.pinned (.plain (OpenSpec.upto namesFreshSpec)) namesFreshUptoCard

/-- THE SECOND FORM's CARD OF 'marquetrylaw03.NamesThere'. -/
def namesThereUptoCard : Claim7 := { stood := { row := namesThereUptoRow, standIns := [], harness := (true, "c813560b35a9e9c7df67ea76d7c78a20951d020b7904acf174eb4550a49bcd45"), looks := false }, kinds := [], alts := [], laidByText := true, laidKinds := [.data, .pinned], laidTests := true, laidLooks := .later }
def NamesThereUptoCardSaid : Prop := Claim7.holds Tryd.pinned (.plain (OpenSpec.upto namesThereSpec)) namesThereUptoCard

/-- THE SECOND FORM's CARD OF 'marquetrylaw03.NamesNew'. -/
def namesNewUptoCard : Claim7 := { stood := { row := namesNewUptoRow, standIns := [], harness := (true, "c813560b35a9e9c7df67ea76d7c78a20951d020b7904acf174eb4550a49bcd45"), looks := false }, kinds := [], alts := [], laidByText := true, laidKinds := [.data, .pinned], laidTests := true, laidLooks := .later }
def NamesNewUptoCardSaid : Prop := Claim7.holds Tryd.pinned (.plain (OpenSpec.upto namesNewSpec)) namesNewUptoCard

/-- THE SECOND FORM's CARD OF 'marquetrylaw03.NamesParts'. -/
def namesPartsUptoCard : Claim7 := { stood := { row := namesPartsUptoRow, standIns := [], harness := (true, "c813560b35a9e9c7df67ea76d7c78a20951d020b7904acf174eb4550a49bcd45"), looks := false }, kinds := [], alts := [], laidByText := true, laidKinds := [.data, .pinned], laidTests := true, laidLooks := .later }
def NamesPartsUptoCardSaid : Prop := Claim7.holds Tryd.pinned (.plain (OpenSpec.upto namesPartsSpec)) namesPartsUptoCard

/-- THE SECOND FORM's CARD OF 'marquetrylaw03.NamesBack'. -/
def namesBackUptoCard : Claim7 := { stood := { row := namesBackUptoRow, standIns := [], harness := (true, "c813560b35a9e9c7df67ea76d7c78a20951d020b7904acf174eb4550a49bcd45"), looks := false }, kinds := [], alts := [], laidByText := true, laidKinds := [.data, .pinned], laidTests := true, laidLooks := .later }
def NamesBackUptoCardSaid : Prop := Claim7.holds Tryd.pinned (.plain (OpenSpec.upto namesBackSpec)) namesBackUptoCard
end Rows
end Go.Proofs.YtdeingogdblddaaDoor
