/-
  DERIVED. GIVEN WITH THE SEED: THE CARDS: each row of YtlbemgokilhdnaaDoorRows.lean that lists a variable, with what it lists TIED to the program's text (the seventh form; the later family's looks); each row that meets fmt, with fmt's text TOLD by the authors' own Lean function (tested against real Go, not proved from fmt's source: count such statements apart). THE CARD IS WHAT COUNTS. Prove the row's statement (the work); the ties are given (YtlbemgokilhdnaaDoorTie.lean); close each card by the builder's one call (the guide's Derived/Test/ToyasCard.lean, 'card_holds'). Laid BY PROGRAM, IN A SANDBOX (cutbox-door.mjs). By AI agents, Wed Nov 11 2026. No macro, syntax, notation, axiom, sorry.
-/
import Derived.Test.YtlbemgokilhdnaaDoorRows
import GoSem.ClaimSeven
namespace Go.Proofs.YtlbemgokilhdnaaDoor
namespace Rows

/-- THE TIED CARD OF 'marquetrylaw19.SemFields'. -/
def semFieldsCard : Claim7 := { stood := { row := semFieldsRow, standIns := [], harness := (true, "45d1a8f0a9ab2b5aef90a4a4dc5ab948f27984ce42ff5707341c847d5ada81e8"), looks := false }, kinds := [], alts := [], laidByText := true, laidKinds := [.data, .pinned], laidTests := true, laidLooks := .later }
def SemFieldsCardSaid : Prop := Claim7.holds Tryd.pinned (.plain (OpenSpec.ofChange semFieldsSpec)) semFieldsCard

/-- THE TIED CARD OF 'marquetrylaw19.SemBack'. -/
def semBackCard : Claim7 := { stood := { row := semBackRow, standIns := [], harness := (true, "45d1a8f0a9ab2b5aef90a4a4dc5ab948f27984ce42ff5707341c847d5ada81e8"), looks := false }, kinds := [], alts := [], laidByText := true, laidKinds := [.data, .pinned], laidTests := true, laidLooks := .later }
def SemBackCardSaid : Prop := Claim7.holds Tryd.pinned (.plain (OpenSpec.ofChange semBackSpec)) semBackCard

/-- THE SECOND FORM's CARD OF 'marquetrylaw19.SemFields'. -/
def semFieldsUptoCard : Claim7 := { stood := { row := semFieldsUptoRow, standIns := [], harness := (true, "45d1a8f0a9ab2b5aef90a4a4dc5ab948f27984ce42ff5707341c847d5ada81e8"), looks := false }, kinds := [], alts := [], laidByText := true, laidKinds := [.data, .pinned], laidTests := true, laidLooks := .later }
def SemFieldsUptoCardSaid : Prop := Claim7.holds Tryd.pinned (.plain (OpenSpec.upto semFieldsSpec)) semFieldsUptoCard

/-- THE SECOND FORM's CARD OF 'marquetrylaw19.SemBack'. -/
def semBackUptoCard : Claim7 := { stood := { row := semBackUptoRow, standIns := [], harness := (true, "45d1a8f0a9ab2b5aef90a4a4dc5ab948f27984ce42ff5707341c847d5ada81e8"), looks := false }, kinds := [], alts := [], laidByText := true, laidKinds := [.data, .pinned], laidTests := true, laidLooks := .later }
def SemBackUptoCardSaid : Prop := Claim7.holds Tryd.pinned (.plain (OpenSpec.upto semBackSpec)) semBackUptoCard
end Rows
end Go.Proofs.YtlbemgokilhdnaaDoor
