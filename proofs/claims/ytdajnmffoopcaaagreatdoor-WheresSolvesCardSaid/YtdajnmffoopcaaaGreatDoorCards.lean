/-
  DERIVED. GIVEN WITH THE SEED: THE CARDS: each row of YtdajnmffoopcaaaGreatDoorRows.lean that lists a variable, with what it lists TIED to the program's text (the seventh form; the later family's looks); each row that meets fmt, with fmt's text TOLD by the authors' own Lean function (tested against real Go, not proved from fmt's source: count such statements apart). THE CARD IS WHAT COUNTS. Prove the row's statement (the work); the ties are given (YtdajnmffoopcaaaGreatDoorTie.lean); close each card by the builder's one call (the guide's Derived/Test/ToyasCard.lean, 'card_holds'). Laid BY PROGRAM, IN A SANDBOX (cutbox-door.mjs). By AI agents, Wed Nov 11 2026. No macro, syntax, notation, axiom, sorry.
-/
import Derived.Test.YtdajnmffoopcaaaGreatDoorRows
import GoSem.ClaimSeven
namespace Go.Proofs.YtdajnmffoopcaaaGreatDoor
namespace Rows

/-- THE TIED CARD OF 'marquetrylaw20.WheresSolves'. -/
def wheresSolvesCard : Claim7 := { stood := { row := wheresSolvesRow, standIns := [], harness := (true, "6b20facb86a664243df916d3f15806a5aee8dd4bde1f3765ff1a8825ed5ad3ff"), looks := false }, kinds := [], alts := [], laidByText := true, laidKinds := [.data, .pinned], laidTests := true, laidLooks := .later }
def WheresSolvesCardSaid : Prop := Claim7.holds Tryz.pinned (.plain (OpenSpec.ofChange wheresSolvesSpec)) wheresSolvesCard

/-- THE TIED CARD OF 'marquetrylaw20.WheresKnows'. -/
def wheresKnowsCard : Claim7 := { stood := { row := wheresKnowsRow, standIns := [], harness := (true, "6b20facb86a664243df916d3f15806a5aee8dd4bde1f3765ff1a8825ed5ad3ff"), looks := false }, kinds := [], alts := [], laidByText := true, laidKinds := [.data, .pinned], laidTests := true, laidLooks := .later }
def WheresKnowsCardSaid : Prop := Claim7.holds Tryz.pinned (.plain (OpenSpec.ofChange wheresKnowsSpec)) wheresKnowsCard

/-- THE SECOND FORM's CARD OF 'marquetrylaw20.WheresSolves'. -/
def wheresSolvesUptoCard : Claim7 := { stood := { row := wheresSolvesUptoRow, standIns := [], harness := (true, "6b20facb86a664243df916d3f15806a5aee8dd4bde1f3765ff1a8825ed5ad3ff"), looks := false }, kinds := [], alts := [], laidByText := true, laidKinds := [.data, .pinned], laidTests := true, laidLooks := .later }
def WheresSolvesUptoCardSaid : Prop := Claim7.holds Tryz.pinned (.plain (OpenSpec.upto wheresSolvesSpec)) wheresSolvesUptoCard

/-- THE SECOND FORM's CARD OF 'marquetrylaw20.WheresKnows'. -/
def wheresKnowsUptoCard : Claim7 := { stood := { row := wheresKnowsUptoRow, standIns := [], harness := (true, "6b20facb86a664243df916d3f15806a5aee8dd4bde1f3765ff1a8825ed5ad3ff"), looks := false }, kinds := [], alts := [], laidByText := true, laidKinds := [.data, .pinned], laidTests := true, laidLooks := .later }
def WheresKnowsUptoCardSaid : Prop := Claim7.holds Tryz.pinned (.plain (OpenSpec.upto wheresKnowsSpec)) wheresKnowsUptoCard
end Rows
end Go.Proofs.YtdajnmffoopcaaaGreatDoor
