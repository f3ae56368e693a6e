/-
  DERIVED. GIVEN WITH THE SEED: THE CARDS: each row of YtocaohipfiapkaaGreatDoorRows.lean that lists a variable, with what it lists TIED to the program's text (the seventh form; the later family's looks); each row that meets fmt, with fmt's text TOLD by the authors' own Lean function (tested against real Go, not proved from fmt's source: count such statements apart). THE CARD IS WHAT COUNTS. Prove the row's statement (the work); the ties are given (YtocaohipfiapkaaGreatDoorTie.lean); close each card by the builder's one call (the guide's Derived/Test/ToyasCard.lean, 'card_holds'). Laid BY PROGRAM, IN A SANDBOX (cutbox-door.mjs). By AI agents, Wed Nov 11 2026. No macro, syntax, notation, axiom, sorry.
-/
import Derived.Test.YtocaohipfiapkaaGreatDoorRows
import GoSem.ClaimSeven
namespace Go.Proofs.YtocaohipfiapkaaGreatDoor
namespace Rows

/-- THE TIED CARD OF 'marquetrylaw19.SemToken'. -/
def semTokenCard : Claim7 := { stood := { row := semTokenRow, standIns := [], harness := (true, "9442de19b77f6ae94d74e5831ace8cc607042b0f6886408787de05184e9904ca"), looks := false }, kinds := [], alts := [], laidByText := true, laidKinds := [.data, .pinned], laidTests := true, laidLooks := .later }
def SemTokenCardSaid : Prop := Claim7.holds Tryz.pinned (.plain (OpenSpec.ofChange semTokenSpec)) semTokenCard

/-- THE SECOND FORM's CARD OF 'marquetrylaw19.SemToken'. -/
def semTokenUptoCard : Claim7 := { stood := { row := semTokenUptoRow, standIns := [], harness := (true, "9442de19b77f6ae94d74e5831ace8cc607042b0f6886408787de05184e9904ca"), looks := false }, kinds := [], alts := [], laidByText := true, laidKinds := [.data, .pinned], laidTests := true, laidLooks := .later }
def SemTokenUptoCardSaid : Prop := Claim7.holds Tryz.pinned (.plain (OpenSpec.upto semTokenSpec)) semTokenUptoCard
end Rows
end Go.Proofs.YtocaohipfiapkaaGreatDoor
