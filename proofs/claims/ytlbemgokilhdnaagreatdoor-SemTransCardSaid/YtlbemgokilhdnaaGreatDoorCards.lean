/-
  DERIVED. GIVEN WITH THE SEED: THE CARDS: each row of YtlbemgokilhdnaaGreatDoorRows.lean that lists a variable, with what it lists TIED to the program's text (the seventh form; the later family's looks); each row that meets fmt, with fmt's text TOLD by the authors' own Lean function (tested against real Go, not proved from fmt's source: count such statements apart). THE CARD IS WHAT COUNTS. Prove the row's statement (the work); the ties are given (YtlbemgokilhdnaaGreatDoorTie.lean); close each card by the builder's one call (the guide's Derived/Test/ToyasCard.lean, 'card_holds'). Laid BY PROGRAM, IN A SANDBOX (cutbox-door.mjs). By AI agents, Wed Nov 11 2026. No macro, syntax, notation, axiom, sorry.
-/
import Derived.Test.YtlbemgokilhdnaaGreatDoorRows
import GoSem.ClaimSeven
namespace Go.Proofs.YtlbemgokilhdnaaGreatDoor
namespace Rows

/-- THE TIED CARD OF 'marquetrylaw19.SemTrans'. -/
def semTransCard : Claim7 := { stood := { row := semTransRow, standIns := [], harness := (true, "b00d31e27c398cbd7033e4bbbe22a91b222e82cc63f46e6d42a3b9cd4034daf5"), looks := false }, kinds := [], alts := [], laidByText := true, laidKinds := [.data, .pinned], laidTests := true, laidLooks := .later }
def SemTransCardSaid : Prop := Claim7.holds Tryz.pinned (.plain (OpenSpec.ofChange semTransSpec)) semTransCard

/-- THE TIED CARD OF 'marquetrylaw19.SemChecks'. -/
def semChecksCard : Claim7 := { stood := { row := semChecksRow, standIns := [], harness := (true, "b00d31e27c398cbd7033e4bbbe22a91b222e82cc63f46e6d42a3b9cd4034daf5"), looks := false }, kinds := [], alts := [], laidByText := true, laidKinds := [.data, .pinned], laidTests := true, laidLooks := .later }
def SemChecksCardSaid : Prop := Claim7.holds Tryz.pinned (.plain (OpenSpec.ofChange semChecksSpec)) semChecksCard

/-- THE SECOND FORM's CARD OF 'marquetrylaw19.SemTrans'. -/
def semTransUptoCard : Claim7 := { stood := { row := semTransUptoRow, standIns := [], harness := (true, "b00d31e27c398cbd7033e4bbbe22a91b222e82cc63f46e6d42a3b9cd4034daf5"), looks := false }, kinds := [], alts := [], laidByText := true, laidKinds := [.data, .pinned], laidTests := true, laidLooks := .later }
def SemTransUptoCardSaid : Prop := Claim7.holds Tryz.pinned (.plain (OpenSpec.upto semTransSpec)) semTransUptoCard

/-- THE SECOND FORM's CARD OF 'marquetrylaw19.SemChecks'. -/
def semChecksUptoCard : Claim7 := { stood := { row := semChecksUptoRow, standIns := [], harness := (true, "b00d31e27c398cbd7033e4bbbe22a91b222e82cc63f46e6d42a3b9cd4034daf5"), looks := false }, kinds := [], alts := [], laidByText := true, laidKinds := [.data, .pinned], laidTests := true, laidLooks := .later }
def SemChecksUptoCardSaid : Prop := Claim7.holds Tryz.pinned (.plain (OpenSpec.upto semChecksSpec)) semChecksUptoCard
end Rows
end Go.Proofs.YtlbemgokilhdnaaGreatDoor
