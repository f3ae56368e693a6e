/-
  DERIVED. GIVEN WITH THE SEED: THE CARDS: each row of YtdajnmffoopcaaaDoorRows.lean that lists a variable, with what it lists TIED to the program's text (the seventh form; the later family's looks); each row that meets fmt, with fmt's text TOLD by the authors' own Lean function (tested against real Go, not proved from fmt's source: count such statements apart). THE CARD IS WHAT COUNTS. Prove the row's statement (the work); the ties are given (YtdajnmffoopcaaaDoorTie.lean); close each card by the builder's one call (the guide's Derived/Test/ToyasCard.lean, 'card_holds'). Laid BY PROGRAM, IN A SANDBOX (cutbox-door.mjs). By AI agents, Wed Nov 11 2026. No macro, syntax, notation, axiom, sorry.
-/
import Derived.Test.YtdajnmffoopcaaaDoorRows
import GoSem.ClaimSeven
namespace Go.Proofs.YtdajnmffoopcaaaDoor
namespace Rows

/-- THE TIED CARD OF 'marquetrylaw20.WheresStands'. -/
def wheresStandsCard : Claim7 := { stood := { row := wheresStandsRow, standIns := [], harness := (true, "d3c95475d70a10c44e85ebec42b17801ea91705cc3c4835fdc85d63cc28011ab"), looks := false }, kinds := [], alts := [], laidByText := true, laidKinds := [.data, .pinned], laidTests := true, laidLooks := .later }
def WheresStandsCardSaid : Prop := Claim7.holds Tryd.pinned (.plain (OpenSpec.ofChange wheresStandsSpec)) wheresStandsCard

/-- THE TIED CARD OF 'marquetrylaw20.WheresShared'. -/
def wheresSharedCard : Claim7 := { stood := { row := wheresSharedRow, standIns := [], harness := (true, "d3c95475d70a10c44e85ebec42b17801ea91705cc3c4835fdc85d63cc28011ab"), looks := false }, kinds := [], alts := [], laidByText := true, laidKinds := [.data, .pinned], laidTests := true, laidLooks := .later }
def WheresSharedCardSaid : Prop := Claim7.holds Tryd.pinned (.plain (OpenSpec.ofChange wheresSharedSpec)) wheresSharedCard

/-- THE SECOND FORM's CARD OF 'marquetrylaw20.WheresStands'. -/
def wheresStandsUptoCard : Claim7 := { stood := { row := wheresStandsUptoRow, standIns := [], harness := (true, "d3c95475d70a10c44e85ebec42b17801ea91705cc3c4835fdc85d63cc28011ab"), looks := false }, kinds := [], alts := [], laidByText := true, laidKinds := [.data, .pinned], laidTests := true, laidLooks := .later }
def WheresStandsUptoCardSaid : Prop := Claim7.holds Tryd.pinned (.plain (OpenSpec.upto wheresStandsSpec)) wheresStandsUptoCard

/-- THE SECOND FORM's CARD OF 'marquetrylaw20.WheresShared'. -/
def wheresSharedUptoCard : Claim7 := { stood := { row := wheresSharedUptoRow, standIns := [], harness := (true, "d3c95475d70a10c44e85ebec42b17801ea91705cc3c4835fdc85d63cc28011ab"), looks := false }, kinds := [], alts := [], laidByText := true, laidKinds := [.data, .pinned], laidTests := true, laidLooks := .later }
def WheresSharedUptoCardSaid : Prop := Claim7.holds Tryd.pinned (.plain (OpenSpec.upto wheresSharedSpec)) wheresSharedUptoCard
end Rows
end Go.Proofs.YtdajnmffoopcaaaDoor
