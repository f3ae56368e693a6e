/-
  No cell of these rows narrows 'for every input' (looked for: loops, veiled, ifaces, maps, wideKeys, modest, calm, conditions, laid).
  DERIVED. THE GIVEN ROWS OF THIS SEAT. 6 by the template 'for every input the law returns true; each argument reads behind the call as it read before'; 0 by the template 'total and deterministic' (their statements: YtlbemgokilhdnaaTotals.lean).
  GIVEN WITH THE SEED: the statements are not yours to turn. If you find one false, say at which input.
  Laid BY PROGRAM, IN A SANDBOX (cutbox-rows.mjs): the forced cells as the released guide's own fill.sh prints them over the translation ae6061364c40ffb2… (all of the seat's roots in one cut). By AI agents, Wed Nov 11 2026. No macro, syntax, notation, axiom, sorry.
-/
import Derived.Test.YtlbemgokilhdnaaChecked
import GoSem.Claim
import GoSem.ClaimJoined
import GoSem.ClaimMapViews
import Derived.JoinedTies
import Derived.KernelRfl
namespace Go.Proofs.Ytlbemgokilhdnaa
/- THE CELL 'sum', in the pinned program and in every row, IS THE sha256 OF THE DUMP (.gsa) THAT YtlbemgokilhdnaaProg.lean LOADS. Nothing in Lean hashes anything: it is a label: what it is worth is what the hold of that sum in a sandbox is worth. -/
noncomputable def Try.pinned : Pinned := { name := "ytlbemgokilhdnaa", sum := "ae6061364c40ffb2ba6c0f6b6c4173bcb0764123cfe508415d007ad8b1f47894", checked := Try.checked }
namespace Rows
def none {H : Type} : Left H := { results := [], args := [] }

/-- 'marquetrylaw17.GroundTexts': WHATEVER THE INPUT: true; the input reads as it did. -/
def groundTextsSpec : ChangeSpec := { name := "groundTexts", fn := fun _ => fun
  | [d1, d2] => { results := [.lit (.bool true)], args := [d1, d2] }
  | _ => none }
def groundTextsRow : OpenClaim := { program := "ytlbemgokilhdnaa", sum := "ae6061364c40ffb2ba6c0f6b6c4173bcb0764123cfe508415d007ad8b1f47894", func := "marquetry/marquetrylaw17.GroundTexts", spec := "groundTexts", inPlace := ["internal/abi.NoEscape", "internal/bytealg.MakeNoZero"], unfollowed := true, recurses := true, apart := false }
def GroundTextsSaid : Prop := groundTextsRow.holds Try.pinned (OpenSpec.ofChange groundTextsSpec)

/-- ITS FALSE NEIGHBOUR: 'it returns false'. Refute it at one input. -/
def groundTextsWrong : ChangeSpec := { name := "groundTexts", fn := fun _ => fun
  | [d1, d2] => { results := [.lit (.bool false)], args := [d1, d2] }
  | _ => none }
def GroundTextsWrongFalsely : Prop := groundTextsRow.holds Try.pinned (OpenSpec.ofChange groundTextsWrong)

/-- 'marquetrylaw17.GroundLike': WHATEVER THE INPUT: true; the input reads as it did. -/
def groundLikeSpec : ChangeSpec := { name := "groundLike", fn := fun _ => fun
  | [d1, d2] => { results := [.lit (.bool true)], args := [d1, d2] }
  | _ => none }
def groundLikeRow : OpenClaim := { program := "ytlbemgokilhdnaa", sum := "ae6061364c40ffb2ba6c0f6b6c4173bcb0764123cfe508415d007ad8b1f47894", func := "marquetry/marquetrylaw17.GroundLike", spec := "groundLike", inPlace := ["internal/abi.NoEscape", "internal/bytealg.MakeNoZero"], unfollowed := true, recurses := true, apart := false }
def GroundLikeSaid : Prop := groundLikeRow.holds Try.pinned (OpenSpec.ofChange groundLikeSpec)

/-- ITS FALSE NEIGHBOUR: 'it returns false'. Refute it at one input. -/
def groundLikeWrong : ChangeSpec := { name := "groundLike", fn := fun _ => fun
  | [d1, d2] => { results := [.lit (.bool false)], args := [d1, d2] }
  | _ => none }
def GroundLikeWrongFalsely : Prop := groundLikeRow.holds Try.pinned (OpenSpec.ofChange groundLikeWrong)

/-- 'marquetrylaw21.MatchOrder': WHATEVER THE INPUT: true; the input reads as it did. -/
def matchOrderSpec : ChangeSpec := { name := "matchOrder", fn := fun _ => fun
  | [d1, d2, d3] => { results := [.lit (.bool true)], args := [d1, d2, d3] }
  | _ => none }
def matchOrderRow : OpenClaim := { program := "ytlbemgokilhdnaa", sum := "ae6061364c40ffb2ba6c0f6b6c4173bcb0764123cfe508415d007ad8b1f47894", func := "marquetry/marquetrylaw21.MatchOrder", spec := "matchOrder", unfollowed := true, recurses := true, apart := false }
def MatchOrderSaid : Prop := matchOrderRow.holds Try.pinned (OpenSpec.ofChange matchOrderSpec)

/-- ITS FALSE NEIGHBOUR: 'it returns false'. Refute it at one input. -/
def matchOrderWrong : ChangeSpec := { name := "matchOrder", fn := fun _ => fun
  | [d1, d2, d3] => { results := [.lit (.bool false)], args := [d1, d2, d3] }
  | _ => none }
def MatchOrderWrongFalsely : Prop := matchOrderRow.holds Try.pinned (OpenSpec.ofChange matchOrderWrong)

/-- 'marquetrylaw17.GroundTypes': WHATEVER THE INPUT: true; the input reads as it did. -/
def groundTypesSpec : ChangeSpec := { name := "groundTypes", fn := fun _ => fun
  | [d] => { results := [.lit (.bool true)], args := [d] }
  | _ => none }
def groundTypesRow : OpenClaim := { program := "ytlbemgokilhdnaa", sum := "ae6061364c40ffb2ba6c0f6b6c4173bcb0764123cfe508415d007ad8b1f47894", func := "marquetry/marquetrylaw17.GroundTypes", spec := "groundTypes", inPlace := ["internal/abi.NoEscape", "internal/bytealg.MakeNoZero"], unfollowed := true, recurses := true, apart := false }
def GroundTypesSaid : Prop := groundTypesRow.holds Try.pinned (OpenSpec.ofChange groundTypesSpec)

/-- ITS FALSE NEIGHBOUR: 'it returns false'. Refute it at one input. -/
def groundTypesWrong : ChangeSpec := { name := "groundTypes", fn := fun _ => fun
  | [d] => { results := [.lit (.bool false)], args := [d] }
  | _ => none }
def GroundTypesWrongFalsely : Prop := groundTypesRow.holds Try.pinned (OpenSpec.ofChange groundTypesWrong)

/-- 'marquetrylaw17.GroundNormal': WHATEVER THE INPUT: true; the input reads as it did. -/
def groundNormalSpec : ChangeSpec := { name := "groundNormal", fn := fun _ => fun
  | [d] => { results := [.lit (.bool true)], args := [d] }
  | _ => none }
def groundNormalRow : OpenClaim := { program := "ytlbemgokilhdnaa", sum := "ae6061364c40ffb2ba6c0f6b6c4173bcb0764123cfe508415d007ad8b1f47894", func := "marquetry/marquetrylaw17.GroundNormal", spec := "groundNormal", inPlace := ["internal/abi.NoEscape", "internal/bytealg.MakeNoZero"], unfollowed := true, recurses := true, apart := false }
def GroundNormalSaid : Prop := groundNormalRow.holds Try.pinned (OpenSpec.ofChange groundNormalSpec)

/-- ITS FALSE NEIGHBOUR: 'it returns false'. Refute it at one input. -/
def groundNormalWrong : ChangeSpec := { name := "groundNormal", fn := fun _ => fun
  | [d] => { results := [.lit (.bool false)], args := [d] }
  | _ => none }
def GroundNormalWrongFalsely : Prop := groundNormalRow.holds Try.pinned (OpenSpec.ofChange groundNormalWrong)

/-- 'marquetrylaw21.MatchCoerces': WHATEVER THE INPUT: true; the input reads as it did. -/
def matchCoercesSpec : ChangeSpec := { name := "matchCoerces", fn := fun _ => fun
  | [d1, d2] => { results := [.lit (.bool true)], args := [d1, d2] }
  | _ => none }
def matchCoercesRow : OpenClaim := { program := "ytlbemgokilhdnaa", sum := "ae6061364c40ffb2ba6c0f6b6c4173bcb0764123cfe508415d007ad8b1f47894", func := "marquetry/marquetrylaw21.MatchCoerces", spec := "matchCoerces", unfollowed := true, recurses := true, apart := false }
def MatchCoercesSaid : Prop := matchCoercesRow.holds Try.pinned (OpenSpec.ofChange matchCoercesSpec)

/-- ITS FALSE NEIGHBOUR: 'it returns false'. Refute it at one input. -/
def matchCoercesWrong : ChangeSpec := { name := "matchCoerces", fn := fun _ => fun
  | [d1, d2] => { results := [.lit (.bool false)], args := [d1, d2] }
  | _ => none }
def MatchCoercesWrongFalsely : Prop := matchCoercesRow.holds Try.pinned (OpenSpec.ofChange matchCoercesWrong)

/- THE SECOND FORM. 'bulk': how many values and letters a reading holds, each counted each time it is reached (what is shared counts as often as it is met; a slice's spare places count too). A statement '..UptoSaid' is the law's where the arguments, and the package variables that the reading takes, are together of bulk at most 1048576: NARROWER than '..Said'. Prove '..Said' where nothing that the law and all that it calls make is longer than what came in: it says more and counts as full. Else prove '..UptoSaid'. A law counts once. -/
mutual
def uptoBulk {H : Type} : DataW H → Nat
  | .lit (.string bytes) => bytes.length + 1
  | .lit _ => 1
  | .nil => 1
  | .ptr d => uptoBulk d + 1
  | .slice elems spare => uptoBulkAll elems + uptoBulkAll spare + 1
  | .agg parts => uptoBulkAll parts + 1
  | .iface _ d => uptoBulk d + 1
  | .map entries => uptoBulkEntries entries + 1
  | .held _ => 1
def uptoBulkAll {H : Type} : List (DataW H) → Nat
  | [] => 0
  | d :: r => uptoBulk d + uptoBulkAll r
def uptoBulkEntries {H : Type} : List (Lit × DataW H) → Nat
  | [] => 0
  | x :: r => uptoBulkEntry x + uptoBulkEntries r
def uptoBulkEntry {H : Type} : Lit × DataW H → Nat
  | (.string bytes, d) => bytes.length + uptoBulk d + 1
  | (_, d) => uptoBulk d + 1
 end
def uptoSmall : (H : Type) → List (DataW H) → Bool := fun _ ds => decide (uptoBulkAll ds ≤ 1048576)
def OpenSpec.upto (s : _root_.Go.ChangeSpec) : _root_.Go.OpenSpec := { _root_.Go.OpenSpec.ofChange s with cond := some uptoSmall }

/-- 'marquetrylaw17.GroundTexts', WHERE WHAT IT READS IS OF BULK AT MOST 1048576: true; the input reads as it did. -/
def groundTextsUptoRow : OpenClaim := { program := "ytlbemgokilhdnaa", sum := "ae6061364c40ffb2ba6c0f6b6c4173bcb0764123cfe508415d007ad8b1f47894", func := "marquetry/marquetrylaw17.GroundTexts", spec := "groundTexts", inPlace := ["internal/abi.NoEscape", "internal/bytealg.MakeNoZero"], unfollowed := true, recurses := true, apart := false, narrowed := true }
def GroundTextsUptoSaid : Prop := groundTextsUptoRow.holds Try.pinned (OpenSpec.upto groundTextsSpec)

/-- 'marquetrylaw17.GroundLike', WHERE WHAT IT READS IS OF BULK AT MOST 1048576: true; the input reads as it did. -/
def groundLikeUptoRow : OpenClaim := { program := "ytlbemgokilhdnaa", sum := "ae6061364c40ffb2ba6c0f6b6c4173bcb0764123cfe508415d007ad8b1f47894", func := "marquetry/marquetrylaw17.GroundLike", spec := "groundLike", inPlace := ["internal/abi.NoEscape", "internal/bytealg.MakeNoZero"], unfollowed := true, recurses := true, apart := false, narrowed := true }
def GroundLikeUptoSaid : Prop := groundLikeUptoRow.holds Try.pinned (OpenSpec.upto groundLikeSpec)

/-- 'marquetrylaw21.MatchOrder', WHERE WHAT IT READS IS OF BULK AT MOST 1048576: true; the input reads as it did. -/
def matchOrderUptoRow : OpenClaim := { program := "ytlbemgokilhdnaa", sum := "ae6061364c40ffb2ba6c0f6b6c4173bcb0764123cfe508415d007ad8b1f47894", func := "marquetry/marquetrylaw21.MatchOrder", spec := "matchOrder", unfollowed := true, recurses := true, apart := false, narrowed := true }
def MatchOrderUptoSaid : Prop := matchOrderUptoRow.holds Try.pinned (OpenSpec.upto matchOrderSpec)

/-- 'marquetrylaw17.GroundTypes', WHERE WHAT IT READS IS OF BULK AT MOST 1048576: true; the input reads as it did. -/
def groundTypesUptoRow : OpenClaim := { program := "ytlbemgokilhdnaa", sum := "ae6061364c40ffb2ba6c0f6b6c4173bcb0764123cfe508415d007ad8b1f47894", func := "marquetry/marquetrylaw17.GroundTypes", spec := "groundTypes", inPlace := ["internal/abi.NoEscape", "internal/bytealg.MakeNoZero"], unfollowed := true, recurses := true, apart := false, narrowed := true }
def GroundTypesUptoSaid : Prop := groundTypesUptoRow.holds Try.pinned (OpenSpec.upto groundTypesSpec)

/-- 'marquetrylaw17.GroundNormal', WHERE WHAT IT READS IS OF BULK AT MOST 1048576: true; the input reads as it did. -/
def groundNormalUptoRow : OpenClaim := { program := "ytlbemgokilhdnaa", sum := "ae6061364c40ffb2ba6c0f6b6c4173bcb0764123cfe508415d007ad8b1f47894", func := "marquetry/marquetrylaw17.GroundNormal", spec := "groundNormal", inPlace := ["internal/abi.NoEscape", "internal/bytealg.MakeNoZero"], unfollowed := true, recurses := true, apart := false, narrowed := true }
def GroundNormalUptoSaid : Prop := groundNormalUptoRow.holds Try.pinned (OpenSpec.upto groundNormalSpec)

/-- 'marquetrylaw21.MatchCoerces', WHERE WHAT IT READS IS OF BULK AT MOST 1048576: true; the input reads as it did. -/
def matchCoercesUptoRow : OpenClaim := { program := "ytlbemgokilhdnaa", sum := "ae6061364c40ffb2ba6c0f6b6c4173bcb0764123cfe508415d007ad8b1f47894", func := "marquetry/marquetrylaw21.MatchCoerces", spec := "matchCoerces", unfollowed := true, recurses := true, apart := false, narrowed := true }
def MatchCoercesUptoSaid : Prop := matchCoercesUptoRow.holds Try.pinned (OpenSpec.upto matchCoercesSpec)

end Rows
end Go.Proofs.Ytlbemgokilhdnaa
