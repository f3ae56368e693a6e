/- Words, walks and laws under the claim's statement: what it uses of them. No condition of its own. -/
import Derived.Test.YtlbemgokilhdnaaGreatProg
import Derived.Below
import Derived.Deep.Draws
import Derived.Deep.AppendLies
import Derived.Maps.AppendAt
import Derived.OwnWalk
import Derived.Laws.BytesArg
import Derived.Laws.MakeOwn
import Derived.Laws.OwnMore
import Derived.Deep.OwnRows
import Derived.Tactics
import Derived.Lib.ConvBytes
import Derived.Laws.Slices
import Derived.WalkKit
import Derived.KernelRfl
import Derived.RowKit3
import Derived.Deep.LoopGhost
import Derived.Deep.QuietTactic
import Derived.BigQuiet
import Derived.WideLaws
import Derived.Deep.DeepCutAuto
import Derived.Deep.CutBlock
import Derived.Deep.RegionHeld3
import Derived.Laws.Rows
import Derived.Lib.AppendStr
import Derived.ArgAppend
import Derived.Laws.IdiomCopy
import Derived.OrdersHeld
import Derived.Laws.BitsLemmas
import Derived.RowKit
import Derived.Test.YtlbemgokilhdnaaGreatMTW0
import Derived.Laws.StructEq
namespace Go.Proofs.YtlbemgokilhdnaaGreat.PAll
open Go.RowKit Go.Proofs.YtlbemgokilhdnaaGreatW.PrintWords Go.Proofs.YtlbemgokilhdnaaGreatW.PrintLast Go.Proofs.YtlbemgokilhdnaaGreatW.PrintMore
attribute [local go_sem] xM xN aAu aAv tR tS xO xP   -- for this text's walks alone
set_option linter.unusedVariables false
set_option linter.unusedSimpArgs false
end Go.Proofs.YtlbemgokilhdnaaGreat.PAll
namespace Go.Proofs.YtlbemgokilhdnaaGreat.PAll
open Go.RowKit Go.Proofs.YtlbemgokilhdnaaGreatW.PrintWords Go.Proofs.YtlbemgokilhdnaaGreatW.PrintLast Go.Proofs.YtlbemgokilhdnaaGreatW.PrintMore
attribute [local go_sem] xM xN aAu aAv tR tS xO xP   -- for this text's walks alone
set_option linter.unusedVariables false
set_option linter.unusedSimpArgs false
def slices_Reverse_byte_byte.B3 : List Nat := [0, 0, 0, 0, 0, 0, 48, 112, 0, 0, 768, 1792, 4083, 8179, 16383, 32767]
end Go.Proofs.YtlbemgokilhdnaaGreat.PAll
