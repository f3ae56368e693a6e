import Derived.Test.YtcnmelpnbfdgeaaDoorProg
import Derived.Below
import Derived.Deep.Draws
import Derived.Deep.AppendLies
import Derived.Maps.AppendAt
import Derived.OwnWalk
import Derived.Laws.BytesArg
import Derived.Laws.MakeOwn
import Derived.Laws.OwnMore
import Derived.Deep.OwnRows
import Derived.Tactics
import Derived.Lib.ConvBytes
import Derived.Laws.Slices
import Derived.WalkKit
import Derived.KernelRfl
import Derived.RowKit3
import Derived.Deep.LoopGhost
import Derived.Deep.QuietTactic
import Derived.BigQuiet
import Derived.WideLaws
import Derived.Deep.DeepCutAuto
import Derived.Deep.CutBlock
import Derived.Deep.RegionHeld3
import Derived.Laws.Rows
import Derived.Lib.AppendStr
import Derived.ArgAppend
import Derived.Laws.IdiomCopy
import Derived.OrdersHeld
import Derived.Laws.BitsLemmas
import Derived.RowKit
import Derived.Test.YtcnmelpnbfdgeaaDoorWWords
import Derived.Test.YtcnmelpnbfdgeaaDoorWLast
import Derived.Test.YtcnmelpnbfdgeaaDoorWTab
import Derived.Test.YtcnmelpnbfdgeaaDoorWFour
import Derived.Test.YtcnmelpnbfdgeaaDoorWQPut
import Derived.Test.YtcnmelpnbfdgeaaDoorWApart
import Derived.Test.YtcnmelpnbfdgeaaDoorWArr
import Derived.Test.YtcnmelpnbfdgeaaDoorWZeros
import Derived.Test.YtcnmelpnbfdgeaaDoorWFoot
import Derived.Test.YtcnmelpnbfdgeaaDoorWKept
import Derived.Test.YtcnmelpnbfdgeaaDoorWShare
import Derived.Test.YtcnmelpnbfdgeaaDoorWN
import Derived.Test.YtcnmelpnbfdgeaaDoorWFootNe
import Derived.Test.YtcnmelpnbfdgeaaDoorWAt
import Derived.Test.YtcnmelpnbfdgeaaDoorWEqStruct
import Derived.Test.YtcnmelpnbfdgeaaDoorWRepsOne
import Derived.Test.YtcnmelpnbfdgeaaDoorWInv
import Derived.Test.YtcnmelpnbfdgeaaDoorWInvWords
import Derived.Test.YtcnmelpnbfdgeaaDoorWGuard
import Derived.Test.YtcnmelpnbfdgeaaDoorWNEv
import Derived.Test.YtcnmelpnbfdgeaaDoorWMore
namespace Go.Proofs.YtcnmelpnbfdgeaaDoor.PAll
open Go.RowKit Go.Proofs.YtcnmelpnbfdgeaaDoorW.PrintWords Go.Proofs.YtcnmelpnbfdgeaaDoorW.PrintLast Go.Proofs.YtcnmelpnbfdgeaaDoorW.PrintMore
attribute [local go_sem] max2_int min2_int max_two min_two max_three min_three max_four min_four   -- for this text's walks alone
set_option linter.unusedVariables false
set_option linter.unusedSimpArgs false



def errW : Option Int → Value
  | none => .nilIface
  | some c => .iface 0 (.int .i64 c)
theorem errW_none : errW none = .nilIface := rfl
theorem errW_some (c : Int) : errW (some c) = .iface 0 (.int .i64 c) := rfl

theorem info21 : (Tryd.prog.info? 21).map (fun i => (i.zero, i.size, i.bytes)) = some (some (.int .i32 0), 1, 4) := by kernel_rfl
-- the values' own types

end Go.Proofs.YtcnmelpnbfdgeaaDoor.PAll
