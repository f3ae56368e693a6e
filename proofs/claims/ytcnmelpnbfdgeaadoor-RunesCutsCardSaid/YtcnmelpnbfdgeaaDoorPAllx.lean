import Derived.Test.YtcnmelpnbfdgeaaDoorPAllx0
import Derived.Test.YtcnmelpnbfdgeaaDoorPAllx1
import Derived.Test.YtcnmelpnbfdgeaaDoorPAllx2
import Derived.Test.YtcnmelpnbfdgeaaDoorPAllx3
import Derived.Test.YtcnmelpnbfdgeaaDoorPAllx4
import Derived.Test.YtcnmelpnbfdgeaaDoorPAllx5
namespace Go.Proofs.YtcnmelpnbfdgeaaDoor.PAll
open Go.RowKit Go.Proofs.YtcnmelpnbfdgeaaDoorW.PrintWords Go.Proofs.YtcnmelpnbfdgeaaDoorW.PrintLast Go.Proofs.YtcnmelpnbfdgeaaDoorW.PrintMore
attribute [local go_sem] max2_int min2_int max_two min_two max_three min_three max_four min_four   -- for this text's walks alone
set_option linter.unusedVariables false
set_option linter.unusedSimpArgs false

end Go.Proofs.YtcnmelpnbfdgeaaDoor.PAll
