/- The machine's side of a law, written by a program of this session for this claim. -/
import Derived.Test.YtcohcndliaaacaaDoorZQq
import Derived.Test.YtcohcndliaaacaaDoorZQFnFixedx0
import Derived.Test.YtcohcndliaaacaaDoorZQFnFixedx1
import Derived.Test.YtcohcndliaaacaaDoorZQFnFixedx2
import Derived.Test.YtcohcndliaaacaaDoorZQFnFixedx3
import Derived.Test.YtcohcndliaaacaaDoorZQFnFixedx4
import Derived.Test.YtcohcndliaaacaaDoorZQFnFixedx5
import Derived.Test.YtcohcndliaaacaaDoorZQFnFixedx6
import Derived.Test.YtcohcndliaaacaaDoorZQFnFixedx7
import Derived.Test.YtcohcndliaaacaaDoorZQFnFixedx8
import Derived.Test.YtcohcndliaaacaaDoorZQFnFixedx9
import Derived.Test.YtcohcndliaaacaaDoorZQFnFixedx10
import Derived.Test.YtcohcndliaaacaaDoorZQFnFixedx11
import Derived.Test.YtcohcndliaaacaaDoorZQFnFixedx12
namespace Go.Proofs.YtcohcndliaaacaaDoor.QFnFixed
open Go.Proofs.YtcohcndliaaacaaDoor.Qq
open Go.RowKit Go.Proofs.YtcohcndliaaacaaDoor.LibX Go.Proofs.YtcohcndliaaacaaDoor.LibE Go.Proofs.YtcohcndliaaacaaDoorW.PrintWords Go.Proofs.YtcohcndliaaacaaDoorW.PrintLast Go.Proofs.YtcohcndliaaacaaDoorW.PrintMore
attribute [local go_sem] max2_int min2_int max_two min_two max_three min_three max_four min_four   -- for this text's walks alone
set_option maxHeartbeats 8000000
set_option maxRecDepth 100000
set_option linter.unusedVariables false
set_option linter.unusedSimpArgs false
end Go.Proofs.YtcohcndliaaacaaDoor.QFnFixed
