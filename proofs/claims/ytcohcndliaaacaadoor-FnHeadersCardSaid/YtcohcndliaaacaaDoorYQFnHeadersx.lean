/- The machine's side of a law, written by a program of this session for this claim. -/
import Derived.Test.YtcohcndliaaacaaDoorYQq
import Derived.Test.YtcohcndliaaacaaDoorYQFnHeadersx0
import Derived.Test.YtcohcndliaaacaaDoorYQFnHeadersx1
import Derived.Test.YtcohcndliaaacaaDoorYQFnHeadersx2
import Derived.Test.YtcohcndliaaacaaDoorYQFnHeadersx3
import Derived.Test.YtcohcndliaaacaaDoorYQFnHeadersx4
import Derived.Test.YtcohcndliaaacaaDoorYQFnHeadersx5
import Derived.Test.YtcohcndliaaacaaDoorYQFnHeadersx6
import Derived.Test.YtcohcndliaaacaaDoorYQFnHeadersx7
import Derived.Test.YtcohcndliaaacaaDoorYQFnHeadersx8
import Derived.Test.YtcohcndliaaacaaDoorYQFnHeadersx9
import Derived.Test.YtcohcndliaaacaaDoorYQFnHeadersx10
import Derived.Test.YtcohcndliaaacaaDoorYQFnHeadersx11
import Derived.Test.YtcohcndliaaacaaDoorYQFnHeadersx12
import Derived.Test.YtcohcndliaaacaaDoorYQFnHeadersx13
import Derived.Test.YtcohcndliaaacaaDoorYQFnHeadersx14
namespace Go.Proofs.YtcohcndliaaacaaDoor.QFnHeaders
open Go.Proofs.YtcohcndliaaacaaDoor.Qq
open Go.RowKit Go.Proofs.YtcohcndliaaacaaDoor.LibX Go.Proofs.YtcohcndliaaacaaDoor.LibE Go.Proofs.YtcohcndliaaacaaDoorW.PrintWords Go.Proofs.YtcohcndliaaacaaDoorW.PrintLast Go.Proofs.YtcohcndliaaacaaDoorW.PrintMore
attribute [local go_sem] max2_int min2_int max_two min_two max_three min_three max_four min_four   -- for this text's walks alone
set_option maxHeartbeats 8000000
set_option maxRecDepth 100000
set_option linter.unusedVariables false
set_option linter.unusedSimpArgs false
end Go.Proofs.YtcohcndliaaacaaDoor.QFnHeaders
