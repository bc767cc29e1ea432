/- The machine's side of a law, written by a program of this session for this claim. -/
import Derived.Test.YtcohcndliaaacaaZFnCartNewQq
import Derived.Test.YtcohcndliaaacaaZFnCartNewQFnCartNewx0
import Derived.Test.YtcohcndliaaacaaZFnCartNewQFnCartNewx1
import Derived.Test.YtcohcndliaaacaaZFnCartNewQFnCartNewx2
import Derived.Test.YtcohcndliaaacaaZFnCartNewQFnCartNewx3
import Derived.Test.YtcohcndliaaacaaZFnCartNewQFnCartNewx4
import Derived.Test.YtcohcndliaaacaaZFnCartNewQFnCartNewx5
import Derived.Test.YtcohcndliaaacaaZFnCartNewQFnCartNewx6
import Derived.Test.YtcohcndliaaacaaZFnCartNewQFnCartNewx7
import Derived.Test.YtcohcndliaaacaaZFnCartNewQFnCartNewx8
import Derived.Test.YtcohcndliaaacaaZFnCartNewQFnCartNewx9
import Derived.Test.YtcohcndliaaacaaZFnCartNewQFnCartNewx10
import Derived.Test.YtcohcndliaaacaaZFnCartNewQFnCartNewx11
namespace Go.Proofs.Ytcohcndliaaacaa.QFnCartNew
open Go.Proofs.Ytcohcndliaaacaa.Qq
open Go.RowKit Go.Proofs.Ytcohcndliaaacaa.LibX Go.Proofs.Ytcohcndliaaacaa.LibC Go.Proofs.Ytcohcndliaaacaa.LibE Go.Proofs.YtcohcndliaaacaaW.PrintWords Go.Proofs.YtcohcndliaaacaaW.PrintLast Go.Proofs.YtcohcndliaaacaaW.PrintMore
attribute [local go_sem] max2_int min2_int max_two min_two max_three min_three max_four min_four   -- for this text's walks alone
set_option maxHeartbeats 8000000
set_option maxRecDepth 100000
set_option linter.unusedVariables false
set_option linter.unusedSimpArgs false
end Go.Proofs.Ytcohcndliaaacaa.QFnCartNew
