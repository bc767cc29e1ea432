/- The machine's side of a law, written by a program of this session for this claim. -/
import Derived.Test.YtcohcndliaaacaaQFnExactFixedx0
import Derived.Test.YtcohcndliaaacaaQFnExactFixedx1
import Derived.Test.YtcohcndliaaacaaQFnExactFixedx2
import Derived.Test.YtcohcndliaaacaaQFnExactFixedx3
import Derived.Test.YtcohcndliaaacaaQFnExactFixedx4
namespace Go.Proofs.Ytcohcndliaaacaa.QFnExactFixed
open Go.RowKit Go.Proofs.Ytcohcndliaaacaa.LibX Go.Proofs.Ytcohcndliaaacaa.LibC Go.Proofs.Ytcohcndliaaacaa.LibE Go.Proofs.YtcohcndliaaacaaW.PrintWords Go.Proofs.YtcohcndliaaacaaW.PrintLast Go.Proofs.YtcohcndliaaacaaW.PrintMore
attribute [local go_sem] max2_int min2_int max_two min_two max_three min_three max_four min_four   -- for this text's walks alone
set_option linter.unusedVariables false
set_option linter.unusedSimpArgs false

end Go.Proofs.Ytcohcndliaaacaa.QFnExactFixed
