/- The machine's side of a law, written by a program of this session for this claim. -/
import Derived.Test.YtcohcndliaaacaaQFnDiffsx0
import Derived.Test.YtcohcndliaaacaaQFnDiffsx1
import Derived.Test.YtcohcndliaaacaaQFnDiffsx2
import Derived.Test.YtcohcndliaaacaaQFnDiffsx3
import Derived.Test.YtcohcndliaaacaaQFnDiffsx4
import Derived.Test.YtcohcndliaaacaaQFnDiffsx5
namespace Go.Proofs.Ytcohcndliaaacaa.QFnDiffs
open Go.RowKit Go.Proofs.Ytcohcndliaaacaa.LibX Go.Proofs.Ytcohcndliaaacaa.LibE Go.Proofs.Ytcohcndliaaacaa.LibG Go.Proofs.Ytcohcndliaaacaa.LibHD Go.Proofs.YtcohcndliaaacaaW.PrintWords Go.Proofs.YtcohcndliaaacaaW.PrintLast Go.Proofs.YtcohcndliaaacaaW.PrintMore
attribute [local go_sem] max2_int min2_int max_two min_two max_three min_three max_four min_four   -- for this text's walks alone
set_option linter.unusedVariables false
set_option linter.unusedSimpArgs false

end Go.Proofs.Ytcohcndliaaacaa.QFnDiffs
