/- The machine's side of a law, written by a program of this session for this claim. -/
import Derived.Test.YtodlnnoekccmmaaDoorZQq
import Derived.Test.YtodlnnoekccmmaaDoorZQFnTemplatesx0
import Derived.Test.YtodlnnoekccmmaaDoorZQFnTemplatesx1
import Derived.Test.YtodlnnoekccmmaaDoorZQFnTemplatesx2
import Derived.Test.YtodlnnoekccmmaaDoorZQFnTemplatesx3
import Derived.Test.YtodlnnoekccmmaaDoorZQFnTemplatesx4
import Derived.Test.YtodlnnoekccmmaaDoorZQFnTemplatesx5
import Derived.Test.YtodlnnoekccmmaaDoorZQFnTemplatesx6
import Derived.Test.YtodlnnoekccmmaaDoorZQFnTemplatesx7
import Derived.Test.YtodlnnoekccmmaaDoorZQFnTemplatesx8
import Derived.Test.YtodlnnoekccmmaaDoorZQFnTemplatesx9
import Derived.Test.YtodlnnoekccmmaaDoorZQFnTemplatesx10
namespace Go.Proofs.YtodlnnoekccmmaaDoor.QFnTemplates
open Go.Proofs.YtodlnnoekccmmaaDoor.Qq
open Go.RowKit Go.Proofs.YtodlnnoekccmmaaDoor.LibX Go.Proofs.YtodlnnoekccmmaaDoor.LibE Go.Proofs.YtodlnnoekccmmaaDoorW.PrintWords Go.Proofs.YtodlnnoekccmmaaDoorW.PrintLast Go.Proofs.YtodlnnoekccmmaaDoorW.PrintMore
attribute [local go_sem] max2_int min2_int max_two min_two max_three min_three max_four min_four   -- for this text's walks alone
set_option maxHeartbeats 8000000
set_option maxRecDepth 100000
set_option linter.unusedVariables false
set_option linter.unusedSimpArgs false
end Go.Proofs.YtodlnnoekccmmaaDoor.QFnTemplates
