import Derived.Test.YtodlnnoekccmmaaDoorZWMore
import Derived.Test.YtodlnnoekccmmaaDoorZWRepsOne
import Derived.Test.YtodlnnoekccmmaaDoorZWNEv
namespace Go.Proofs.YtodlnnoekccmmaaDoor.LibX
open Go.RowKit Go.Proofs.YtodlnnoekccmmaaDoorW.PrintWords Go.Proofs.YtodlnnoekccmmaaDoorW.PrintLast Go.Proofs.YtodlnnoekccmmaaDoorW.PrintMore
set_option linter.unusedVariables false
set_option linter.unusedSimpArgs false

end Go.Proofs.YtodlnnoekccmmaaDoor.LibX
