/- The machine's side of a law,written by a program of this session for this claim. -/
import Derived.Test.YtoiiaklmjpiejaaDoorAQq
import Derived.Test.YtoiiaklmjpiejaaDoorAQFnArgsx0
import Derived.Test.YtoiiaklmjpiejaaDoorAQFnArgsx1
import Derived.Test.YtoiiaklmjpiejaaDoorAQFnArgsx2
import Derived.Test.YtoiiaklmjpiejaaDoorAQFnArgsx3
import Derived.Test.YtoiiaklmjpiejaaDoorAQFnArgsx4
namespace Go.Proofs.YtoiiaklmjpiejaaDoor.QFnArgs
open Go.Proofs.YtoiiaklmjpiejaaDoor.Qq
open Go.RowKit Go.Proofs.YtoiiaklmjpiejaaDoor.LibX Go.Proofs.YtoiiaklmjpiejaaDoor.LibE Go.Proofs.YtoiiaklmjpiejaaDoor.LibCB Go.Proofs.YtoiiaklmjpiejaaDoor.LibT Go.Proofs.YtoiiaklmjpiejaaDoorW.PrintWords Go.Proofs.YtoiiaklmjpiejaaDoorW.PrintLast Go.Proofs.YtoiiaklmjpiejaaDoorW.PrintMore
attribute [local go_sem] max2_int min2_int max_two min_two max_three min_three max_four min_four   -- for this text's walks alone
set_option maxHeartbeats 8000000
set_option maxRecDepth 100000
set_option linter.unusedVariables false
set_option linter.unusedSimpArgs false
end Go.Proofs.YtoiiaklmjpiejaaDoor.QFnArgs
