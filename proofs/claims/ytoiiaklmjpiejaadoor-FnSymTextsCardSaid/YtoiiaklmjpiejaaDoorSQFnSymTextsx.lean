/- The machine's side of a law,written by a program of this session for this claim. -/
import Derived.Test.YtoiiaklmjpiejaaDoorSQq
import Derived.Test.YtoiiaklmjpiejaaDoorSQFnSymTextsx0
import Derived.Test.YtoiiaklmjpiejaaDoorSQFnSymTextsx1
import Derived.Test.YtoiiaklmjpiejaaDoorSQFnSymTextsx2
import Derived.Test.YtoiiaklmjpiejaaDoorSQFnSymTextsx3
import Derived.Test.YtoiiaklmjpiejaaDoorSQFnSymTextsx4
import Derived.Test.YtoiiaklmjpiejaaDoorSQFnSymTextsx5
import Derived.Test.YtoiiaklmjpiejaaDoorSQFnSymTextsx6
import Derived.Test.YtoiiaklmjpiejaaDoorSQFnSymTextsx7
import Derived.Test.YtoiiaklmjpiejaaDoorSQFnSymTextsx8
import Derived.Test.YtoiiaklmjpiejaaDoorSQFnSymTextsx9
import Derived.Test.YtoiiaklmjpiejaaDoorSQFnSymTextsx10
namespace Go.Proofs.YtoiiaklmjpiejaaDoor.QFnSymTexts
open Go.Proofs.YtoiiaklmjpiejaaDoor.Qq
open Go.RowKit Go.Proofs.YtoiiaklmjpiejaaDoor.LibX Go.Proofs.YtoiiaklmjpiejaaDoor.LibE Go.Proofs.YtoiiaklmjpiejaaDoor.LibCB Go.Proofs.YtoiiaklmjpiejaaDoor.LibG Go.Proofs.YtoiiaklmjpiejaaDoor.LibSY Go.Proofs.YtoiiaklmjpiejaaDoorW.PrintWords Go.Proofs.YtoiiaklmjpiejaaDoorW.PrintLast Go.Proofs.YtoiiaklmjpiejaaDoorW.PrintMore
attribute [local go_sem] max2_int min2_int max_two min_two max_three min_three max_four min_four   -- for this text's walks alone
set_option maxHeartbeats 8000000
set_option maxRecDepth 100000
set_option linter.unusedVariables false
set_option linter.unusedSimpArgs false
end Go.Proofs.YtoiiaklmjpiejaaDoor.QFnSymTexts
