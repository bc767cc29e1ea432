/- The machine's side of a law,written by a program of this session for this claim. -/
import Derived.Test.YtoiiaklmjpiejaaDoorBQq
import Derived.Test.YtoiiaklmjpiejaaDoorBQFnLinesx0
import Derived.Test.YtoiiaklmjpiejaaDoorBQFnLinesx1
import Derived.Test.YtoiiaklmjpiejaaDoorBQFnLinesx2
import Derived.Test.YtoiiaklmjpiejaaDoorBQFnLinesx3
import Derived.Test.YtoiiaklmjpiejaaDoorBQFnLinesx4
import Derived.Test.YtoiiaklmjpiejaaDoorBQFnLinesx5
import Derived.Test.YtoiiaklmjpiejaaDoorBQFnLinesx6
import Derived.Test.YtoiiaklmjpiejaaDoorBQFnLinesx7
import Derived.Test.YtoiiaklmjpiejaaDoorBQFnLinesx8
import Derived.Test.YtoiiaklmjpiejaaDoorBQFnLinesx9
import Derived.Test.YtoiiaklmjpiejaaDoorBQFnLinesx10
import Derived.Test.YtoiiaklmjpiejaaDoorBQFnLinesx11
import Derived.Test.YtoiiaklmjpiejaaDoorBQFnLinesx12
import Derived.Test.YtoiiaklmjpiejaaDoorBQFnLinesx13
namespace Go.Proofs.YtoiiaklmjpiejaaDoor.QFnLines
open Go.Proofs.YtoiiaklmjpiejaaDoor.Qq
open Go.RowKit Go.Proofs.YtoiiaklmjpiejaaDoor.LibX Go.Proofs.YtoiiaklmjpiejaaDoor.LibE Go.Proofs.YtoiiaklmjpiejaaDoor.LibCB Go.Proofs.YtoiiaklmjpiejaaDoor.LibT Go.Proofs.YtoiiaklmjpiejaaDoorW.PrintWords Go.Proofs.YtoiiaklmjpiejaaDoorW.PrintLast Go.Proofs.YtoiiaklmjpiejaaDoorW.PrintMore
attribute [local go_sem] max2_int min2_int max_two min_two max_three min_three max_four min_four   -- for this text's walks alone
set_option maxHeartbeats 8000000
set_option maxRecDepth 100000
set_option linter.unusedVariables false
set_option linter.unusedSimpArgs false
end Go.Proofs.YtoiiaklmjpiejaaDoor.QFnLines
