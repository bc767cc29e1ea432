/- The machine's side of a law,written by a program of this session for this claim. -/
import Derived.Test.YtoiiaklmjpiejaaSFnNamesInQq
import Derived.Test.YtoiiaklmjpiejaaSFnNamesInQFnNamesInx0
import Derived.Test.YtoiiaklmjpiejaaSFnNamesInQFnNamesInx1
import Derived.Test.YtoiiaklmjpiejaaSFnNamesInQFnNamesInx2
import Derived.Test.YtoiiaklmjpiejaaSFnNamesInQFnNamesInx3
import Derived.Test.YtoiiaklmjpiejaaSFnNamesInQFnNamesInx4
import Derived.Test.YtoiiaklmjpiejaaSFnNamesInQFnNamesInx5
import Derived.Test.YtoiiaklmjpiejaaSFnNamesInQFnNamesInx6
import Derived.Test.YtoiiaklmjpiejaaSFnNamesInQFnNamesInx7
import Derived.Test.YtoiiaklmjpiejaaSFnNamesInQFnNamesInx8
namespace Go.Proofs.Ytoiiaklmjpiejaa.QFnNamesIn
open Go.Proofs.Ytoiiaklmjpiejaa.Qq
open Go.RowKit Go.Proofs.Ytoiiaklmjpiejaa.LibX Go.Proofs.Ytoiiaklmjpiejaa.LibG Go.Proofs.Ytoiiaklmjpiejaa.LibCv Go.Proofs.Ytoiiaklmjpiejaa.LibNm Go.Proofs.YtoiiaklmjpiejaaW.PrintWords Go.Proofs.YtoiiaklmjpiejaaW.PrintLast Go.Proofs.YtoiiaklmjpiejaaW.PrintMore
attribute [local go_sem] max2_int min2_int max_two min_two max_three min_three max_four min_four   -- for this text's walks alone
set_option maxHeartbeats 8000000
set_option maxRecDepth 100000
set_option linter.unusedVariables false
set_option linter.unusedSimpArgs false
end Go.Proofs.Ytoiiaklmjpiejaa.QFnNamesIn
