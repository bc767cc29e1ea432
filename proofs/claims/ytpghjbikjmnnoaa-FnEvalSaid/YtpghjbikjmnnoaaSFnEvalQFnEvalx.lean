/- The machine's side of a law,written by a program of this session for this claim. -/
import Derived.Test.YtpghjbikjmnnoaaSFnEvalQq
import Derived.Test.YtpghjbikjmnnoaaSFnEvalQFnEvalx0
import Derived.Test.YtpghjbikjmnnoaaSFnEvalQFnEvalx1
import Derived.Test.YtpghjbikjmnnoaaSFnEvalQFnEvalx2
import Derived.Test.YtpghjbikjmnnoaaSFnEvalQFnEvalx3
import Derived.Test.YtpghjbikjmnnoaaSFnEvalQFnEvalx4
import Derived.Test.YtpghjbikjmnnoaaSFnEvalQFnEvalx5
import Derived.Test.YtpghjbikjmnnoaaSFnEvalQFnEvalx6
import Derived.Test.YtpghjbikjmnnoaaSFnEvalQFnEvalx7
import Derived.Test.YtpghjbikjmnnoaaSFnEvalQFnEvalx8
import Derived.Test.YtpghjbikjmnnoaaSFnEvalQFnEvalx9
import Derived.Test.YtpghjbikjmnnoaaSFnEvalQFnEvalx10
namespace Go.Proofs.Ytpghjbikjmnnoaa.QFnEval
open Go.Proofs.Ytpghjbikjmnnoaa.Qq
open Go.RowKit Go.Proofs.Ytpghjbikjmnnoaa.LibX Go.Proofs.Ytpghjbikjmnnoaa.LibG Go.Proofs.Ytpghjbikjmnnoaa.LibCv Go.Proofs.Ytpghjbikjmnnoaa.LibNm Go.Proofs.Ytpghjbikjmnnoaa.LibIx Go.Proofs.YtpghjbikjmnnoaaW.PrintWords Go.Proofs.YtpghjbikjmnnoaaW.PrintLast Go.Proofs.YtpghjbikjmnnoaaW.PrintMore
attribute [local go_sem] max2_int min2_int max_two min_two max_three min_three max_four min_four   -- for this text's walks alone
set_option maxHeartbeats 8000000
set_option maxRecDepth 100000
set_option linter.unusedVariables false
set_option linter.unusedSimpArgs false
end Go.Proofs.Ytpghjbikjmnnoaa.QFnEval
