import Derived.Test.YtpghjbikjmnnoaaSFnEvalWAll
namespace Go.Proofs.Ytpghjbikjmnnoaa.LibX
open Go.RowKit Go.Proofs.YtpghjbikjmnnoaaW.PrintWords Go.Proofs.YtpghjbikjmnnoaaW.PrintLast Go.Proofs.YtpghjbikjmnnoaaW.PrintMore
set_option linter.unusedVariables false
set_option linter.unusedSimpArgs false
theorem isEmpty_beq (l:List UInt8):l.isEmpty = (l == []):=by cases l <;> rfl
end Go.Proofs.Ytpghjbikjmnnoaa.LibX
