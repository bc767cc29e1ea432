import Derived.Test.YtoiiaklmjpiejaaSFnNamesInWAll
namespace Go.Proofs.Ytoiiaklmjpiejaa.LibX
open Go.RowKit Go.Proofs.YtoiiaklmjpiejaaW.PrintWords Go.Proofs.YtoiiaklmjpiejaaW.PrintLast Go.Proofs.YtoiiaklmjpiejaaW.PrintMore
set_option linter.unusedVariables false
set_option linter.unusedSimpArgs false
theorem isEmpty_beq (l:List UInt8):l.isEmpty = (l == []):=by cases l <;> rfl
end Go.Proofs.Ytoiiaklmjpiejaa.LibX
