import Derived.Test.YtoiiaklmjpiejaaDoorSWAll
namespace Go.Proofs.YtoiiaklmjpiejaaDoor.LibX
open Go.RowKit Go.Proofs.YtoiiaklmjpiejaaDoorW.PrintWords Go.Proofs.YtoiiaklmjpiejaaDoorW.PrintLast Go.Proofs.YtoiiaklmjpiejaaDoorW.PrintMore
set_option linter.unusedVariables false
set_option linter.unusedSimpArgs false
theorem isEmpty_beq (l:List UInt8):l.isEmpty = (l == []):=by cases l <;> rfl
end Go.Proofs.YtoiiaklmjpiejaaDoor.LibX
