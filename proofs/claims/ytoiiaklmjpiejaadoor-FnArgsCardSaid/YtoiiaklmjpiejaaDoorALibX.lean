import Derived.Test.YtoiiaklmjpiejaaDoorAWAll
namespace Go.Proofs.YtoiiaklmjpiejaaDoor.LibX
open Go.RowKit Go.Proofs.YtoiiaklmjpiejaaDoorW.PrintWords Go.Proofs.YtoiiaklmjpiejaaDoorW.PrintLast Go.Proofs.YtoiiaklmjpiejaaDoorW.PrintMore
set_option linter.unusedVariables false
set_option linter.unusedSimpArgs false
end Go.Proofs.YtoiiaklmjpiejaaDoor.LibX
