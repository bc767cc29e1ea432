import Derived.Test.YtabbdfchibjndaaGreatDoorXWAll
namespace Go.Proofs.YtabbdfchibjndaaGreatDoor.LibX
open Go.RowKit Go.Proofs.YtabbdfchibjndaaGreatDoorW.PrintWords Go.Proofs.YtabbdfchibjndaaGreatDoorW.PrintLast Go.Proofs.YtabbdfchibjndaaGreatDoorW.PrintMore
set_option linter.unusedVariables false
set_option linter.unusedSimpArgs false
theorem isEmpty_beq (l:List UInt8):l.isEmpty = (l == []):=by cases l <;> rfl
end Go.Proofs.YtabbdfchibjndaaGreatDoor.LibX
