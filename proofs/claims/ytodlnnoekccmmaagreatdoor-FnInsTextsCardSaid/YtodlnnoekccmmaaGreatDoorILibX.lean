import Derived.Test.YtodlnnoekccmmaaGreatDoorIWAll
namespace Go.Proofs.YtodlnnoekccmmaaGreatDoor.LibX
open Go.RowKit Go.Proofs.YtodlnnoekccmmaaGreatDoorW.PrintWords Go.Proofs.YtodlnnoekccmmaaGreatDoorW.PrintLast Go.Proofs.YtodlnnoekccmmaaGreatDoorW.PrintMore
set_option linter.unusedVariables false
set_option linter.unusedSimpArgs false
theorem isEmpty_beq (l:List UInt8):l.isEmpty = (l == []):=by cases l <;> rfl
end Go.Proofs.YtodlnnoekccmmaaGreatDoor.LibX
