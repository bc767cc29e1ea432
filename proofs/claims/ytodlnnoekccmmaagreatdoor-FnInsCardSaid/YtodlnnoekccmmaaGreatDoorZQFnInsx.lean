/- The machine's side of a law, written by a program of this session for this claim. -/
import Derived.Test.YtodlnnoekccmmaaGreatDoorZQq
import Derived.Test.YtodlnnoekccmmaaGreatDoorZQFnInsx0
import Derived.Test.YtodlnnoekccmmaaGreatDoorZQFnInsx1
import Derived.Test.YtodlnnoekccmmaaGreatDoorZQFnInsx2
import Derived.Test.YtodlnnoekccmmaaGreatDoorZQFnInsx3
import Derived.Test.YtodlnnoekccmmaaGreatDoorZQFnInsx4
import Derived.Test.YtodlnnoekccmmaaGreatDoorZQFnInsx5
import Derived.Test.YtodlnnoekccmmaaGreatDoorZQFnInsx6
import Derived.Test.YtodlnnoekccmmaaGreatDoorZQFnInsx7
import Derived.Test.YtodlnnoekccmmaaGreatDoorZQFnInsx8
import Derived.Test.YtodlnnoekccmmaaGreatDoorZQFnInsx9
import Derived.Test.YtodlnnoekccmmaaGreatDoorZQFnInsx10
import Derived.Test.YtodlnnoekccmmaaGreatDoorZQFnInsx11
import Derived.Test.YtodlnnoekccmmaaGreatDoorZQFnInsx12
import Derived.Test.YtodlnnoekccmmaaGreatDoorZQFnInsx13
import Derived.Test.YtodlnnoekccmmaaGreatDoorZQFnInsx14
namespace Go.Proofs.YtodlnnoekccmmaaGreatDoor.QFnIns
open Go.Proofs.YtodlnnoekccmmaaGreatDoor.Qq
open Go.RowKit Go.Proofs.YtodlnnoekccmmaaGreatDoor.LibX Go.Proofs.YtodlnnoekccmmaaGreatDoor.LibE Go.Proofs.YtodlnnoekccmmaaGreatDoorW.PrintWords Go.Proofs.YtodlnnoekccmmaaGreatDoorW.PrintLast Go.Proofs.YtodlnnoekccmmaaGreatDoorW.PrintMore
attribute [local go_sem] max2_int min2_int max_two min_two max_three min_three max_four min_four   -- for this text's walks alone
set_option maxHeartbeats 8000000
set_option maxRecDepth 100000
set_option linter.unusedVariables false
set_option linter.unusedSimpArgs false
end Go.Proofs.YtodlnnoekccmmaaGreatDoor.QFnIns
