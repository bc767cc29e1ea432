import Derived.Test.YtodlnnoekccmmaaGreatDoorMWMore
import Derived.Test.YtodlnnoekccmmaaGreatDoorMWRepsOne
import Derived.Test.YtodlnnoekccmmaaGreatDoorMWNEv
namespace Go.Proofs.YtodlnnoekccmmaaGreatDoor.LibX
open Go.RowKit Go.Proofs.YtodlnnoekccmmaaGreatDoorW.PrintWords Go.Proofs.YtodlnnoekccmmaaGreatDoorW.PrintLast Go.Proofs.YtodlnnoekccmmaaGreatDoorW.PrintMore
set_option linter.unusedVariables false
set_option linter.unusedSimpArgs false

def cpy (xs : List Int) (lo m : Nat) (ys : List Int) : List Int := xs.take lo ++ ys.take m ++ xs.drop (lo + min ys.length m)
theorem cpy_length {xs ys : List Int} {lo m : Nat} (h : lo + m ≤ xs.length) : (cpy xs lo m ys).length = xs.length := by
  unfold cpy
  rw [List.length_append, List.length_append, List.length_take, List.length_take, List.length_drop]
  omega

end Go.Proofs.YtodlnnoekccmmaaGreatDoor.LibX
