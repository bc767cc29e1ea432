/- The machine's side of a law, written by a program of this session for this claim. -/
import Derived.Test.YtcohcndliaaacaaDoorProg
import Derived.Below
import Derived.Deep.Draws
import Derived.Deep.AppendLies
import Derived.Maps.AppendAt
import Derived.OwnWalk
import Derived.Laws.BytesArg
import Derived.Laws.MakeOwn
import Derived.Laws.OwnMore
import Derived.Deep.OwnRows
import Derived.Tactics
import Derived.Lib.ConvBytes
import Derived.Laws.Slices
import Derived.WalkKit
import Derived.KernelRfl
import Derived.RowKit3
import Derived.Deep.LoopGhost
import Derived.Deep.QuietTactic
import Derived.BigQuiet
import Derived.WideLaws
import Derived.Deep.DeepCutAuto
import Derived.Deep.CutBlock
import Derived.Deep.RegionHeld3
import Derived.Laws.Rows
import Derived.Lib.AppendStr
import Derived.ArgAppend
import Derived.Laws.IdiomCopy
import Derived.OrdersHeld
import Derived.Laws.BitsLemmas
import Derived.RowKit
import Derived.Test.YtcohcndliaaacaaDoorLibX
import Derived.Test.YtcohcndliaaacaaDoorLibE
import Derived.Test.YtcohcndliaaacaaDoorWWords
import Derived.Test.YtcohcndliaaacaaDoorWLast
import Derived.Test.YtcohcndliaaacaaDoorWTab
import Derived.Test.YtcohcndliaaacaaDoorWFour
import Derived.Test.YtcohcndliaaacaaDoorWQPut
import Derived.Test.YtcohcndliaaacaaDoorWApart
import Derived.Test.YtcohcndliaaacaaDoorWArr
import Derived.Test.YtcohcndliaaacaaDoorWZeros
import Derived.Test.YtcohcndliaaacaaDoorWFoot
import Derived.Test.YtcohcndliaaacaaDoorWKept
import Derived.Test.YtcohcndliaaacaaDoorWShare
import Derived.Test.YtcohcndliaaacaaDoorWN
import Derived.Test.YtcohcndliaaacaaDoorWFootNe
import Derived.Test.YtcohcndliaaacaaDoorWAt
import Derived.Test.YtcohcndliaaacaaDoorWEqStruct
import Derived.Test.YtcohcndliaaacaaDoorWRepsOne
import Derived.Test.YtcohcndliaaacaaDoorWInv
import Derived.Test.YtcohcndliaaacaaDoorWInvWords
import Derived.Test.YtcohcndliaaacaaDoorWGuard
import Derived.Test.YtcohcndliaaacaaDoorWNEv
import Derived.Test.YtcohcndliaaacaaDoorWMore
namespace Go.Proofs.YtcohcndliaaacaaDoor.QFnExactHeaderOf
open Go.RowKit Go.Proofs.YtcohcndliaaacaaDoor.LibX Go.Proofs.YtcohcndliaaacaaDoor.LibE Go.Proofs.YtcohcndliaaacaaDoorW.PrintWords Go.Proofs.YtcohcndliaaacaaDoorW.PrintLast Go.Proofs.YtcohcndliaaacaaDoorW.PrintMore
attribute [local go_sem] max2_int min2_int max_two min_two max_three min_three max_four min_four   -- for this text's walks alone
set_option linter.unusedVariables false
set_option linter.unusedSimpArgs false



def errW : Option Int → Value
  | none => .nilIface
  | some c => .iface 0 (.int .i64 c)
theorem errW_none : errW none = .nilIface := rfl
theorem errW_some (c : Int) : errW (some c) = .iface 0 (.int .i64 c) := rfl

-- the values' own types

end Go.Proofs.YtcohcndliaaacaaDoor.QFnExactHeaderOf
