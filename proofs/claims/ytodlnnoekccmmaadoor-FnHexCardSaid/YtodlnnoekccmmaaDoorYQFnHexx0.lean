/- The machine's side of a law, written by a program of this session for this claim. -/
import Derived.Test.YtodlnnoekccmmaaDoorYQq
import Derived.Test.YtodlnnoekccmmaaDoorProg
import Derived.Below
import Derived.Deep.Draws
import Derived.Deep.AppendLies
import Derived.Maps.AppendAt
import Derived.OwnWalk
import Derived.Laws.BytesArg
import Derived.Laws.MakeOwn
import Derived.Laws.OwnMore
import Derived.Deep.OwnRows
import Derived.Tactics
import Derived.Lib.ConvBytes
import Derived.Laws.Slices
import Derived.WalkKit
import Derived.KernelRfl
import Derived.RowKit3
import Derived.Deep.LoopGhost
import Derived.Deep.QuietTactic
import Derived.BigQuiet
import Derived.WideLaws
import Derived.Deep.DeepCutAuto
import Derived.Deep.CutBlock
import Derived.Deep.RegionHeld3
import Derived.Laws.Rows
import Derived.Lib.AppendStr
import Derived.ArgAppend
import Derived.Laws.IdiomCopy
import Derived.OrdersHeld
import Derived.Laws.BitsLemmas
import Derived.RowKit
import Derived.Test.YtodlnnoekccmmaaDoorYLibX
import Derived.Test.YtodlnnoekccmmaaDoorYLibE
import Derived.Test.YtodlnnoekccmmaaDoorYWWords
import Derived.Test.YtodlnnoekccmmaaDoorYWLast
import Derived.Test.YtodlnnoekccmmaaDoorYWTab
import Derived.Test.YtodlnnoekccmmaaDoorYWFour
import Derived.Test.YtodlnnoekccmmaaDoorYWQPut
import Derived.Test.YtodlnnoekccmmaaDoorYWApart
import Derived.Test.YtodlnnoekccmmaaDoorYWArr
import Derived.Test.YtodlnnoekccmmaaDoorYWZeros
import Derived.Test.YtodlnnoekccmmaaDoorYWFoot
import Derived.Test.YtodlnnoekccmmaaDoorYWKept
import Derived.Test.YtodlnnoekccmmaaDoorYWShare
import Derived.Test.YtodlnnoekccmmaaDoorYWN
import Derived.Test.YtodlnnoekccmmaaDoorYWFootNe
import Derived.Test.YtodlnnoekccmmaaDoorYWAt
import Derived.Test.YtodlnnoekccmmaaDoorYWEqStruct
import Derived.Test.YtodlnnoekccmmaaDoorYWRepsOne
import Derived.Test.YtodlnnoekccmmaaDoorYWInv
import Derived.Test.YtodlnnoekccmmaaDoorYWInvWords
import Derived.Test.YtodlnnoekccmmaaDoorYWGuard
import Derived.Test.YtodlnnoekccmmaaDoorYWNEv
import Derived.Test.YtodlnnoekccmmaaDoorYWMore
namespace Go.Proofs.YtodlnnoekccmmaaDoor.QFnHex
open Go.Proofs.YtodlnnoekccmmaaDoor.Qq
open Go.RowKit Go.Proofs.YtodlnnoekccmmaaDoor.LibX Go.Proofs.YtodlnnoekccmmaaDoor.LibE Go.Proofs.YtodlnnoekccmmaaDoorW.PrintWords Go.Proofs.YtodlnnoekccmmaaDoorW.PrintLast Go.Proofs.YtodlnnoekccmmaaDoorW.PrintMore
attribute [local go_sem] max2_int min2_int max_two min_two max_three min_three max_four min_four   -- for this text's walks alone
set_option maxHeartbeats 8000000
set_option maxRecDepth 100000
set_option linter.unusedVariables false
set_option linter.unusedSimpArgs false
def errW : Option Int → Value
 | none => .nilIface
 | some c => .iface 0 (.int .i64 c)
theorem errW_none : errW none = .nilIface := rfl
theorem errW_some (c : Int) : errW (some c) = .iface 0 (.int .i64 c) := rfl
theorem info2 : (Tryd.prog.info? 2).map (fun i => (i.zero, i.size, i.bytes)) = some (some (.int .i64 0), 1, 8) := by kernel_rfl
-- the values' own types
end Go.Proofs.YtodlnnoekccmmaaDoor.QFnHex
