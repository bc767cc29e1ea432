/- The machine's side of a law, written by a program of this session for this claim. -/
import Derived.Test.YtcohcndliaaacaaDoorYQq
import Derived.Test.YtcohcndliaaacaaDoorProg
import Derived.Below
import Derived.Deep.Draws
import Derived.Deep.AppendLies
import Derived.Maps.AppendAt
import Derived.OwnWalk
import Derived.Laws.BytesArg
import Derived.Laws.MakeOwn
import Derived.Laws.OwnMore
import Derived.Deep.OwnRows
import Derived.Tactics
import Derived.Lib.ConvBytes
import Derived.Laws.Slices
import Derived.WalkKit
import Derived.KernelRfl
import Derived.RowKit3
import Derived.Deep.LoopGhost
import Derived.Deep.QuietTactic
import Derived.BigQuiet
import Derived.WideLaws
import Derived.Deep.DeepCutAuto
import Derived.Deep.CutBlock
import Derived.Deep.RegionHeld3
import Derived.Laws.Rows
import Derived.Lib.AppendStr
import Derived.ArgAppend
import Derived.Laws.IdiomCopy
import Derived.OrdersHeld
import Derived.Laws.BitsLemmas
import Derived.RowKit
import Derived.Test.YtcohcndliaaacaaDoorYLibX
import Derived.Test.YtcohcndliaaacaaDoorYLibE
import Derived.Test.YtcohcndliaaacaaDoorYWWords
import Derived.Test.YtcohcndliaaacaaDoorYWLast
import Derived.Test.YtcohcndliaaacaaDoorYWTab
import Derived.Test.YtcohcndliaaacaaDoorYWFour
import Derived.Test.YtcohcndliaaacaaDoorYWQPut
import Derived.Test.YtcohcndliaaacaaDoorYWApart
import Derived.Test.YtcohcndliaaacaaDoorYWArr
import Derived.Test.YtcohcndliaaacaaDoorYWZeros
import Derived.Test.YtcohcndliaaacaaDoorYWFoot
import Derived.Test.YtcohcndliaaacaaDoorYWKept
import Derived.Test.YtcohcndliaaacaaDoorYWShare
import Derived.Test.YtcohcndliaaacaaDoorYWN
import Derived.Test.YtcohcndliaaacaaDoorYWFootNe
import Derived.Test.YtcohcndliaaacaaDoorYWAt
import Derived.Test.YtcohcndliaaacaaDoorYWEqStruct
import Derived.Test.YtcohcndliaaacaaDoorYWRepsOne
import Derived.Test.YtcohcndliaaacaaDoorYWInv
import Derived.Test.YtcohcndliaaacaaDoorYWInvWords
import Derived.Test.YtcohcndliaaacaaDoorYWGuard
import Derived.Test.YtcohcndliaaacaaDoorYWNEv
import Derived.Test.YtcohcndliaaacaaDoorYWMore
namespace Go.Proofs.YtcohcndliaaacaaDoor.QFnHeaders
open Go.Proofs.YtcohcndliaaacaaDoor.Qq
open Go.RowKit Go.Proofs.YtcohcndliaaacaaDoor.LibX Go.Proofs.YtcohcndliaaacaaDoor.LibE Go.Proofs.YtcohcndliaaacaaDoorW.PrintWords Go.Proofs.YtcohcndliaaacaaDoorW.PrintLast Go.Proofs.YtcohcndliaaacaaDoorW.PrintMore
attribute [local go_sem] max2_int min2_int max_two min_two max_three min_three max_four min_four   -- for this text's walks alone
set_option maxHeartbeats 8000000
set_option maxRecDepth 100000
set_option linter.unusedVariables false
set_option linter.unusedSimpArgs false
def errW : Option Int → Value
 | none => .nilIface
 | some c => .iface 0 (.int .i64 c)
theorem errW_none : errW none = .nilIface := rfl
theorem errW_some (c : Int) : errW (some c) = .iface 0 (.int .i64 c) := rfl
theorem info2 : (Tryd.prog.info? 2).map (fun i => (i.zero, i.size, i.bytes)) = some (some (.int .i64 0), 1, 8) := by kernel_rfl
theorem info5 : (Tryd.prog.info? 5).map (fun i => (i.zero, i.size, i.bytes)) = some (some (.int .u8 0), 1, 1) := by kernel_rfl
theorem info9 : (Tryd.prog.info? 9).map (fun i => (i.zero, i.size, i.bytes)) = some (some (.string ⟨#[]⟩), 1, 16) := by kernel_rfl
-- the values' own types
end Go.Proofs.YtcohcndliaaacaaDoor.QFnHeaders
