/- The machine's side of a law, written by a program of this session for this claim. -/
import Derived.Test.YtcohcndliaaacaaProg
import Derived.Below
import Derived.Deep.Draws
import Derived.Deep.AppendLies
import Derived.Maps.AppendAt
import Derived.OwnWalk
import Derived.Laws.BytesArg
import Derived.Laws.MakeOwn
import Derived.Laws.OwnMore
import Derived.Deep.OwnRows
import Derived.Tactics
import Derived.Lib.ConvBytes
import Derived.Laws.Slices
import Derived.WalkKit
import Derived.KernelRfl
import Derived.RowKit3
import Derived.Deep.LoopGhost
import Derived.Deep.QuietTactic
import Derived.BigQuiet
import Derived.WideLaws
import Derived.Deep.DeepCutAuto
import Derived.Deep.CutBlock
import Derived.Deep.RegionHeld3
import Derived.Laws.Rows
import Derived.Lib.AppendStr
import Derived.ArgAppend
import Derived.Laws.IdiomCopy
import Derived.OrdersHeld
import Derived.Laws.BitsLemmas
import Derived.RowKit
import Derived.Test.YtcohcndliaaacaaLibX
import Derived.Test.YtcohcndliaaacaaLibE
import Derived.Test.YtcohcndliaaacaaLibG
import Derived.Test.YtcohcndliaaacaaLibHD
import Derived.Test.YtcohcndliaaacaaWWords
import Derived.Test.YtcohcndliaaacaaWLast
import Derived.Test.YtcohcndliaaacaaWTab
import Derived.Test.YtcohcndliaaacaaWFour
import Derived.Test.YtcohcndliaaacaaWQPut
import Derived.Test.YtcohcndliaaacaaWApart
import Derived.Test.YtcohcndliaaacaaWArr
import Derived.Test.YtcohcndliaaacaaWZeros
import Derived.Test.YtcohcndliaaacaaWFoot
import Derived.Test.YtcohcndliaaacaaWKept
import Derived.Test.YtcohcndliaaacaaWShare
import Derived.Test.YtcohcndliaaacaaWN
import Derived.Test.YtcohcndliaaacaaWFootNe
import Derived.Test.YtcohcndliaaacaaWAt
import Derived.Test.YtcohcndliaaacaaWEqStruct
import Derived.Test.YtcohcndliaaacaaWRepsOne
import Derived.Test.YtcohcndliaaacaaWInv
import Derived.Test.YtcohcndliaaacaaWInvWords
import Derived.Test.YtcohcndliaaacaaWGuard
import Derived.Test.YtcohcndliaaacaaWNEv
import Derived.Test.YtcohcndliaaacaaWMore
namespace Go.Proofs.Ytcohcndliaaacaa.QFnDiffs
open Go.RowKit Go.Proofs.Ytcohcndliaaacaa.LibX Go.Proofs.Ytcohcndliaaacaa.LibE Go.Proofs.Ytcohcndliaaacaa.LibG Go.Proofs.Ytcohcndliaaacaa.LibHD Go.Proofs.YtcohcndliaaacaaW.PrintWords Go.Proofs.YtcohcndliaaacaaW.PrintLast Go.Proofs.YtcohcndliaaacaaW.PrintMore
attribute [local go_sem] max2_int min2_int max_two min_two max_three min_three max_four min_four   -- for this text's walks alone
set_option linter.unusedVariables false
set_option linter.unusedSimpArgs false



def errW : Option Int → Value
  | none => .nilIface
  | some c => .iface 0 (.int .i64 c)
theorem errW_none : errW none = .nilIface := rfl
theorem errW_some (c : Int) : errW (some c) = .iface 0 (.int .i64 c) := rfl

theorem info5 : (Try.prog.info? 5).map (fun i => (i.zero, i.size, i.bytes)) = some (some (.int .u8 0), 1, 1) := by kernel_rfl
-- the values' own types

end Go.Proofs.Ytcohcndliaaacaa.QFnDiffs
