/- The machine's side of a law, written by a program of this session for this claim. -/
import Derived.Test.YtcohcndliaaacaaZFnCartReadsQq
import Derived.Test.YtcohcndliaaacaaProg
import Derived.Below
import Derived.Deep.Draws
import Derived.Deep.AppendLies
import Derived.Maps.AppendAt
import Derived.OwnWalk
import Derived.Laws.BytesArg
import Derived.Laws.MakeOwn
import Derived.Laws.OwnMore
import Derived.Deep.OwnRows
import Derived.Tactics
import Derived.Lib.ConvBytes
import Derived.Laws.Slices
import Derived.WalkKit
import Derived.KernelRfl
import Derived.RowKit3
import Derived.Deep.LoopGhost
import Derived.Deep.QuietTactic
import Derived.BigQuiet
import Derived.WideLaws
import Derived.Deep.DeepCutAuto
import Derived.Deep.CutBlock
import Derived.Deep.RegionHeld3
import Derived.Laws.Rows
import Derived.Lib.AppendStr
import Derived.ArgAppend
import Derived.Laws.IdiomCopy
import Derived.OrdersHeld
import Derived.Laws.BitsLemmas
import Derived.RowKit
import Derived.Test.YtcohcndliaaacaaZFnCartReadsLibX
import Derived.Test.YtcohcndliaaacaaZFnCartReadsLibC
import Derived.Test.YtcohcndliaaacaaZFnCartReadsWWords
import Derived.Test.YtcohcndliaaacaaZFnCartReadsWLast
import Derived.Test.YtcohcndliaaacaaZFnCartReadsWTab
import Derived.Test.YtcohcndliaaacaaZFnCartReadsWFour
import Derived.Test.YtcohcndliaaacaaZFnCartReadsWQPut
import Derived.Test.YtcohcndliaaacaaZFnCartReadsWApart
import Derived.Test.YtcohcndliaaacaaZFnCartReadsWArr
import Derived.Test.YtcohcndliaaacaaZFnCartReadsWZeros
import Derived.Test.YtcohcndliaaacaaZFnCartReadsWFoot
import Derived.Test.YtcohcndliaaacaaZFnCartReadsWKept
import Derived.Test.YtcohcndliaaacaaZFnCartReadsWShare
import Derived.Test.YtcohcndliaaacaaZFnCartReadsWN
import Derived.Test.YtcohcndliaaacaaZFnCartReadsWFootNe
import Derived.Test.YtcohcndliaaacaaZFnCartReadsWAt
import Derived.Test.YtcohcndliaaacaaZFnCartReadsWEqStruct
import Derived.Test.YtcohcndliaaacaaZFnCartReadsWRepsOne
import Derived.Test.YtcohcndliaaacaaZFnCartReadsWInv
import Derived.Test.YtcohcndliaaacaaZFnCartReadsWInvWords
import Derived.Test.YtcohcndliaaacaaZFnCartReadsWGuard
import Derived.Test.YtcohcndliaaacaaZFnCartReadsWNEv
import Derived.Test.YtcohcndliaaacaaZFnCartReadsWMore
namespace Go.Proofs.Ytcohcndliaaacaa.QFnCartReads
open Go.Proofs.Ytcohcndliaaacaa.Qq
open Go.RowKit Go.Proofs.Ytcohcndliaaacaa.LibX Go.Proofs.Ytcohcndliaaacaa.LibC Go.Proofs.YtcohcndliaaacaaW.PrintWords Go.Proofs.YtcohcndliaaacaaW.PrintLast Go.Proofs.YtcohcndliaaacaaW.PrintMore
attribute [local go_sem] max2_int min2_int max_two min_two max_three min_three max_four min_four   -- for this text's walks alone
set_option maxHeartbeats 8000000
set_option maxRecDepth 100000
set_option linter.unusedVariables false
set_option linter.unusedSimpArgs false
def errW : Option Int → Value
 | none => .nilIface
 | some c => .iface 0 (.int .i64 c)
theorem errW_none : errW none = .nilIface := rfl
theorem errW_some (c : Int) : errW (some c) = .iface 0 (.int .i64 c) := rfl
theorem info2 : (Try.prog.info? 2).map (fun i => (i.zero, i.size, i.bytes)) = some (some (.int .i64 0), 1, 8) := by kernel_rfl
theorem info5 : (Try.prog.info? 5).map (fun i => (i.zero, i.size, i.bytes)) = some (some (.int .u8 0), 1, 1) := by kernel_rfl
theorem info9 : (Try.prog.info? 9).map (fun i => (i.zero, i.size, i.bytes)) = some (some (.string ⟨#[]⟩), 1, 16) := by kernel_rfl
-- the values' own types
end Go.Proofs.Ytcohcndliaaacaa.QFnCartReads
