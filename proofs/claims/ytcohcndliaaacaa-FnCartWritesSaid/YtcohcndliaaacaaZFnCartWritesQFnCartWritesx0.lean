/- The machine's side of a law, written by a program of this session for this claim. -/
import Derived.Test.YtcohcndliaaacaaZFnCartWritesQq
import Derived.Test.YtcohcndliaaacaaProg
import Derived.Below
import Derived.Deep.Draws
import Derived.Deep.AppendLies
import Derived.Maps.AppendAt
import Derived.OwnWalk
import Derived.Laws.BytesArg
import Derived.Laws.MakeOwn
import Derived.Laws.OwnMore
import Derived.Deep.OwnRows
import Derived.Tactics
import Derived.Lib.ConvBytes
import Derived.Laws.Slices
import Derived.WalkKit
import Derived.KernelRfl
import Derived.RowKit3
import Derived.Deep.LoopGhost
import Derived.Deep.QuietTactic
import Derived.BigQuiet
import Derived.WideLaws
import Derived.Deep.DeepCutAuto
import Derived.Deep.CutBlock
import Derived.Deep.RegionHeld3
import Derived.Laws.Rows
import Derived.Lib.AppendStr
import Derived.ArgAppend
import Derived.Laws.IdiomCopy
import Derived.OrdersHeld
import Derived.Laws.BitsLemmas
import Derived.RowKit
import Derived.Test.YtcohcndliaaacaaZFnCartWritesLibX
import Derived.Test.YtcohcndliaaacaaZFnCartWritesLibC
import Derived.Test.YtcohcndliaaacaaZFnCartWritesWWords
import Derived.Test.YtcohcndliaaacaaZFnCartWritesWLast
import Derived.Test.YtcohcndliaaacaaZFnCartWritesWTab
import Derived.Test.YtcohcndliaaacaaZFnCartWritesWFour
import Derived.Test.YtcohcndliaaacaaZFnCartWritesWQPut
import Derived.Test.YtcohcndliaaacaaZFnCartWritesWApart
import Derived.Test.YtcohcndliaaacaaZFnCartWritesWArr
import Derived.Test.YtcohcndliaaacaaZFnCartWritesWZeros
import Derived.Test.YtcohcndliaaacaaZFnCartWritesWFoot
import Derived.Test.YtcohcndliaaacaaZFnCartWritesWKept
import Derived.Test.YtcohcndliaaacaaZFnCartWritesWShare
import Derived.Test.YtcohcndliaaacaaZFnCartWritesWN
import Derived.Test.YtcohcndliaaacaaZFnCartWritesWFootNe
import Derived.Test.YtcohcndliaaacaaZFnCartWritesWAt
import Derived.Test.YtcohcndliaaacaaZFnCartWritesWEqStruct
import Derived.Test.YtcohcndliaaacaaZFnCartWritesWRepsOne
import Derived.Test.YtcohcndliaaacaaZFnCartWritesWInv
import Derived.Test.YtcohcndliaaacaaZFnCartWritesWInvWords
import Derived.Test.YtcohcndliaaacaaZFnCartWritesWGuard
import Derived.Test.YtcohcndliaaacaaZFnCartWritesWNEv
import Derived.Test.YtcohcndliaaacaaZFnCartWritesWMore
namespace Go.Proofs.Ytcohcndliaaacaa.QFnCartWrites
open Go.Proofs.Ytcohcndliaaacaa.Qq
open Go.RowKit Go.Proofs.Ytcohcndliaaacaa.LibX Go.Proofs.Ytcohcndliaaacaa.LibC Go.Proofs.YtcohcndliaaacaaW.PrintWords Go.Proofs.YtcohcndliaaacaaW.PrintLast Go.Proofs.YtcohcndliaaacaaW.PrintMore
attribute [local go_sem] max2_int min2_int max_two min_two max_three min_three max_four min_four   -- for this text's walks alone
set_option maxHeartbeats 8000000
set_option maxRecDepth 100000
set_option linter.unusedVariables false
set_option linter.unusedSimpArgs false
def errW : Option Int → Value
 | none => .nilIface
 | some c => .iface 0 (.int .i64 c)
theorem errW_none : errW none = .nilIface := rfl
theorem errW_some (c : Int) : errW (some c) = .iface 0 (.int .i64 c) := rfl
theorem info2 : (Try.prog.info? 2).map (fun i => (i.zero, i.size, i.bytes)) = some (some (.int .i64 0), 1, 8) := by kernel_rfl
theorem info5 : (Try.prog.info? 5).map (fun i => (i.zero, i.size, i.bytes)) = some (some (.int .u8 0), 1, 1) := by kernel_rfl
theorem info9 : (Try.prog.info? 9).map (fun i => (i.zero, i.size, i.bytes)) = some (some (.string ⟨#[]⟩), 1, 16) := by kernel_rfl
-- the values' own types
end Go.Proofs.Ytcohcndliaaacaa.QFnCartWrites
