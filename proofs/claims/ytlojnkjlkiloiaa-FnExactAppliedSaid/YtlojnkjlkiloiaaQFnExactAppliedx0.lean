/- The machine's side of a law, written by a program of this session for this claim. -/
import Derived.Test.YtlojnkjlkiloiaaProg
import Derived.Below
import Derived.Deep.Draws
import Derived.Deep.AppendLies
import Derived.Maps.AppendAt
import Derived.OwnWalk
import Derived.Laws.BytesArg
import Derived.Laws.MakeOwn
import Derived.Laws.OwnMore
import Derived.Deep.OwnRows
import Derived.Tactics
import Derived.Lib.ConvBytes
import Derived.Laws.Slices
import Derived.WalkKit
import Derived.KernelRfl
import Derived.RowKit3
import Derived.Deep.LoopGhost
import Derived.Deep.QuietTactic
import Derived.BigQuiet
import Derived.WideLaws
import Derived.Deep.DeepCutAuto
import Derived.Deep.CutBlock
import Derived.Deep.RegionHeld3
import Derived.Laws.Rows
import Derived.Lib.AppendStr
import Derived.ArgAppend
import Derived.Laws.IdiomCopy
import Derived.OrdersHeld
import Derived.Laws.BitsLemmas
import Derived.RowKit
import Derived.Test.YtlojnkjlkiloiaaLibX
import Derived.Test.YtlojnkjlkiloiaaWWords
import Derived.Test.YtlojnkjlkiloiaaWLast
import Derived.Test.YtlojnkjlkiloiaaWTab
import Derived.Test.YtlojnkjlkiloiaaWFour
import Derived.Test.YtlojnkjlkiloiaaWQPut
import Derived.Test.YtlojnkjlkiloiaaWApart
import Derived.Test.YtlojnkjlkiloiaaWArr
import Derived.Test.YtlojnkjlkiloiaaWZeros
import Derived.Test.YtlojnkjlkiloiaaWFoot
import Derived.Test.YtlojnkjlkiloiaaWKept
import Derived.Test.YtlojnkjlkiloiaaWShare
import Derived.Test.YtlojnkjlkiloiaaWN
import Derived.Test.YtlojnkjlkiloiaaWFootNe
import Derived.Test.YtlojnkjlkiloiaaWAt
import Derived.Test.YtlojnkjlkiloiaaWEqStruct
import Derived.Test.YtlojnkjlkiloiaaWRepsOne
import Derived.Test.YtlojnkjlkiloiaaWInv
import Derived.Test.YtlojnkjlkiloiaaWInvWords
import Derived.Test.YtlojnkjlkiloiaaWGuard
import Derived.Test.YtlojnkjlkiloiaaWNEv
import Derived.Test.YtlojnkjlkiloiaaWMore
namespace Go.Proofs.Ytlojnkjlkiloiaa.QFnExactApplied
open Go.RowKit Go.Proofs.Ytlojnkjlkiloiaa.LibX Go.Proofs.YtlojnkjlkiloiaaW.PrintWords Go.Proofs.YtlojnkjlkiloiaaW.PrintLast Go.Proofs.YtlojnkjlkiloiaaW.PrintMore
attribute [local go_sem] max2_int min2_int max_two min_two max_three min_three max_four min_four   -- for this text's walks alone
set_option linter.unusedVariables false
set_option linter.unusedSimpArgs false



def errW : Option Int → Value
  | none => .nilIface
  | some c => .iface 0 (.int .i64 c)
theorem errW_none : errW none = .nilIface := rfl
theorem errW_some (c : Int) : errW (some c) = .iface 0 (.int .i64 c) := rfl

theorem info5 : (Try.prog.info? 5).map (fun i => (i.zero, i.size, i.bytes)) = some (some (.int .u8 0), 1, 1) := by kernel_rfl
-- the values' own types

end Go.Proofs.Ytlojnkjlkiloiaa.QFnExactApplied
