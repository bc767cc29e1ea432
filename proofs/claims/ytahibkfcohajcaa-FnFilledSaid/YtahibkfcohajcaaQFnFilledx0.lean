/- The machine's side of a law, written by a program of this session for this claim. -/
import Derived.Test.YtahibkfcohajcaaProg
import Derived.Below
import Derived.Deep.Draws
import Derived.Deep.AppendLies
import Derived.Maps.AppendAt
import Derived.OwnWalk
import Derived.Laws.BytesArg
import Derived.Laws.MakeOwn
import Derived.Laws.OwnMore
import Derived.Deep.OwnRows
import Derived.Tactics
import Derived.Lib.ConvBytes
import Derived.Laws.Slices
import Derived.WalkKit
import Derived.KernelRfl
import Derived.RowKit3
import Derived.Deep.LoopGhost
import Derived.Deep.QuietTactic
import Derived.BigQuiet
import Derived.WideLaws
import Derived.Deep.DeepCutAuto
import Derived.Deep.CutBlock
import Derived.Deep.RegionHeld3
import Derived.Laws.Rows
import Derived.Lib.AppendStr
import Derived.ArgAppend
import Derived.Laws.IdiomCopy
import Derived.OrdersHeld
import Derived.Laws.BitsLemmas
import Derived.RowKit
import Derived.Test.YtahibkfcohajcaaLibX
import Derived.Test.YtahibkfcohajcaaLibHF
import Derived.Test.YtahibkfcohajcaaWWords
import Derived.Test.YtahibkfcohajcaaWLast
import Derived.Test.YtahibkfcohajcaaWTab
import Derived.Test.YtahibkfcohajcaaWFour
import Derived.Test.YtahibkfcohajcaaWQPut
import Derived.Test.YtahibkfcohajcaaWApart
import Derived.Test.YtahibkfcohajcaaWArr
import Derived.Test.YtahibkfcohajcaaWZeros
import Derived.Test.YtahibkfcohajcaaWFoot
import Derived.Test.YtahibkfcohajcaaWKept
import Derived.Test.YtahibkfcohajcaaWShare
import Derived.Test.YtahibkfcohajcaaWN
import Derived.Test.YtahibkfcohajcaaWFootNe
import Derived.Test.YtahibkfcohajcaaWAt
import Derived.Test.YtahibkfcohajcaaWEqStruct
import Derived.Test.YtahibkfcohajcaaWRepsOne
import Derived.Test.YtahibkfcohajcaaWInv
import Derived.Test.YtahibkfcohajcaaWInvWords
import Derived.Test.YtahibkfcohajcaaWGuard
import Derived.Test.YtahibkfcohajcaaWNEv
import Derived.Test.YtahibkfcohajcaaWMore
namespace Go.Proofs.Ytahibkfcohajcaa.QFnFilled
open Go.RowKit Go.Proofs.Ytahibkfcohajcaa.LibX Go.Proofs.Ytahibkfcohajcaa.LibHF Go.Proofs.YtahibkfcohajcaaW.PrintWords Go.Proofs.YtahibkfcohajcaaW.PrintLast Go.Proofs.YtahibkfcohajcaaW.PrintMore
attribute [local go_sem] max2_int min2_int max_two min_two max_three min_three max_four min_four   -- for this text's walks alone
set_option linter.unusedVariables false
set_option linter.unusedSimpArgs false



def errW : Option Int → Value
  | none => .nilIface
  | some c => .iface 0 (.int .i64 c)
theorem errW_none : errW none = .nilIface := rfl
theorem errW_some (c : Int) : errW (some c) = .iface 0 (.int .i64 c) := rfl

theorem info9 : (Try.prog.info? 9).map (fun i => (i.zero, i.size, i.bytes)) = some (some (.string ⟨#[]⟩), 1, 16) := by kernel_rfl
-- the values' own types

end Go.Proofs.Ytahibkfcohajcaa.QFnFilled
