/- The machine's side of a law,written by a program of this session for this claim. -/
import Derived.Test.YtabbdfchibjndaaGreatDoorXQq
import Derived.Test.YtabbdfchibjndaaGreatDoorProg
import Derived.Below
import Derived.Deep.Draws
import Derived.Deep.AppendLies
import Derived.Maps.AppendAt
import Derived.OwnWalk
import Derived.Laws.BytesArg
import Derived.Laws.MakeOwn
import Derived.Laws.OwnMore
import Derived.Deep.OwnRows
import Derived.Tactics
import Derived.Lib.ConvBytes
import Derived.Laws.Slices
import Derived.WalkKit
import Derived.KernelRfl
import Derived.RowKit3
import Derived.Deep.LoopGhost
import Derived.Deep.QuietTactic
import Derived.BigQuiet
import Derived.WideLaws
import Derived.Deep.DeepCutAuto
import Derived.Deep.CutBlock
import Derived.Deep.RegionHeld3
import Derived.Laws.Rows
import Derived.Lib.AppendStr
import Derived.ArgAppend
import Derived.Laws.IdiomCopy
import Derived.OrdersHeld
import Derived.Laws.BitsLemmas
import Derived.RowKit
import Derived.Test.YtabbdfchibjndaaGreatDoorXLibX
import Derived.Test.YtabbdfchibjndaaGreatDoorXLibE
import Derived.Test.YtabbdfchibjndaaGreatDoorXLibG
import Derived.Test.YtabbdfchibjndaaGreatDoorXLibCv
import Derived.Test.YtabbdfchibjndaaGreatDoorXWAll
namespace Go.Proofs.YtabbdfchibjndaaGreatDoor.QFnExprTexts
open Go.Proofs.YtabbdfchibjndaaGreatDoor.Qq
open Go.RowKit Go.Proofs.YtabbdfchibjndaaGreatDoor.LibX Go.Proofs.YtabbdfchibjndaaGreatDoor.LibE Go.Proofs.YtabbdfchibjndaaGreatDoor.LibG Go.Proofs.YtabbdfchibjndaaGreatDoor.LibCv Go.Proofs.YtabbdfchibjndaaGreatDoorW.PrintWords Go.Proofs.YtabbdfchibjndaaGreatDoorW.PrintLast Go.Proofs.YtabbdfchibjndaaGreatDoorW.PrintMore
attribute [local go_sem] max2_int min2_int max_two min_two max_three min_three max_four min_four   -- for this text's walks alone
set_option maxHeartbeats 8000000
set_option maxRecDepth 100000
set_option linter.unusedVariables false
set_option linter.unusedSimpArgs false
def errW:Option Int → Value
 | none => .nilIface
 | some c => .iface 0 (.int .i64 c)
theorem errW_none:errW none = .nilIface:=rfl
theorem errW_some (c:Int):errW (some c) = .iface 0 (.int .i64 c):=rfl
theorem info2:(Tryz.prog.info? 2).map (fun i => (i.zero,i.size,i.bytes)) = some (some (.int .i64 0),1,8):=by kernel_rfl
theorem info5:(Tryz.prog.info? 5).map (fun i => (i.zero,i.size,i.bytes)) = some (some (.int .u8 0),1,1):=by kernel_rfl
theorem info9:(Tryz.prog.info? 9).map (fun i => (i.zero,i.size,i.bytes)) = some (some (.string ⟨#[]⟩),1,16):=by kernel_rfl
theorem info43:(Tryz.prog.info? 43).map (fun i => (i.zero,i.size,i.bytes)) = some (some (.agg #[(.int .i64 0),(.int .i64 0),(.string ⟨#[]⟩)]),3,32):=by kernel_rfl
-- the values' own types
end Go.Proofs.YtabbdfchibjndaaGreatDoor.QFnExprTexts
