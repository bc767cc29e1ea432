import Derived.ArgAppend
import Derived.Below
import Derived.BigQuiet
import Derived.ChangeSlices
import Derived.Deep.AppendLies
import Derived.Deep.CutBlock
import Derived.Deep.DeepCutAuto
import Derived.Deep.Draws
import Derived.Deep.LoopGhost
import Derived.Deep.OwnRows
import Derived.Deep.QuietTactic
import Derived.Deep.RegionHeld3
import Derived.KernelRfl
import Derived.Laws.BitsLemmas
import Derived.Laws.BytesArg
import Derived.Laws.IdiomCopy
import Derived.Laws.MakeOwn
import Derived.Laws.OwnMore
import Derived.Laws.Rows
import Derived.Laws.Slices
import Derived.Laws.StructEq
import Derived.Lib.AppendStr
import Derived.Lib.ConvBytes
import Derived.Maps.AppendAt
import Derived.OrdersHeld
import Derived.OwnWalk
import Derived.RowKit
import Derived.RowKit3
import Derived.SizedLaws
import Derived.Tactics
import Derived.WalkKit
import Derived.WideLaws
import Derived.Test.YtodlnnoekccmmaaDoorYWWords
import Derived.Test.YtodlnnoekccmmaaDoorYWLast
import Derived.Test.YtodlnnoekccmmaaDoorYWQPut
import Derived.Test.YtodlnnoekccmmaaDoorYWApart
import Derived.Test.YtodlnnoekccmmaaDoorYWArr
import Derived.Test.YtodlnnoekccmmaaDoorYWZeros
import Derived.Test.YtodlnnoekccmmaaDoorYWFoot
import Derived.Test.YtodlnnoekccmmaaDoorYWKept
import Derived.Test.YtodlnnoekccmmaaDoorYWShare
import Derived.Test.YtodlnnoekccmmaaDoorYWN
import Derived.Test.YtodlnnoekccmmaaDoorYWNEv
import Derived.Test.YtodlnnoekccmmaaDoorYWMore
import Derived.Test.YtodlnnoekccmmaaDoorYWRepsOne
import Derived.Test.YtodlnnoekccmmaaDoorYWTab
import Derived.Test.YtodlnnoekccmmaaDoorYWFour
import Derived.Test.YtodlnnoekccmmaaDoorYWFootNe
import Derived.Test.YtodlnnoekccmmaaDoorYWAt
import Derived.Test.YtodlnnoekccmmaaDoorYWEqStruct
import Derived.Test.YtodlnnoekccmmaaDoorYWInv
import Derived.Test.YtodlnnoekccmmaaDoorYWInvWords
import Derived.Test.YtodlnnoekccmmaaDoorYWGuard
import Derived.Test.YtodlnnoekccmmaaDoorYWSized
namespace Go.Proofs.YtodlnnoekccmmaaDoor.Qq
theorem q0_ {P : Prop} (h : P := by repeat (first | (with_reducible first | exact HB.out | apply Go.Proofs.YtodlnnoekccmmaaDoorW.PrintWords.below_alloc | apply Go.Proofs.YtodlnnoekccmmaaDoorW.PrintWords.pw_below_drewN | apply Go.Proofs.YtodlnnoekccmmaaDoorW.PrintWords.below_drew1 | refine Go.Proofs.YtodlnnoekccmmaaDoorW.PrintWords.below_set ?_ (Go.Proofs.YtodlnnoekccmmaaDoorW.PrintWords.Aside0.out (by assumption))) | exact HB.out)) : P := h
theorem q1_ {P : Prop} (h : P := by repeat (first | (with_reducible first | exact HB.out | apply below_alloc | apply pw_below_drewN | apply below_drew1 | refine below_set ?_ (IsS44.ge HI129.out)) | exact HB.out)) : P := h
theorem q2_ {P : Prop} (h : P := by repeat (first | (with_reducible first | exact HB.out | apply below_alloc | apply pw_below_drewN | apply below_drew1 | refine below_set ?_ (IsS44.ge HI0.out)) | exact HB.out)) : P := h
theorem q3_ {P : Prop} (h : P := by rw [hg]; exact (below_size (by repeat (first | (with_reducible first | exact HBW.out | apply below_alloc | apply pw_below_drewN | apply below_drew1) | exact HBW.out)))) : P := h
theorem q4_ {P : Prop} (h : P := by repeat (first | (with_reducible first | exact HI0.out | apply IsS44.alloc | apply IsS44.drewN | apply IsS44.drew | apply IsS44.set_1) | exact HI0.out)) : P := h
theorem q5_ {P : Prop} (h : P := by repeat (first | (with_reducible first | exact HK.out | apply KeepBut.set_ | apply keep_drewN | apply keep_drew | apply keep_alloc) | exact HK.out)) : P := h
theorem q6_ {P : Prop} (h : P := by (try simp only [List.map_toArray, List.map_cons, List.map_nil]); first | done | rfl | (simp only [List.length_drop, List.length_take]; rfl)) : P := h
theorem q7_ {P : Prop} (h : P := by repeat (first | (with_reducible first | exact HB.out | apply below_alloc | apply pw_below_drewN | apply below_drew1) | exact HB.out)) : P := h
theorem q8_ {P : Prop} (h : P := by first | rfl | (simp [errW_none, errW_some] <;> rfl) | (simp [*, errW_none, errW_some] <;> rfl) | (exfalso; simp_all; done)) : P := h
theorem q9_ {P : Prop} (h : P := by first | rfl | (simp; done) | (simp [*]; done) | (simp; decide +kernel) | (simp [wrap64]; done) | (simp [bne]; done)) : P := h
theorem q10_ {P : Prop} (h : P := by repeat (first | exact Drawn0.refl _ | apply Drawn0.step)) : P := h
theorem q11_ {P : Prop} (h : P := by first | (with_reducible assumption) | assumption) : P := h
theorem q12_ {P : Prop} (h : P := by first | omega | exact Nat.le_refl _) : P := h
theorem q13_ {P : Prop} (h : P := by repeat (first | (with_reducible first | exact HB.out | apply below_alloc | apply pw_below_drewN | apply below_drew1 | refine below_set ?_ (IsS44.ge HI129.out)) | exact HB.out)) : P := h
theorem q14_ {P : Prop} (h : P := by repeat (first | (with_reducible first | exact HB.out | apply below_alloc | apply pw_below_drewN | apply below_drew1 | refine below_set ?_ (IsS44.ge HI0.out)) | exact HB.out)) : P := h
theorem q15_ {P : Prop} (h : P := by repeat (first | (with_reducible first | exact HI129.out | apply IsS44.alloc | apply IsS44.drewN | apply IsS44.drew | apply IsS44.set_1) | exact HI129.out)) : P := h
theorem q16_ {P : Prop} (h : P := by repeat (first | exact HR0.out | (with_reducible refine Kd.C_alloc ?_ _) | (with_reducible refine Kd.C_drewN ?_ _) | (with_reducible refine Kd.C_drew ?_))) : P := h
theorem q17_ {P : Prop} (h : P := by repeat (first | (with_reducible first | exact HI0.out | apply IsS44.alloc | apply IsS44.drewN | apply IsS44.drew | apply IsS44.set_1) | exact HI0.out)) : P := h
end Go.Proofs.YtodlnnoekccmmaaDoor.Qq
