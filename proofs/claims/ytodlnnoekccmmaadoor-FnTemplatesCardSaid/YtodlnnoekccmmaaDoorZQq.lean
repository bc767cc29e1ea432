import Derived.ArgAppend
import Derived.Below
import Derived.BigQuiet
import Derived.ChangeSlices
import Derived.Deep.AppendLies
import Derived.Deep.CutBlock
import Derived.Deep.DeepCutAuto
import Derived.Deep.Draws
import Derived.Deep.LoopGhost
import Derived.Deep.OwnRows
import Derived.Deep.QuietTactic
import Derived.Deep.RegionHeld3
import Derived.KernelRfl
import Derived.Laws.BitsLemmas
import Derived.Laws.BytesArg
import Derived.Laws.IdiomCopy
import Derived.Laws.MakeOwn
import Derived.Laws.OwnMore
import Derived.Laws.Rows
import Derived.Laws.Slices
import Derived.Laws.StructEq
import Derived.Lib.AppendStr
import Derived.Lib.ConvBytes
import Derived.Maps.AppendAt
import Derived.OrdersHeld
import Derived.OwnWalk
import Derived.RowKit
import Derived.RowKit3
import Derived.SizedLaws
import Derived.Tactics
import Derived.WalkKit
import Derived.WideLaws
import Derived.Test.YtodlnnoekccmmaaDoorZWWords
import Derived.Test.YtodlnnoekccmmaaDoorZWLast
import Derived.Test.YtodlnnoekccmmaaDoorZWQPut
import Derived.Test.YtodlnnoekccmmaaDoorZWApart
import Derived.Test.YtodlnnoekccmmaaDoorZWArr
import Derived.Test.YtodlnnoekccmmaaDoorZWZeros
import Derived.Test.YtodlnnoekccmmaaDoorZWFoot
import Derived.Test.YtodlnnoekccmmaaDoorZWKept
import Derived.Test.YtodlnnoekccmmaaDoorZWShare
import Derived.Test.YtodlnnoekccmmaaDoorZWN
import Derived.Test.YtodlnnoekccmmaaDoorZWNEv
import Derived.Test.YtodlnnoekccmmaaDoorZWMore
import Derived.Test.YtodlnnoekccmmaaDoorZWRepsOne
import Derived.Test.YtodlnnoekccmmaaDoorZWTab
import Derived.Test.YtodlnnoekccmmaaDoorZWFour
import Derived.Test.YtodlnnoekccmmaaDoorZWFootNe
import Derived.Test.YtodlnnoekccmmaaDoorZWAt
import Derived.Test.YtodlnnoekccmmaaDoorZWEqStruct
import Derived.Test.YtodlnnoekccmmaaDoorZWInv
import Derived.Test.YtodlnnoekccmmaaDoorZWInvWords
import Derived.Test.YtodlnnoekccmmaaDoorZWGuard
import Derived.Test.YtodlnnoekccmmaaDoorZWSized
namespace Go.Proofs.YtodlnnoekccmmaaDoor.Qq
theorem q0_ {P : Prop} (h : P := by repeat (first | (with_reducible first | exact HB.out | apply Go.Proofs.YtodlnnoekccmmaaDoorW.PrintWords.below_alloc | apply Go.Proofs.YtodlnnoekccmmaaDoorW.PrintWords.pw_below_drewN | apply Go.Proofs.YtodlnnoekccmmaaDoorW.PrintWords.below_drew1 | refine Go.Proofs.YtodlnnoekccmmaaDoorW.PrintWords.below_set ?_ (Go.Proofs.YtodlnnoekccmmaaDoorW.PrintWords.Aside0.out (by assumption))) | exact HB.out)) : P := h
theorem q1_ {P : Prop} (h : P := by (try simp only [List.map_toArray, List.map_cons, List.map_nil]); first | done | rfl | (simp only [List.length_drop, List.length_take]; rfl) | (refine Eq.trans (b := #[.int .i64 (Int.tmod ((Int.tdiv a0 8)) 8), .int .i64 (Int.tmod a0 8)]) rfl ?_; simp [wrap64] <;> omega)) : P := h
theorem q2_ {P : Prop} (h : P := by (try simp only [List.map_toArray, List.map_cons, List.map_nil]); first | done | rfl | (simp only [List.length_drop, List.length_take]; rfl) | (refine Eq.trans (b := #[.int .i64 ((8 * a0)), .int .i64 2]) rfl ?_; simp [wrap64] <;> omega)) : P := h
theorem q3_ {P : Prop} (h : P := by first | rfl | (simp [errW_none, errW_some] <;> rfl) | (simp only [← hji21]; first | rfl | (simp [errW_none, errW_some] <;> rfl)) | (simp [*, errW_none, errW_some] <;> rfl) | (exfalso; simp_all; done)) : P := h
theorem q4_ {P : Prop} (h : P := by first | rfl | (simp [errW_none, errW_some] <;> rfl) | (simp only [← hji29]; first | rfl | (simp [errW_none, errW_some] <;> rfl)) | (simp [*, errW_none, errW_some] <;> rfl) | (exfalso; simp_all; done)) : P := h
theorem q5_ {P : Prop} (h : P := by first | rfl | (simp [errW_none, errW_some] <;> rfl) | (simp only [← hji37]; first | rfl | (simp [errW_none, errW_some] <;> rfl)) | (simp [*, errW_none, errW_some] <;> rfl) | (exfalso; simp_all; done)) : P := h
theorem q6_ {P : Prop} (h : P := by first | rfl | (simp [errW_none, errW_some] <;> rfl) | (simp only [← hji36]; first | rfl | (simp [errW_none, errW_some] <;> rfl)) | (simp [*, errW_none, errW_some] <;> rfl) | (exfalso; simp_all; done)) : P := h
theorem q7_ {P : Prop} (h : P := by first | rfl | (simp [errW_none, errW_some] <;> rfl) | (simp only [← hji4]; first | rfl | (simp [errW_none, errW_some] <;> rfl)) | (simp [*, errW_none, errW_some] <;> rfl) | (exfalso; simp_all; done)) : P := h
theorem q8_ {P : Prop} (h : P := by have := HJ6.out; have := HJ24.out; have := HJ34.out; have := HJ51.out; have := HJ54.out; have := HJ57.out; have := HJ60.out; have := HJ70.out; first | omega | exact Nat.le_refl _) : P := h
theorem q9_ {P : Prop} (h : P := by repeat (first | (with_reducible first | exact HB.out | apply below_alloc | apply pw_below_drewN | apply below_drew1 | refine below_set ?_ (IsS44.ge HI129.out)) | exact HB.out)) : P := h
theorem q10_ {P : Prop} (h : P := by repeat (first | (with_reducible first | exact HB.out | apply below_alloc | apply pw_below_drewN | apply below_drew1 | refine below_set ?_ (IsS44.ge HI0.out)) | exact HB.out)) : P := h
theorem q11_ {P : Prop} (h : P := by rw [hg]; exact (below_size (by repeat (first | (with_reducible first | exact HBW.out | apply below_alloc | apply pw_below_drewN | apply below_drew1) | exact HBW.out)))) : P := h
theorem q12_ {P : Prop} (h : P := by have := HJ6.out; have := HJ24.out; have := HJ34.out; have := HJ51.out; have := HJ54.out; have := HJ57.out; have := HJ60.out; first | omega | exact Nat.le_refl _) : P := h
theorem q13_ {P : Prop} (h : P := by repeat (first | (with_reducible first | exact HI0.out | apply IsS44.alloc | apply IsS44.drewN | apply IsS44.drew | apply IsS44.set_1) | exact HI0.out)) : P := h
theorem q14_ {P : Prop} (h : P := by repeat (first | (with_reducible first | exact HK.out | apply KeepBut.set_ | apply keep_drewN | apply keep_drew | apply keep_alloc) | exact HK.out)) : P := h
theorem q15_ {P : Prop} (h : P := by have := HJ6.out; have := HJ24.out; have := HJ34.out; have := HJ51.out; have := HJ54.out; have := HJ57.out; first | omega | exact Nat.le_refl _) : P := h
theorem q16_ {P : Prop} (h : P := by (try simp only [List.map_toArray, List.map_cons, List.map_nil]); first | done | rfl | (simp only [List.length_drop, List.length_take]; rfl)) : P := h
theorem q17_ {P : Prop} (h : P := by repeat (first | (with_reducible first | exact HB.out | apply below_alloc | apply pw_below_drewN | apply below_drew1) | exact HB.out)) : P := h
theorem q18_ {P : Prop} (h : P := by have := HJ6.out; have := HJ24.out; have := HJ34.out; have := HJ51.out; have := HJ54.out; first | omega | exact Nat.le_refl _) : P := h
theorem q19_ {P : Prop} (h : P := by first | rfl | (simp [errW_none, errW_some] <;> rfl) | (simp [*, errW_none, errW_some] <;> rfl) | (exfalso; simp_all; done)) : P := h
theorem q20_ {P : Prop} (h : P := by first | with_reducible exact H' | (have H2_ := H'; simp only [← hji4] at H2_ ⊢; with_reducible exact H2_) | exact H') : P := h
theorem q21_ {P : Prop} (h : P := by first | rfl | (simp; done) | (simp [*]; done) | (simp; decide +kernel) | (simp [wrap64]; done) | (simp [bne]; done)) : P := h
theorem q22_ {P : Prop} (h : P := by (with_reducible repeat (first | apply Kd.R_alloc | apply Kd.R_drewN | apply Kd.R_drew)); exact (Q_HO401 h0_)) : P := h
theorem q23_ {P : Prop} (h : P := by (with_reducible repeat (first | apply Kd.R_alloc | apply Kd.R_drewN | apply Kd.R_drew)); exact HO153.out) : P := h
theorem q24_ {P : Prop} (h : P := by (with_reducible repeat (first | apply Kd.R_alloc | apply Kd.R_drewN | apply Kd.R_drew)); exact HO161.out) : P := h
theorem q25_ {P : Prop} (h : P := by (with_reducible repeat (first | apply Kd.R_alloc | apply Kd.R_drewN | apply Kd.R_drew)); exact HO196.out) : P := h
theorem q26_ {P : Prop} (h : P := by (with_reducible repeat (first | apply Kd.R_alloc | apply Kd.R_drewN | apply Kd.R_drew)); exact HO204.out) : P := h
theorem q27_ {P : Prop} (h : P := by (with_reducible repeat (first | apply Kd.R_alloc | apply Kd.R_drewN | apply Kd.R_drew)); exact HO267.out) : P := h
theorem q28_ {P : Prop} (h : P := by (with_reducible repeat (first | apply Kd.R_alloc | apply Kd.R_drewN | apply Kd.R_drew)); exact HO275.out) : P := h
theorem q29_ {P : Prop} (h : P := by (with_reducible repeat (first | apply Kd.R_alloc | apply Kd.R_drewN | apply Kd.R_drew)); exact HO351.out) : P := h
theorem q30_ {P : Prop} (h : P := by (with_reducible repeat (first | apply Kd.R_alloc | apply Kd.R_drewN | apply Kd.R_drew)); exact HO393.out) : P := h
theorem q31_ {P : Prop} (h : P := by (with_reducible repeat (first | apply Kd.R_alloc | apply Kd.R_drewN | apply Kd.R_drew)); exact HO411.out) : P := h
theorem q32_ {P : Prop} (h : P := by (with_reducible repeat (first | apply Kd.R_alloc | apply Kd.R_drewN | apply Kd.R_drew)); exact HO419.out) : P := h
theorem q33_ {P : Prop} (h : P := by have := HJ5.out; have := HK2.out; first | omega | exact Nat.le_refl _) : P := h
theorem q34_ {P : Prop} (h : P := by repeat (first | exact Drawn0.refl _ | apply Drawn0.step)) : P := h
theorem q35_ {P : Prop} (h : P := by first | (with_reducible assumption) | assumption) : P := h
theorem q36_ {P : Prop} (h : P := by simp only [putSel, Bool.false_eq_true, if_false]) : P := h
theorem q37_ {P : Prop} (h : P := by rw [ha.out]; exact putSel_upk 0 hb_ rfl rfl rfl) : P := h
theorem q38_ {P : Prop} (h : P := by rw [ha.out]; exact putSel_upk 1 hb_ rfl rfl rfl) : P := h
theorem q39_ {P : Prop} (h : P := by rw [ha.out]; exact putSel_upk 2 hb_ rfl rfl rfl) : P := h
theorem q40_ {P : Prop} (h : P := by rw [ha.out]; exact putSel_upk 3 hb_ rfl rfl rfl) : P := h
theorem q41_ {P : Prop} (h : P := by rw [ha.out]; exact putSel_upk 4 hb_ rfl rfl rfl) : P := h
theorem q42_ {P : Prop} (h : P := by rw [ha.out]; exact putSel_upk 5 hb_ rfl rfl rfl) : P := h
theorem q43_ {P : Prop} (h : P := by rw [ha.out]; exact putSel_upk 6 hb_ rfl rfl rfl) : P := h
theorem q44_ {P : Prop} (h : P := by rw [ha.out]; exact putSel_upk 7 hb_ rfl rfl rfl) : P := h
theorem q45_ {P : Prop} (h : P := by rw [ha.out]; exact putSel_upk 8 hb_ rfl rfl rfl) : P := h
theorem q46_ {P : Prop} (h : P := by rw [ha.out]; exact putSel_upk 9 hb_ rfl rfl rfl) : P := h
theorem q47_ {P : Prop} (h : P := by first | omega | exact Nat.le_refl _) : P := h
theorem q48_ {P : Prop} (h : P := by exact (Reps.one (show Kd.M Kd.string _ _ _ (⟨#[108, 100, 104, 32, 91, 110, 56, 93, 44, 97]⟩ : ByteArray) [.string (⟨#[108, 100, 104, 32, 91, 110, 56, 93, 44, 97]⟩ : ByteArray)] from rfl) (Reps.one (show Kd.M Kd.string _ _ _ (⟨#[97, 100, 100, 32, 115, 112, 44, 101, 56]⟩ : ByteArray) [.string (⟨#[97, 100, 100, 32, 115, 112, 44, 101, 56]⟩ : ByteArray)] from rfl) (Reps.one (show Kd.M Kd.string _ _ _ (⟨#[108, 100, 104, 32, 97, 44, 91, 110, 56, 93]⟩ : ByteArray) [.string (⟨#[108, 100, 104, 32, 97, 44, 91, 110, 56, 93]⟩ : ByteArray)] from rfl) (Reps.one (show Kd.M Kd.string _ _ _ (⟨#[108, 100, 32, 104, 108, 44, 115, 112, 43, 101, 56]⟩ : ByteArray) [.string (⟨#[108, 100, 32, 104, 108, 44, 115, 112, 43, 101, 56]⟩ : ByteArray)] from rfl) (Reps.none _ _)))))) : P := h
theorem q49_ {P : Prop} (h : P := by exact (Reps.one (show Kd.M Kd.string _ _ _ (⟨#[108, 100, 104, 32, 91, 99, 93, 44, 97]⟩ : ByteArray) [.string (⟨#[108, 100, 104, 32, 91, 99, 93, 44, 97]⟩ : ByteArray)] from rfl) (Reps.one (show Kd.M Kd.string _ _ _ (⟨#[108, 100, 32, 91, 110, 49, 54, 93, 44, 97]⟩ : ByteArray) [.string (⟨#[108, 100, 32, 91, 110, 49, 54, 93, 44, 97]⟩ : ByteArray)] from rfl) (Reps.one (show Kd.M Kd.string _ _ _ (⟨#[108, 100, 104, 32, 97, 44, 91, 99, 93]⟩ : ByteArray) [.string (⟨#[108, 100, 104, 32, 97, 44, 91, 99, 93]⟩ : ByteArray)] from rfl) (Reps.one (show Kd.M Kd.string _ _ _ (⟨#[108, 100, 32, 97, 44, 91, 110, 49, 54, 93]⟩ : ByteArray) [.string (⟨#[108, 100, 32, 97, 44, 91, 110, 49, 54, 93]⟩ : ByteArray)] from rfl) (Reps.none _ _)))))) : P := h
theorem q50_ {P : Prop} (h : P := by exact (Reps.one (show Kd.M Kd.string _ _ _ (⟨#[110, 111, 112]⟩ : ByteArray) [.string (⟨#[110, 111, 112]⟩ : ByteArray)] from rfl) (Reps.one (show Kd.M Kd.string _ _ _ (⟨#[108, 100, 32, 91, 110, 49, 54, 93, 44, 115, 112]⟩ : ByteArray) [.string (⟨#[108, 100, 32, 91, 110, 49, 54, 93, 44, 115, 112]⟩ : ByteArray)] from rfl) (Reps.one (show Kd.M Kd.string _ _ _ (⟨#[115, 116, 111, 112, 32, 110, 56]⟩ : ByteArray) [.string (⟨#[115, 116, 111, 112, 32, 110, 56]⟩ : ByteArray)] from rfl) (Reps.one (show Kd.M Kd.string _ _ _ (⟨#[106, 114, 32, 101, 56]⟩ : ByteArray) [.string (⟨#[106, 114, 32, 101, 56]⟩ : ByteArray)] from rfl) (Reps.none _ _)))))) : P := h
theorem q51_ {P : Prop} (h : P := by exact (Reps.one (show Kd.M Kd.string _ _ _ (⟨#[114, 101, 116]⟩ : ByteArray) [.string (⟨#[114, 101, 116]⟩ : ByteArray)] from rfl) (Reps.one (show Kd.M Kd.string _ _ _ (⟨#[114, 101, 116, 105]⟩ : ByteArray) [.string (⟨#[114, 101, 116, 105]⟩ : ByteArray)] from rfl) (Reps.one (show Kd.M Kd.string _ _ _ (⟨#[106, 112, 32, 104, 108]⟩ : ByteArray) [.string (⟨#[106, 112, 32, 104, 108]⟩ : ByteArray)] from rfl) (Reps.one (show Kd.M Kd.string _ _ _ (⟨#[108, 100, 32, 115, 112, 44, 104, 108]⟩ : ByteArray) [.string (⟨#[108, 100, 32, 115, 112, 44, 104, 108]⟩ : ByteArray)] from rfl) (Reps.none _ _)))))) : P := h
theorem q52_ {P : Prop} (h : P := by exact (Reps.one (show Kd.M Kd.string _ _ _ (⟨#[91, 98, 99, 93]⟩ : ByteArray) [.string (⟨#[91, 98, 99, 93]⟩ : ByteArray)] from rfl) (Reps.one (show Kd.M Kd.string _ _ _ (⟨#[91, 100, 101, 93]⟩ : ByteArray) [.string (⟨#[91, 100, 101, 93]⟩ : ByteArray)] from rfl) (Reps.one (show Kd.M Kd.string _ _ _ (⟨#[91, 104, 108, 43, 93]⟩ : ByteArray) [.string (⟨#[91, 104, 108, 43, 93]⟩ : ByteArray)] from rfl) (Reps.one (show Kd.M Kd.string _ _ _ (⟨#[91, 104, 108, 45, 93]⟩ : ByteArray) [.string (⟨#[91, 104, 108, 45, 93]⟩ : ByteArray)] from rfl) (Reps.none _ _)))))) : P := h
theorem q53_ {P : Prop} (h : P := by exact (Reps.one (show Kd.M Kd.string _ _ _ (⟨#[98, 99]⟩ : ByteArray) [.string (⟨#[98, 99]⟩ : ByteArray)] from rfl) (Reps.one (show Kd.M Kd.string _ _ _ (⟨#[100, 101]⟩ : ByteArray) [.string (⟨#[100, 101]⟩ : ByteArray)] from rfl) (Reps.one (show Kd.M Kd.string _ _ _ (⟨#[104, 108]⟩ : ByteArray) [.string (⟨#[104, 108]⟩ : ByteArray)] from rfl) (Reps.one (show Kd.M Kd.string _ _ _ (⟨#[97, 102]⟩ : ByteArray) [.string (⟨#[97, 102]⟩ : ByteArray)] from rfl) (Reps.none _ _)))))) : P := h
theorem q54_ {P : Prop} (h : P := by repeat (first | (with_reducible first | exact HB.out | apply below_alloc | apply pw_below_drewN | apply below_drew1 | refine below_set ?_ (IsS44.ge HI129.out)) | exact HB.out)) : P := h
theorem q55_ {P : Prop} (h : P := by repeat (first | (with_reducible first | exact HB.out | apply below_alloc | apply pw_below_drewN | apply below_drew1 | refine below_set ?_ (IsS44.ge HI0.out)) | exact HB.out)) : P := h
theorem q56_ {P : Prop} (h : P := by repeat (first | (with_reducible first | exact HI129.out | apply IsS44.alloc | apply IsS44.drewN | apply IsS44.drew | apply IsS44.set_1) | exact HI129.out)) : P := h
theorem q57_ {P : Prop} (h : P := by repeat (first | exact HR0.out | (with_reducible refine Kd.C_alloc ?_ _) | (with_reducible refine Kd.C_drewN ?_ _) | (with_reducible refine Kd.C_drew ?_))) : P := h
theorem q58_ {P : Prop} (h : P := by repeat (first | (with_reducible first | exact HI0.out | apply IsS44.alloc | apply IsS44.drewN | apply IsS44.drew | apply IsS44.set_1) | exact HI0.out)) : P := h
theorem q59_ {P : Prop} (h : P := by first | (go_simp; done) | (go_simp; rfl)) : P := h
end Go.Proofs.YtodlnnoekccmmaaDoor.Qq
