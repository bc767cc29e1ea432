/- The machine's side of a law,written by a program of this session for this claim. -/
import Derived.Test.YtodlnnoekccmmaaGreatDoorIQq
import Derived.Test.YtodlnnoekccmmaaGreatDoorIQFnInsTextsx0
import Derived.Test.YtodlnnoekccmmaaGreatDoorIQFnInsTextsx2
import Derived.Test.YtodlnnoekccmmaaGreatDoorIQFnInsTextsx4
namespace Go.Proofs.YtodlnnoekccmmaaGreatDoor.QFnInsTexts
open Go.Proofs.YtodlnnoekccmmaaGreatDoor.Qq
open Go.RowKit Go.Proofs.YtodlnnoekccmmaaGreatDoor.LibX Go.Proofs.YtodlnnoekccmmaaGreatDoor.LibE Go.Proofs.YtodlnnoekccmmaaGreatDoor.LibCB Go.Proofs.YtodlnnoekccmmaaGreatDoorW.PrintWords Go.Proofs.YtodlnnoekccmmaaGreatDoorW.PrintLast Go.Proofs.YtodlnnoekccmmaaGreatDoorW.PrintMore
attribute [local go_sem] max2_int min2_int max_two min_two max_three min_three max_four min_four   -- for this text's walks alone
set_option maxHeartbeats 8000000
set_option maxRecDepth 100000
set_option linter.unusedVariables false
set_option linter.unusedSimpArgs false
mutual
def impl_high.j0:Nat → Int → Int → Int → Int → ByteArray → Bool → Option (ByteArray)
 | 0,_,_,_,_,_,_ => none
 | k + 1,x0,x1,x5,x6,x7,x16 => if x16 = true then ((impl_conds.f).bind fun t193 => (if 0 ≤ x0 then (if x0 < (t193.length:Int) then (if 4 + (rdOf ByteArray.empty t193 x0).size ≤ 9223372036854775807 then (some ((⟨#[114,101,116,32]⟩:ByteArray) ++ (rdOf ByteArray.empty t193 x0))) else (none)) else (none)) else (none))) else (if x1 = 0 then ((some (([(⟨#[108,100,104,32,91,110,56,93,44,97]⟩:ByteArray),(⟨#[97,100,100,32,115,112,44,101,56]⟩:ByteArray),(⟨#[108,100,104,32,97,44,91,110,56,93]⟩:ByteArray),(⟨#[108,100,32,104,108,44,115,112,43,101,56]⟩:ByteArray)]:List ByteArray):List ByteArray)).bind fun y197 => (if 0 ≤ (wrap64 (x0 - 4)) then (if (wrap64 (x0 - 4)) < (y197.length:Int) then (some (rdOf ByteArray.empty y197 (wrap64 (x0 - 4)))) else (none)) else (none))) else (if x1 = 1 then (impl_high.j1 k x0 x1 x5 x6 x7 (x6 == 0)) else (impl_high.j1 k x0 x1 x5 x6 x7 false)))
def impl_high.j1:Nat → Int → Int → Int → Int → ByteArray → Bool → Option (ByteArray)
 | 0,_,_,_,_,_,_ => none
 | k + 1,x0,x1,x5,x6,x7,x36 => if x36 = true then (if 4 + x7.size ≤ 9223372036854775807 then (some ((⟨#[112,111,112,32]⟩:ByteArray) ++ x7)) else (none)) else (if x1 = 1 then ((some (([(⟨#[114,101,116]⟩:ByteArray),(⟨#[114,101,116,105]⟩:ByteArray),(⟨#[106,112,32,104,108]⟩:ByteArray),(⟨#[108,100,32,115,112,44,104,108]⟩:ByteArray)]:List ByteArray):List ByteArray)).bind fun y201 => (if 0 ≤ x5 then (if x5 < (y201.length:Int) then (some (rdOf ByteArray.empty y201 x5)) else (none)) else (none))) else (if x1 = 2 then (impl_high.j2 k x0 x1 x6 x7 (decide (x0 < 4))) else (impl_high.j2 k x0 x1 x6 x7 false)))
def impl_high.j2:Nat → Int → Int → Int → ByteArray → Bool → Option (ByteArray)
 | 0,_,_,_,_,_ => none
 | k + 1,x0,x1,x6,x7,x52 => if x52 = true then ((impl_conds.f).bind fun t205 => (if 0 ≤ x0 then (if x0 < (t205.length:Int) then (if 3 + (rdOf ByteArray.empty t205 x0).size ≤ 9223372036854775807 then (if ((⟨#[106,112,32]⟩:ByteArray) ++ (rdOf ByteArray.empty t205 x0)).size + 4 ≤ 9223372036854775807 then (some (((⟨#[106,112,32]⟩:ByteArray) ++ (rdOf ByteArray.empty t205 x0)) ++ (⟨#[44,110,49,54]⟩:ByteArray))) else (none)) else (none)) else (none)) else (none))) else (if x1 = 2 then ((some (([(⟨#[108,100,104,32,91,99,93,44,97]⟩:ByteArray),(⟨#[108,100,32,91,110,49,54,93,44,97]⟩:ByteArray),(⟨#[108,100,104,32,97,44,91,99,93]⟩:ByteArray),(⟨#[108,100,32,97,44,91,110,49,54,93]⟩:ByteArray)]:List ByteArray):List ByteArray)).bind fun y209 => (if 0 ≤ (wrap64 (x0 - 4)) then (if (wrap64 (x0 - 4)) < (y209.length:Int) then (some (rdOf ByteArray.empty y209 (wrap64 (x0 - 4)))) else (none)) else (none))) else (if x1 = 3 then (impl_high.j3 k x0 x1 x6 x7 (x0 == 0)) else (impl_high.j3 k x0 x1 x6 x7 false)))
def impl_high.j3:Nat → Int → Int → Int → ByteArray → Bool → Option (ByteArray)
 | 0,_,_,_,_,_ => none
 | k + 1,x0,x1,x6,x7,x73 => if x73 = true then (some (⟨#[106,112,32,110,49,54]⟩:ByteArray)) else (if x1 = 3 then (impl_high.j4 k x0 x1 x6 x7 (x0 == 6)) else (impl_high.j4 k x0 x1 x6 x7 false))
def impl_high.j4:Nat → Int → Int → Int → ByteArray → Bool → Option (ByteArray)
 | 0,_,_,_,_,_ => none
 | k + 1,x0,x1,x6,x7,x80 => if x80 = true then (some (⟨#[100,105]⟩:ByteArray)) else (if x1 = 3 then (impl_high.j5 k x0 x1 x6 x7 (x0 == 7)) else (impl_high.j5 k x0 x1 x6 x7 false))
def impl_high.j5:Nat → Int → Int → Int → ByteArray → Bool → Option (ByteArray)
 | 0,_,_,_,_,_ => none
 | k + 1,x0,x1,x6,x7,x87 => if x87 = true then (some (⟨#[101,105]⟩:ByteArray)) else (if x1 = 4 then (impl_high.j6 k x0 x1 x6 x7 (decide (x0 < 4))) else (impl_high.j6 k x0 x1 x6 x7 false))
def impl_high.j6:Nat → Int → Int → Int → ByteArray → Bool → Option (ByteArray)
 | 0,_,_,_,_,_ => none
 | k + 1,x0,x1,x6,x7,x94 => if x94 = true then ((impl_conds.f).bind fun t213 => (if 0 ≤ x0 then (if x0 < (t213.length:Int) then (if 5 + (rdOf ByteArray.empty t213 x0).size ≤ 9223372036854775807 then (if ((⟨#[99,97,108,108,32]⟩:ByteArray) ++ (rdOf ByteArray.empty t213 x0)).size + 4 ≤ 9223372036854775807 then (some (((⟨#[99,97,108,108,32]⟩:ByteArray) ++ (rdOf ByteArray.empty t213 x0)) ++ (⟨#[44,110,49,54]⟩:ByteArray))) else (none)) else (none)) else (none)) else (none))) else (if x1 = 5 then (impl_high.j7 k x0 x1 x7 (x6 == 0)) else (impl_high.j7 k x0 x1 x7 false))
def impl_high.j7:Nat → Int → Int → ByteArray → Bool → Option (ByteArray)
 | 0,_,_,_,_ => none
 | k + 1,x0,x1,x7,x107 => if x107 = true then (if 5 + x7.size ≤ 9223372036854775807 then (some ((⟨#[112,117,115,104,32]⟩:ByteArray) ++ x7)) else (none)) else (if x1 = 5 then (impl_high.j8 k x0 x1 (x0 == 1)) else (impl_high.j8 k x0 x1 false))
def impl_high.j8:Nat → Int → Int → Bool → Option (ByteArray)
 | 0,_,_,_ => none
 | k + 1,x0,x1,x116 => if x116 = true then (some (⟨#[99,97,108,108,32,110,49,54]⟩:ByteArray)) else (if x1 = 6 then ((impl_alus.f).bind fun t217 => (if 0 ≤ x0 then (if x0 < (t217.length:Int) then (if (rdOf ByteArray.empty t217 x0).size + 5 ≤ 9223372036854775807 then (some ((rdOf ByteArray.empty t217 x0) ++ (⟨#[32,97,44,110,56]⟩:ByteArray))) else (none)) else (none)) else (none))) else (if x1 = 7 then ((impl_HexOf.f k (wrap64 (8 * x0)) 2).bind fun t221 => (if 4 + t221.size ≤ 9223372036854775807 then (some ((⟨#[114,115,116,32]⟩:ByteArray) ++ t221)) else (none))) else (some (⟨#[]⟩:ByteArray))))
end
def impl_high.f (k:Nat) (a0:Int) (a1:Int):Option (ByteArray):=(impl_names.f (⟨#[98,99,32,100,101,32,104,108,32,97,102]⟩:ByteArray)).bind fun t189 => (if 0 ≤ (wrap64 (Int.tdiv a0 2)) then (if (wrap64 (Int.tdiv a0 2)) < (t189.length:Int) then (if a1 = 0 then (impl_high.j0 k a0 a1 (wrap64 (Int.tdiv a0 2)) (Int.tmod a0 2) (rdOf ByteArray.empty t189 (wrap64 (Int.tdiv a0 2))) (decide (a0 < 4))) else (impl_high.j0 k a0 a1 (wrap64 (Int.tdiv a0 2)) (Int.tmod a0 2) (rdOf ByteArray.empty t189 (wrap64 (Int.tdiv a0 2))) false)) else (none)) else (none))
theorem impl_high.mono_l:∀ k,(∀ y0 y1 y2 y3 y4 y5,LeO (impl_high.j0 k y0 y1 y2 y3 y4 y5) (impl_high.j0 (k + 1) y0 y1 y2 y3 y4 y5)) ∧ (∀ y0 y1 y2 y3 y4 y5,LeO (impl_high.j1 k y0 y1 y2 y3 y4 y5) (impl_high.j1 (k + 1) y0 y1 y2 y3 y4 y5)) ∧ (∀ y0 y1 y2 y3 y4,LeO (impl_high.j2 k y0 y1 y2 y3 y4) (impl_high.j2 (k + 1) y0 y1 y2 y3 y4)) ∧ (∀ y0 y1 y2 y3 y4,LeO (impl_high.j3 k y0 y1 y2 y3 y4) (impl_high.j3 (k + 1) y0 y1 y2 y3 y4)) ∧ (∀ y0 y1 y2 y3 y4,LeO (impl_high.j4 k y0 y1 y2 y3 y4) (impl_high.j4 (k + 1) y0 y1 y2 y3 y4)) ∧ (∀ y0 y1 y2 y3 y4,LeO (impl_high.j5 k y0 y1 y2 y3 y4) (impl_high.j5 (k + 1) y0 y1 y2 y3 y4)) ∧ (∀ y0 y1 y2 y3 y4,LeO (impl_high.j6 k y0 y1 y2 y3 y4) (impl_high.j6 (k + 1) y0 y1 y2 y3 y4)) ∧ (∀ y0 y1 y2 y3,LeO (impl_high.j7 k y0 y1 y2 y3) (impl_high.j7 (k + 1) y0 y1 y2 y3)) ∧ (∀ y0 y1 y2,LeO (impl_high.j8 k y0 y1 y2) (impl_high.j8 (k + 1) y0 y1 y2))
 | 0 => ⟨fun _ _ _ _ _ _ r h => by simp [impl_high.j0] at h,fun _ _ _ _ _ _ r h => by simp [impl_high.j1] at h,fun _ _ _ _ _ r h => by simp [impl_high.j2] at h,fun _ _ _ _ _ r h => by simp [impl_high.j3] at h,fun _ _ _ _ _ r h => by simp [impl_high.j4] at h,fun _ _ _ _ _ r h => by simp [impl_high.j5] at h,fun _ _ _ _ _ r h => by simp [impl_high.j6] at h,fun _ _ _ _ r h => by simp [impl_high.j7] at h,fun _ _ _ r h => by simp [impl_high.j8] at h⟩
 | k + 1 => by
  obtain ⟨ih0,ih1,ih2,ih3,ih4,ih5,ih6,ih7,ih8⟩:=impl_high.mono_l k
  refine ⟨?_,?_,?_,?_,?_,?_,?_,?_,?_⟩
  ·intro y0 y1 y2 y3 y4 y5
   unfold impl_high.j0
   repeat' first
   | (with_reducible first | exact ih0 _ _ _ _ _ _ | exact ih1 _ _ _ _ _ _ | exact ih2 _ _ _ _ _ | exact ih3 _ _ _ _ _ | exact ih4 _ _ _ _ _ | exact ih5 _ _ _ _ _ | exact ih6 _ _ _ _ _ | exact ih7 _ _ _ _ | exact ih8 _ _ _ | exact impl_HexOf.mono _ _ _ | exact LeO.refl _ | exact LeO.none _ | refine LeO.ite ?_ ?_ | refine LeO.bind ?_ (fun _ => ?_))
   | exact ih0 _ _ _ _ _ _
   | exact ih1 _ _ _ _ _ _
   | exact ih2 _ _ _ _ _
   | exact ih3 _ _ _ _ _
   | exact ih4 _ _ _ _ _
   | exact ih5 _ _ _ _ _
   | exact ih6 _ _ _ _ _
   | exact ih7 _ _ _ _
   | exact ih8 _ _ _
   | exact impl_HexOf.mono _ _ _
   | exact LeO.none _
   | refine LeO.ite ?_ ?_
   | refine LeO.bind ?_ (fun _ => ?_)
  ·intro y0 y1 y2 y3 y4 y5
   unfold impl_high.j1
   repeat' first
   | (with_reducible first | exact ih0 _ _ _ _ _ _ | exact ih1 _ _ _ _ _ _ | exact ih2 _ _ _ _ _ | exact ih3 _ _ _ _ _ | exact ih4 _ _ _ _ _ | exact ih5 _ _ _ _ _ | exact ih6 _ _ _ _ _ | exact ih7 _ _ _ _ | exact ih8 _ _ _ | exact impl_HexOf.mono _ _ _ | exact LeO.refl _ | exact LeO.none _ | refine LeO.ite ?_ ?_ | refine LeO.bind ?_ (fun _ => ?_))
   | exact ih0 _ _ _ _ _ _
   | exact ih1 _ _ _ _ _ _
   | exact ih2 _ _ _ _ _
   | exact ih3 _ _ _ _ _
   | exact ih4 _ _ _ _ _
   | exact ih5 _ _ _ _ _
   | exact ih6 _ _ _ _ _
   | exact ih7 _ _ _ _
   | exact ih8 _ _ _
   | exact impl_HexOf.mono _ _ _
   | exact LeO.none _
   | refine LeO.ite ?_ ?_
   | refine LeO.bind ?_ (fun _ => ?_)
  ·intro y0 y1 y2 y3 y4
   unfold impl_high.j2
   repeat' first
   | (with_reducible first | exact ih0 _ _ _ _ _ _ | exact ih1 _ _ _ _ _ _ | exact ih2 _ _ _ _ _ | exact ih3 _ _ _ _ _ | exact ih4 _ _ _ _ _ | exact ih5 _ _ _ _ _ | exact ih6 _ _ _ _ _ | exact ih7 _ _ _ _ | exact ih8 _ _ _ | exact impl_HexOf.mono _ _ _ | exact LeO.refl _ | exact LeO.none _ | refine LeO.ite ?_ ?_ | refine LeO.bind ?_ (fun _ => ?_))
   | exact ih0 _ _ _ _ _ _
   | exact ih1 _ _ _ _ _ _
   | exact ih2 _ _ _ _ _
   | exact ih3 _ _ _ _ _
   | exact ih4 _ _ _ _ _
   | exact ih5 _ _ _ _ _
   | exact ih6 _ _ _ _ _
   | exact ih7 _ _ _ _
   | exact ih8 _ _ _
   | exact impl_HexOf.mono _ _ _
   | exact LeO.none _
   | refine LeO.ite ?_ ?_
   | refine LeO.bind ?_ (fun _ => ?_)
  ·intro y0 y1 y2 y3 y4
   unfold impl_high.j3
   repeat' first
   | (with_reducible first | exact ih0 _ _ _ _ _ _ | exact ih1 _ _ _ _ _ _ | exact ih2 _ _ _ _ _ | exact ih3 _ _ _ _ _ | exact ih4 _ _ _ _ _ | exact ih5 _ _ _ _ _ | exact ih6 _ _ _ _ _ | exact ih7 _ _ _ _ | exact ih8 _ _ _ | exact impl_HexOf.mono _ _ _ | exact LeO.refl _ | exact LeO.none _ | refine LeO.ite ?_ ?_ | refine LeO.bind ?_ (fun _ => ?_))
   | exact ih0 _ _ _ _ _ _
   | exact ih1 _ _ _ _ _ _
   | exact ih2 _ _ _ _ _
   | exact ih3 _ _ _ _ _
   | exact ih4 _ _ _ _ _
   | exact ih5 _ _ _ _ _
   | exact ih6 _ _ _ _ _
   | exact ih7 _ _ _ _
   | exact ih8 _ _ _
   | exact impl_HexOf.mono _ _ _
   | exact LeO.none _
   | refine LeO.ite ?_ ?_
   | refine LeO.bind ?_ (fun _ => ?_)
  ·intro y0 y1 y2 y3 y4
   unfold impl_high.j4
   repeat' first
   | (with_reducible first | exact ih0 _ _ _ _ _ _ | exact ih1 _ _ _ _ _ _ | exact ih2 _ _ _ _ _ | exact ih3 _ _ _ _ _ | exact ih4 _ _ _ _ _ | exact ih5 _ _ _ _ _ | exact ih6 _ _ _ _ _ | exact ih7 _ _ _ _ | exact ih8 _ _ _ | exact impl_HexOf.mono _ _ _ | exact LeO.refl _ | exact LeO.none _ | refine LeO.ite ?_ ?_ | refine LeO.bind ?_ (fun _ => ?_))
   | exact ih0 _ _ _ _ _ _
   | exact ih1 _ _ _ _ _ _
   | exact ih2 _ _ _ _ _
   | exact ih3 _ _ _ _ _
   | exact ih4 _ _ _ _ _
   | exact ih5 _ _ _ _ _
   | exact ih6 _ _ _ _ _
   | exact ih7 _ _ _ _
   | exact ih8 _ _ _
   | exact impl_HexOf.mono _ _ _
   | exact LeO.none _
   | refine LeO.ite ?_ ?_
   | refine LeO.bind ?_ (fun _ => ?_)
  ·intro y0 y1 y2 y3 y4
   unfold impl_high.j5
   repeat' first
   | (with_reducible first | exact ih0 _ _ _ _ _ _ | exact ih1 _ _ _ _ _ _ | exact ih2 _ _ _ _ _ | exact ih3 _ _ _ _ _ | exact ih4 _ _ _ _ _ | exact ih5 _ _ _ _ _ | exact ih6 _ _ _ _ _ | exact ih7 _ _ _ _ | exact ih8 _ _ _ | exact impl_HexOf.mono _ _ _ | exact LeO.refl _ | exact LeO.none _ | refine LeO.ite ?_ ?_ | refine LeO.bind ?_ (fun _ => ?_))
   | exact ih0 _ _ _ _ _ _
   | exact ih1 _ _ _ _ _ _
   | exact ih2 _ _ _ _ _
   | exact ih3 _ _ _ _ _
   | exact ih4 _ _ _ _ _
   | exact ih5 _ _ _ _ _
   | exact ih6 _ _ _ _ _
   | exact ih7 _ _ _ _
   | exact ih8 _ _ _
   | exact impl_HexOf.mono _ _ _
   | exact LeO.none _
   | refine LeO.ite ?_ ?_
   | refine LeO.bind ?_ (fun _ => ?_)
  ·intro y0 y1 y2 y3 y4
   unfold impl_high.j6
   repeat' first
   | (with_reducible first | exact ih0 _ _ _ _ _ _ | exact ih1 _ _ _ _ _ _ | exact ih2 _ _ _ _ _ | exact ih3 _ _ _ _ _ | exact ih4 _ _ _ _ _ | exact ih5 _ _ _ _ _ | exact ih6 _ _ _ _ _ | exact ih7 _ _ _ _ | exact ih8 _ _ _ | exact impl_HexOf.mono _ _ _ | exact LeO.refl _ | exact LeO.none _ | refine LeO.ite ?_ ?_ | refine LeO.bind ?_ (fun _ => ?_))
   | exact ih0 _ _ _ _ _ _
   | exact ih1 _ _ _ _ _ _
   | exact ih2 _ _ _ _ _
   | exact ih3 _ _ _ _ _
   | exact ih4 _ _ _ _ _
   | exact ih5 _ _ _ _ _
   | exact ih6 _ _ _ _ _
   | exact ih7 _ _ _ _
   | exact ih8 _ _ _
   | exact impl_HexOf.mono _ _ _
   | exact LeO.none _
   | refine LeO.ite ?_ ?_
   | refine LeO.bind ?_ (fun _ => ?_)
  ·intro y0 y1 y2 y3
   unfold impl_high.j7
   repeat' first
   | (with_reducible first | exact ih0 _ _ _ _ _ _ | exact ih1 _ _ _ _ _ _ | exact ih2 _ _ _ _ _ | exact ih3 _ _ _ _ _ | exact ih4 _ _ _ _ _ | exact ih5 _ _ _ _ _ | exact ih6 _ _ _ _ _ | exact ih7 _ _ _ _ | exact ih8 _ _ _ | exact impl_HexOf.mono _ _ _ | exact LeO.refl _ | exact LeO.none _ | refine LeO.ite ?_ ?_ | refine LeO.bind ?_ (fun _ => ?_))
   | exact ih0 _ _ _ _ _ _
   | exact ih1 _ _ _ _ _ _
   | exact ih2 _ _ _ _ _
   | exact ih3 _ _ _ _ _
   | exact ih4 _ _ _ _ _
   | exact ih5 _ _ _ _ _
   | exact ih6 _ _ _ _ _
   | exact ih7 _ _ _ _
   | exact ih8 _ _ _
   | exact impl_HexOf.mono _ _ _
   | exact LeO.none _
   | refine LeO.ite ?_ ?_
   | refine LeO.bind ?_ (fun _ => ?_)
  intro y0 y1 y2
  unfold impl_high.j8
  repeat' first
  | (with_reducible first | exact ih0 _ _ _ _ _ _ | exact ih1 _ _ _ _ _ _ | exact ih2 _ _ _ _ _ | exact ih3 _ _ _ _ _ | exact ih4 _ _ _ _ _ | exact ih5 _ _ _ _ _ | exact ih6 _ _ _ _ _ | exact ih7 _ _ _ _ | exact ih8 _ _ _ | exact impl_HexOf.mono _ _ _ | exact LeO.refl _ | exact LeO.none _ | refine LeO.ite ?_ ?_ | refine LeO.bind ?_ (fun _ => ?_))
  | exact ih0 _ _ _ _ _ _
  | exact ih1 _ _ _ _ _ _
  | exact ih2 _ _ _ _ _
  | exact ih3 _ _ _ _ _
  | exact ih4 _ _ _ _ _
  | exact ih5 _ _ _ _ _
  | exact ih6 _ _ _ _ _
  | exact ih7 _ _ _ _
  | exact ih8 _ _ _
  | exact impl_HexOf.mono _ _ _
  | exact LeO.none _
  | refine LeO.ite ?_ ?_
  | refine LeO.bind ?_ (fun _ => ?_)
theorem impl_high.mono:∀ a0 a1 k,LeO (impl_high.f k a0 a1) (impl_high.f (k + 1) a0 a1):=by
 intro a0 a1 k
 obtain ⟨ih0,ih1,ih2,ih3,ih4,ih5,ih6,ih7,ih8⟩:=impl_high.mono_l k
 unfold impl_high.f
 repeat' first
   | (with_reducible first | exact ih0 _ _ _ _ _ _ | exact ih1 _ _ _ _ _ _ | exact ih2 _ _ _ _ _ | exact ih3 _ _ _ _ _ | exact ih4 _ _ _ _ _ | exact ih5 _ _ _ _ _ | exact ih6 _ _ _ _ _ | exact ih7 _ _ _ _ | exact ih8 _ _ _ | exact impl_HexOf.mono _ _ _ | exact LeO.refl _ | exact LeO.none _ | refine LeO.ite ?_ ?_ | refine LeO.bind ?_ (fun _ => ?_))
   | exact ih0 _ _ _ _ _ _
   | exact ih1 _ _ _ _ _ _
   | exact ih2 _ _ _ _ _
   | exact ih3 _ _ _ _ _
   | exact ih4 _ _ _ _ _
   | exact ih5 _ _ _ _ _
   | exact ih6 _ _ _ _ _
   | exact ih7 _ _ _ _
   | exact ih8 _ _ _
   | exact impl_HexOf.mono _ _ _
   | exact LeO.none _
   | refine LeO.ite ?_ ?_
   | refine LeO.bind ?_ (fun _ => ?_)
theorem impl_high.calls (k:Nat) (a0:Int) (a1:Int) (r:ByteArray) (w:World) (h:impl_high.f k a0 a1 = some r) (hG:Go.Proofs.YtodlnnoekccmmaaGreatDoor.LibW.GL w:=by first | exact hG | exact hG.below q10_ | exact hG.drewN _) :
  Calls Tryz.prog 94 #[.int .i64 a0,.int .i64 a1] w fun e w' => e = .returned (.string r) ∧ Below w.heap.size w w':=by
 have HB:=Aside0.mk (Below.refl w.heap.size w)
 have H:=h;unfold impl_high.f at H
 clear h
 replace H:=Option.bind_eq_some_iff.mp H
 obtain ⟨t189,A30,H⟩:=H
 have A3:=Aside0.mk A30
 clear A30
 obtain ⟨ji4,hji4⟩:∃ j_:Int,(wrap64 (Int.tdiv a0 2)) = j_:=⟨_,rfl⟩
 (first | rewrite [hji4] at H | simp only [hji4] at H)
 (try rw [hji4] at A3)
 have hji4w:(IntKind.i64.wrap (Int.tdiv a0 2)) = ji4:=(i64_w _).trans hji4
 by_cases c5:0 ≤ (ji4)
 rotate_left
 ·rw [if_neg c5] at H
  exact absurd H (by simp)
 rw [if_pos c5] at H
 have c5b0:=decide_eq_true c5
 clear c5
 by_cases c6:(ji4) < (t189.length:Int)
 rotate_left
 ·rw [if_neg c6] at H
  exact absurd H (by simp)
 rw [if_pos c6] at H
 have c6b0:=decide_eq_true c6
 clear c6
 have HC7:=Aside0.mk H
 clear H
 go_enter Tryz.func94,Tryz.ntmps94
 go_upto_region 3 with (first | ((with_reducible refine gate_callee (f:=97) rfl ?_);refine goesL_ (some 12) rfl rfl Tryz.func97 (by kernel_rfl) rfl #[.string (⟨#[98,99,32,100,101,32,104,108,32,97,102]⟩:ByteArray)] rfl q71_ ?_;(with_reducible refine (impl_names.calls (⟨#[98,99,32,100,101,32,104,108,32,97,102]⟩:ByteArray) t189 _ A3.out).mono ?_);rintro e w8 ⟨v190,rfl,ho0,hb⟩;refine ⟨_,rfl,?_⟩;have n0_:=Aside0.mk (Kd.R_lower ho0 (below_size q72_));have n1_:=Aside0.mk (below_step q72_ hb);clear HB;have HO191:=n0_;have HB:=n1_;clear n0_ n1_;(try clear hb);(try clear ho0);obtain ⟨Ao9,co9,eo9⟩:=Kd.R_slice HO191.out;subst eo9;have p192:0 ≤ ((ji4):Int):=of_decide_eq_true q109_;have q192:(ji4) < (t189.length:Int):=of_decide_eq_true q109_;obtain ⟨ad192,e192,hx192_0⟩:=Kd.at_string (Kd.R_reads' HO191.out).2.2 (ji4) p192 q192;cases e192;replace p192:=eq_true p192;replace q192:=eq_true q192))
 (try simp only [Act.put,List.setIfInBounds_toArray,List.set_cons_zero,List.set_cons_succ])
 go_cut [16] (fun v16 wc => ∃ (kq:Nat) (x16_6:Bool),v16 = .bool x16_6 ∧ Aside0 (impl_high.j0 kq a0 a1 ji4 (Int.tmod a0 2) (rdOf ByteArray.empty t189 (ji4)) x16_6 = some r) ∧ Aside0 (kq ≤ k) ∧ Aside0 (Below w.heap.size w wc))
 case first =>
  have H:=HC7.out
  clear HC7
  by_cases c10:a1 = 0
  ·rw [if_pos c10] at H
   have c10b0:(a1 == 0) = true:=beq_iff_eq.mpr c10
   have c10b1:(a1 != 0) = false:=bne_eq_false_iff_eq.mpr c10
   clear c10
   (first | rw [c10b0] | (simp only [i64_w,i32_w];rw [c10b0]) | rw [c10b9] | skip)
   have H':=Aside0.mk H
   clear H
   go_wp2
   go_meet
   case rel => exact ⟨_,(decide (a0 < 4)),q92_,q90_,⟨q121_⟩,⟨q72_⟩⟩
  rw [if_neg c10] at H
  have c10b0:(a1 == 0) = false:=beq_eq_false_iff_ne.mpr c10
  have c10b1:(a1 != 0) = true:=bne_iff_ne.mpr c10
  (first | rw [c10b0] | (simp only [i64_w,i32_w];rw [c10b0]) | rw [c10b9] | skip)
  have H':=Aside0.mk H
  clear H
  go_wp2
  go_meet
  case rel => exact ⟨_,(false),q92_,q90_,⟨q121_⟩,⟨q72_⟩⟩
 clear HC7
 try clear c1
 try clear p1
 try clear q1
 try clear hx1
 try clear p2
 try clear c5
 try clear c5b0
 try clear c6
 try clear c6b0
 try clear p6
 try clear c9
 try clear c10
 try clear c10b0
 try clear c10b1
 try clear hx192_0
 try clear p192
 try clear q192
 obtain ⟨kq,x16_6,rfl,HA,HJ6,HB⟩:=hcut
 cases kq with
 | zero => exact absurd HA.out (by simp [impl_high.j0])
 | succ kj6 =>
  have H:=HA.out
  clear HA
  simp only [impl_high.j0] at H
  by_cases c11:x16_6 = true
  ·subst c11
   rewrite [if_pos rfl] at H
   replace H:=Option.bind_eq_some_iff.mp H
   obtain ⟨t193,A120,H⟩:=H
   have A12:=Aside0.mk A120
   clear A120
   by_cases c13:0 ≤ a0
   rotate_left
   ·rw [if_neg c13] at H
    exact absurd H (by simp)
   rw [if_pos c13] at H
   have c13b0:=decide_eq_true c13
   clear c13
   by_cases c14:a0 < (t193.length:Int)
   rotate_left
   ·rw [if_neg c14] at H
    exact absurd H (by simp)
   rw [if_pos c14] at H
   have c14b0:=decide_eq_true c14
   clear c14
   by_cases c15:4 + (rdOf ByteArray.empty t193 a0).size ≤ 9223372036854775807
   rotate_left
   ·rw [if_neg c15] at H
    exact absurd H (by simp)
   rw [if_pos c15] at H
   have c15b0:=eq_true c15
   have c15b1:=decide_eq_true c15
   try have c15b2:(9223372036854775807 < 4 + (rdOf ByteArray.empty t193 a0).size) = False:=eq_false (Nat.not_lt.2 c15)
   obtain rfl:=Option.some.inj H
   go_wp2_with (first | ((with_reducible refine gate_callee (f:=129) rfl ?_);refine goesL_ (some 23) rfl rfl Tryz.func129 (by kernel_rfl) rfl #[] rfl q71_ ?_;(with_reducible refine (impl_conds.calls  t193 _ A12.out).mono ?_);rintro e w16 ⟨v194,rfl,ho0,hb⟩;refine ⟨_,rfl,?_⟩;have n0_:=Aside0.mk (Kd.R_lower ho0 (below_size q72_));have n1_:=Aside0.mk (below_step q72_ hb);clear HB;have HO195:=n0_;have HB:=n1_;clear n0_ n1_;(try clear hb);(try clear ho0);obtain ⟨Ao17,co17,eo17⟩:=Kd.R_slice HO195.out;subst eo17;have p196:0 ≤ (a0:Int):=of_decide_eq_true q109_;have q196:a0 < (t193.length:Int):=of_decide_eq_true q109_;obtain ⟨ad196,e196,hx196_0⟩:=Kd.at_string (Kd.R_reads' HO195.out).2.2 a0 p196 q196;cases e196;replace p196:=eq_true p196;replace q196:=eq_true q196))
   go_ret
   exact ⟨q44_,q72_⟩
  replace c11:=Bool.eq_false_iff.mpr c11
  subst c11
  rewrite [if_neg (show ¬ (false = true) by decide)] at H
  by_cases c18:a1 = 0
  ·rw [if_pos c18] at H
   have c18b0:(a1 == 0) = true:=beq_iff_eq.mpr c18
   have c18b1:(a1 != 0) = false:=bne_eq_false_iff_eq.mpr c18
   clear c18
   obtain ⟨y197,hy197⟩:∃ y_:List ByteArray,y_ = (([(⟨#[108,100,104,32,91,110,56,93,44,97]⟩:ByteArray),(⟨#[97,100,100,32,115,112,44,101,56]⟩:ByteArray),(⟨#[108,100,104,32,97,44,91,110,56,93]⟩:ByteArray),(⟨#[108,100,32,104,108,44,115,112,43,101,56]⟩:ByteArray)]:List ByteArray)):=⟨_,rfl⟩
   replace H:(if 0 ≤ (wrap64 (a0 - 4)) then (if (wrap64 (a0 - 4)) < (y197.length:Int) then (some (rdOf ByteArray.empty y197 (wrap64 (a0 - 4)))) else (none)) else (none)) = some r:=by first | (rw [hy197];exact H) | exact H
   have Ny197:=Aside0.mk hy197
   clear hy197
   obtain ⟨ji19,hji19⟩:∃ j_:Int,(wrap64 (a0 - 4)) = j_:=⟨_,rfl⟩
   (first | rewrite [hji19] at H | simp only [hji19] at H)
   have hji19w:(IntKind.i64.wrap (a0 - 4)) = ji19:=(i64_w _).trans hji19
   by_cases c20:0 ≤ (ji19)
   rotate_left
   ·rw [if_neg c20] at H
    exact absurd H (by simp)
   rw [if_pos c20] at H
   have c20b0:=decide_eq_true c20
   clear c20
   by_cases c21:(ji19) < (y197.length:Int)
   rotate_left
   ·rw [if_neg c21] at H
    exact absurd H (by simp)
   rw [if_pos c21] at H
   have c21b0:=decide_eq_true c21
   clear c21
   obtain rfl:=Option.some.inj H
   go_wp2_with (first | ((with_reducible refine gate_dst (N:=31) rfl ?_);refine Kd.R_lit Kd.string _ 9 ?hg (N:=31) ?hd (xs:=([(⟨#[108,100,104,32,91,110,56,93,44,97]⟩:ByteArray),(⟨#[97,100,100,32,115,112,44,101,56]⟩:ByteArray),(⟨#[108,100,104,32,97,44,91,110,56,93]⟩:ByteArray),(⟨#[108,100,32,104,108,44,115,112,43,101,56]⟩:ByteArray)]:List ByteArray)) (inner:=[.string (⟨#[108,100,104,32,91,110,56,93,44,97]⟩:ByteArray),.string (⟨#[97,100,100,32,115,112,44,101,56]⟩:ByteArray),.string (⟨#[108,100,104,32,97,44,91,110,56,93]⟩:ByteArray),.string (⟨#[108,100,32,104,108,44,115,112,43,101,56]⟩:ByteArray)]) (ok:=fun _ => True) (okp:=fun _ => True) ?hr ?hp (fun _ hk => hk) trivial (Below.refl _ _) (Nat.le_refl _) (by simp) ?_;(case hd => rfl);(case hg => rfl);(case hr => exact q139_);(case hp => exact q122_);intro v198 w22 ho23 hb hg_ hnew_;clear hg_ hnew_;(first | rw [← Ny197.out] at ho23 | (simp only [Int.reduceToNat] at ho23;rw [← Ny197.out] at ho23));have n0_:=Aside0.mk (Kd.R_lower ho23 (below_size q72_));have n1_:=Aside0.mk (below_step q72_ hb);clear HB;have HO199:=n0_;have HB:=n1_;clear n0_ n1_;clear hb ho23;obtain ⟨Ao24,co24,eo24⟩:=Kd.R_slice HO199.out;subst eo24;have p200:0 ≤ ((ji19):Int):=of_decide_eq_true q109_;have q200:(ji19) < (y197.length:Int):=of_decide_eq_true q109_;obtain ⟨ad200,e200,hx200_0⟩:=Kd.at_string (Kd.R_reads' HO199.out).2.2 (ji19) p200 q200;cases e200;replace p200:=eq_true p200;replace q200:=eq_true q200))
   go_ret
   exact ⟨by first | rfl | (simp [errW_none,errW_some] <;> rfl) | (simp only [← hji4,← hji19];first | rfl | (simp [errW_none,errW_some] <;> rfl)) | (simp [*,errW_none,errW_some] <;> rfl) | (exfalso;simp_all;done),q72_⟩
  rw [if_neg c18] at H
  have c18b0:(a1 == 0) = false:=beq_eq_false_iff_ne.mpr c18
  have c18b1:(a1 != 0) = true:=bne_iff_ne.mpr c18
  have HC25:=Aside0.mk H
  clear H
  go_upto_region 7 with (fail)
  go_cut [36] (fun v36 wc => ∃ (kq:Nat) (x36_24:Bool),v36 = .bool x36_24 ∧ Aside0 (impl_high.j1 kq a0 a1 ji4 (Int.tmod a0 2) (rdOf ByteArray.empty t189 (ji4)) x36_24 = some r) ∧ Aside0 (kq ≤ kj6) ∧ Aside0 (Below w.heap.size w wc))
  case first =>
   have H:=HC25.out
   clear HC25
   by_cases c26:a1 = 1
   ·rw [if_pos c26] at H
    have c26b0:(a1 == 1) = true:=beq_iff_eq.mpr c26
    have c26b1:(a1 != 1) = false:=bne_eq_false_iff_eq.mpr c26
    clear c26
    (first | rw [c26b0] | (simp only [i64_w,i32_w];rw [c26b0]) | rw [c26b9] | skip)
    have H':=Aside0.mk H
    clear H
    go_wp2
    go_meet
    case rel => exact ⟨_,(((Int.tmod a0 2) == 0)),q92_,q90_,⟨by have:=HJ6.out;first | omega | exact Nat.le_refl _⟩,⟨q72_⟩⟩
   rw [if_neg c26] at H
   have c26b0:(a1 == 1) = false:=beq_eq_false_iff_ne.mpr c26
   have c26b1:(a1 != 1) = true:=bne_iff_ne.mpr c26
   (first | rw [c26b0] | (simp only [i64_w,i32_w];rw [c26b0]) | rw [c26b9] | skip)
   have H':=Aside0.mk H
   clear H
   go_wp2
   go_meet
   case rel => exact ⟨_,(false),q92_,q90_,⟨by have:=HJ6.out;first | omega | exact Nat.le_refl _⟩,⟨q72_⟩⟩
  clear HC25
  try clear c1
  try clear p1 p1
  try clear q1 q1
  try clear hx1
  try clear c2
  try clear p2 p2
  try clear q2
  try clear hx2
  try clear c5
  try clear c5b0
  try clear c6
  try clear c6b0
  try clear p6 p6
  try clear c9
  try clear c10
  try clear c10b0
  try clear c10b1
  try clear c11
  try clear c12
  try clear c13
  try clear c13b0
  try clear c14
  try clear c14b0
  try clear c15
  try clear c15b0
  try clear c15b1
  try clear c15b2
  try clear c18
  try clear c18b0
  try clear c18b1
  try clear p19
  try clear q19
  try clear hx19
  try clear c20
  try clear c20b0
  try clear p20
  try clear q20
  try clear hx20
  try clear c21
  try clear c21b0
  try clear c26
  try clear c26b0
  try clear c26b1
  try clear hx192_0
  try clear hx196_0
  try clear hx200_0
  try clear p192
  try clear p196
  try clear p200
  try clear q192
  try clear q196
  try clear q200
  obtain ⟨kq,x36_24,rfl,HA,HJ24,HB⟩:=hcut
  cases kq with
  | zero => exact absurd HA.out (by simp [impl_high.j1])
  | succ kj24 =>
   have H:=HA.out
   clear HA
   simp only [impl_high.j1] at H
   by_cases c27:x36_24 = true
   ·subst c27
    rewrite [if_pos rfl] at H
    by_cases c28:4 + (rdOf ByteArray.empty t189 (ji4)).size ≤ 9223372036854775807
    rotate_left
    ·rw [if_neg c28] at H
     exact absurd H (by simp)
    rw [if_pos c28] at H
    have c28b0:=eq_true c28
    have c28b1:=decide_eq_true c28
    try have c28b2:(9223372036854775807 < 4 + (rdOf ByteArray.empty t189 (ji4)).size) = False:=eq_false (Nat.not_lt.2 c28)
    obtain rfl:=Option.some.inj H
    go_wp2
    go_ret
    exact ⟨q44_,q72_⟩
   replace c27:=Bool.eq_false_iff.mpr c27
   subst c27
   rewrite [if_neg (show ¬ (false = true) by decide)] at H
   by_cases c29:a1 = 1
   ·rw [if_pos c29] at H
    have c29b0:(a1 == 1) = true:=beq_iff_eq.mpr c29
    have c29b1:(a1 != 1) = false:=bne_eq_false_iff_eq.mpr c29
    clear c29
    obtain ⟨y201,hy201⟩:∃ y_:List ByteArray,y_ = (([(⟨#[114,101,116]⟩:ByteArray),(⟨#[114,101,116,105]⟩:ByteArray),(⟨#[106,112,32,104,108]⟩:ByteArray),(⟨#[108,100,32,115,112,44,104,108]⟩:ByteArray)]:List ByteArray)):=⟨_,rfl⟩
    replace H:(if 0 ≤ ji4 then (if ji4 < (y201.length:Int) then (some (rdOf ByteArray.empty y201 ji4)) else (none)) else (none)) = some r:=by first | (rw [hy201];exact H) | exact H
    have Ny201:=Aside0.mk hy201
    clear hy201
    by_cases c30:0 ≤ ji4
    rotate_left
    ·rw [if_neg c30] at H
     exact absurd H (by simp)
    rw [if_pos c30] at H
    have c30b0:=decide_eq_true c30
    clear c30
    by_cases c31:ji4 < (y201.length:Int)
    rotate_left
    ·rw [if_neg c31] at H
     exact absurd H (by simp)
    rw [if_pos c31] at H
    have c31b0:=decide_eq_true c31
    clear c31
    obtain rfl:=Option.some.inj H
    go_wp2_with (first | ((with_reducible refine gate_dst (N:=48) rfl ?_);refine Kd.R_lit Kd.string _ 9 ?hg (N:=48) ?hd (xs:=([(⟨#[114,101,116]⟩:ByteArray),(⟨#[114,101,116,105]⟩:ByteArray),(⟨#[106,112,32,104,108]⟩:ByteArray),(⟨#[108,100,32,115,112,44,104,108]⟩:ByteArray)]:List ByteArray)) (inner:=[.string (⟨#[114,101,116]⟩:ByteArray),.string (⟨#[114,101,116,105]⟩:ByteArray),.string (⟨#[106,112,32,104,108]⟩:ByteArray),.string (⟨#[108,100,32,115,112,44,104,108]⟩:ByteArray)]) (ok:=fun _ => True) (okp:=fun _ => True) ?hr ?hp (fun _ hk => hk) trivial (Below.refl _ _) (Nat.le_refl _) (by simp) ?_;(case hd => rfl);(case hg => rfl);(case hr => exact q139_);(case hp => exact q125_);intro v202 w32 ho33 hb hg_ hnew_;clear hg_ hnew_;(first | rw [← Ny201.out] at ho33 | (simp only [Int.reduceToNat] at ho33;rw [← Ny201.out] at ho33));have n0_:=Aside0.mk (Kd.R_lower ho33 (below_size q72_));have n1_:=Aside0.mk (below_step q72_ hb);clear HB;have HO203:=n0_;have HB:=n1_;clear n0_ n1_;clear hb ho33;obtain ⟨Ao34,co34,eo34⟩:=Kd.R_slice HO203.out;subst eo34;have p204:0 ≤ (ji4:Int):=of_decide_eq_true q109_;have q204:ji4 < (y201.length:Int):=of_decide_eq_true q109_;obtain ⟨ad204,e204,hx204_0⟩:=Kd.at_string (Kd.R_reads' HO203.out).2.2 ji4 p204 q204;cases e204;replace p204:=eq_true p204;replace q204:=eq_true q204))
    go_ret
    exact ⟨q44_,q72_⟩
   rw [if_neg c29] at H
   have c29b0:(a1 == 1) = false:=beq_eq_false_iff_ne.mpr c29
   have c29b1:(a1 != 1) = true:=bne_iff_ne.mpr c29
   have HC35:=Aside0.mk H
   clear H
   go_upto_region 11 with (fail)
   go_cut [52] (fun v52 wc => ∃ (kq:Nat) (x52_34:Bool),v52 = .bool x52_34 ∧ Aside0 (impl_high.j2 kq a0 a1 (Int.tmod a0 2) (rdOf ByteArray.empty t189 (ji4)) x52_34 = some r) ∧ Aside0 (kq ≤ kj24) ∧ Aside0 (Below w.heap.size w wc))
   case first =>
    have H:=HC35.out
    clear HC35
    by_cases c36:a1 = 2
    ·rw [if_pos c36] at H
     have c36b0:(a1 == 2) = true:=beq_iff_eq.mpr c36
     have c36b1:(a1 != 2) = false:=bne_eq_false_iff_eq.mpr c36
     clear c36
     (first | rw [c36b0] | (simp only [i64_w,i32_w];rw [c36b0]) | rw [c36b9] | skip)
     have H':=Aside0.mk H
     clear H
     go_wp2
     go_meet
     case rel => exact ⟨_,(decide (a0 < 4)),q92_,q90_,⟨by have:=HJ6.out;have:=HJ24.out;first | omega | exact Nat.le_refl _⟩,⟨q72_⟩⟩
    rw [if_neg c36] at H
    have c36b0:(a1 == 2) = false:=beq_eq_false_iff_ne.mpr c36
    have c36b1:(a1 != 2) = true:=bne_iff_ne.mpr c36
    (first | rw [c36b0] | (simp only [i64_w,i32_w];rw [c36b0]) | rw [c36b9] | skip)
    have H':=Aside0.mk H
    clear H
    go_wp2
    go_meet
    case rel => exact ⟨_,(false),q92_,q90_,⟨by have:=HJ6.out;have:=HJ24.out;first | omega | exact Nat.le_refl _⟩,⟨q72_⟩⟩
   clear HC35
   try clear c1
   try clear p1 p1
   try clear q1 q1
   try clear hx1
   try clear c2
   try clear p2 p2
   try clear q2 q2
   try clear hx2
   try clear c3
   try clear c5
   try clear c5b0
   try clear c6
   try clear c6b0
   try clear p6 p6
   try clear c9
   try clear c10
   try clear c10b0
   try clear c10b1
   try clear c11
   try clear c12
   try clear c13
   try clear c13b0
   try clear c14
   try clear c14b0
   try clear c15
   try clear c15b0
   try clear c15b1
   try clear c15b2
   try clear c18
   try clear c18b0
   try clear c18b1
   try clear p19 p19
   try clear q19 q19
   try clear hx19
   try clear c20
   try clear c20b0
   try clear p20 p20
   try clear q20 q20
   try clear hx20
   try clear c21
   try clear c21b0
   try clear c26
   try clear c26b0
   try clear c26b1
   try clear c27
   try clear c28
   try clear c28b0
   try clear c28b1
   try clear c28b2
   try clear c29
   try clear c29b0
   try clear c29b1
   try clear c30
   try clear c30b0
   try clear c31
   try clear c31b0
   try clear c36
   try clear c36b0
   try clear c36b1
   try clear hx192_0
   try clear hx196_0
   try clear hx200_0
   try clear hx204_0
   try clear p192
   try clear p196
   try clear p200
   try clear p204
   try clear q192
   try clear q196
   try clear q200
   try clear q204
   obtain ⟨kq,x52_34,rfl,HA,HJ34,HB⟩:=hcut
   cases kq with
   | zero => exact absurd HA.out (by simp [impl_high.j2])
   | succ kj34 =>
    have H:=HA.out
    clear HA
    simp only [impl_high.j2] at H
    by_cases c37:x52_34 = true
    ·subst c37
     rewrite [if_pos rfl] at H
     replace H:=Option.bind_eq_some_iff.mp H
     obtain ⟨t205,A380,H⟩:=H
     have A38:=Aside0.mk A380
     clear A380
     by_cases c39:0 ≤ a0
     rotate_left
     ·rw [if_neg c39] at H
      exact absurd H (by simp)
     rw [if_pos c39] at H
     have c39b0:=decide_eq_true c39
     clear c39
     by_cases c40:a0 < (t205.length:Int)
     rotate_left
     ·rw [if_neg c40] at H
      exact absurd H (by simp)
     rw [if_pos c40] at H
     have c40b0:=decide_eq_true c40
     clear c40
     by_cases c41:3 + (rdOf ByteArray.empty t205 a0).size ≤ 9223372036854775807
     rotate_left
     ·rw [if_neg c41] at H
      exact absurd H (by simp)
     rw [if_pos c41] at H
     have c41b0:=eq_true c41
     have c41b1:=decide_eq_true c41
     try have c41b2:(9223372036854775807 < 3 + (rdOf ByteArray.empty t205 a0).size) = False:=eq_false (Nat.not_lt.2 c41)
     by_cases c42:((⟨#[106,112,32]⟩:ByteArray) ++ (rdOf ByteArray.empty t205 a0)).size + 4 ≤ 9223372036854775807
     rotate_left
     ·rw [if_neg c42] at H
      exact absurd H (by simp)
     rw [if_pos c42] at H
     have c42b0:=eq_true c42
     (try (have c42b0e:=c42b0;simp only [ByteArray.size_append,ByteArray.size_extract,Nat.min_self,Nat.sub_zero,show (⟨#[106,112,32]⟩:ByteArray).size = 3 from rfl] at c42b0e))
     have c42b1:=decide_eq_true c42
     (try (have c42b1e:=c42b1;simp only [ByteArray.size_append,ByteArray.size_extract,Nat.min_self,Nat.sub_zero,show (⟨#[106,112,32]⟩:ByteArray).size = 3 from rfl] at c42b1e))
     try have c42b2:(9223372036854775807 < ((⟨#[106,112,32]⟩:ByteArray) ++ (rdOf ByteArray.empty t205 a0)).size + 4) = False:=eq_false (Nat.not_lt.2 c42)
     (try (have c42b2e:=c42b2;simp only [ByteArray.size_append,ByteArray.size_extract,Nat.min_self,Nat.sub_zero,show (⟨#[106,112,32]⟩:ByteArray).size = 3 from rfl] at c42b2e))
     obtain rfl:=Option.some.inj H
     go_wp2_with (first | ((with_reducible refine gate_callee (f:=129) rfl ?_);refine goesL_ (some 59) rfl rfl Tryz.func129 (by kernel_rfl) rfl #[] rfl q71_ ?_;(with_reducible refine (impl_conds.calls  t205 _ A38.out).mono ?_);rintro e w43 ⟨v206,rfl,ho0,hb⟩;refine ⟨_,rfl,?_⟩;have n0_:=Aside0.mk (Kd.R_lower ho0 (below_size q72_));have n1_:=Aside0.mk (below_step q72_ hb);clear HB;have HO207:=n0_;have HB:=n1_;clear n0_ n1_;(try clear hb);(try clear ho0);obtain ⟨Ao44,co44,eo44⟩:=Kd.R_slice HO207.out;subst eo44;have p208:0 ≤ (a0:Int):=of_decide_eq_true q109_;have q208:a0 < (t205.length:Int):=of_decide_eq_true q109_;obtain ⟨ad208,e208,hx208_0⟩:=Kd.at_string (Kd.R_reads' HO207.out).2.2 a0 p208 q208;cases e208;replace p208:=eq_true p208;replace q208:=eq_true q208))
     go_ret
     exact ⟨q44_,q72_⟩
    replace c37:=Bool.eq_false_iff.mpr c37
    subst c37
    rewrite [if_neg (show ¬ (false = true) by decide)] at H
    by_cases c45:a1 = 2
    ·rw [if_pos c45] at H
     have c45b0:(a1 == 2) = true:=beq_iff_eq.mpr c45
     have c45b1:(a1 != 2) = false:=bne_eq_false_iff_eq.mpr c45
     clear c45
     obtain ⟨y209,hy209⟩:∃ y_:List ByteArray,y_ = (([(⟨#[108,100,104,32,91,99,93,44,97]⟩:ByteArray),(⟨#[108,100,32,91,110,49,54,93,44,97]⟩:ByteArray),(⟨#[108,100,104,32,97,44,91,99,93]⟩:ByteArray),(⟨#[108,100,32,97,44,91,110,49,54,93]⟩:ByteArray)]:List ByteArray)):=⟨_,rfl⟩
     replace H:(if 0 ≤ (wrap64 (a0 - 4)) then (if (wrap64 (a0 - 4)) < (y209.length:Int) then (some (rdOf ByteArray.empty y209 (wrap64 (a0 - 4)))) else (none)) else (none)) = some r:=by first | (rw [hy209];exact H) | exact H
     have Ny209:=Aside0.mk hy209
     clear hy209
     obtain ⟨ji46,hji46⟩:∃ j_:Int,(wrap64 (a0 - 4)) = j_:=⟨_,rfl⟩
     (first | rewrite [hji46] at H | simp only [hji46] at H)
     have hji46w:(IntKind.i64.wrap (a0 - 4)) = ji46:=(i64_w _).trans hji46
     by_cases c47:0 ≤ (ji46)
     rotate_left
     ·rw [if_neg c47] at H
      exact absurd H (by simp)
     rw [if_pos c47] at H
     have c47b0:=decide_eq_true c47
     clear c47
     by_cases c48:(ji46) < (y209.length:Int)
     rotate_left
     ·rw [if_neg c48] at H
      exact absurd H (by simp)
     rw [if_pos c48] at H
     have c48b0:=decide_eq_true c48
     clear c48
     obtain rfl:=Option.some.inj H
     go_wp2_with (first | ((with_reducible refine gate_dst (N:=68) rfl ?_);refine Kd.R_lit Kd.string _ 9 ?hg (N:=68) ?hd (xs:=([(⟨#[108,100,104,32,91,99,93,44,97]⟩:ByteArray),(⟨#[108,100,32,91,110,49,54,93,44,97]⟩:ByteArray),(⟨#[108,100,104,32,97,44,91,99,93]⟩:ByteArray),(⟨#[108,100,32,97,44,91,110,49,54,93]⟩:ByteArray)]:List ByteArray)) (inner:=[.string (⟨#[108,100,104,32,91,99,93,44,97]⟩:ByteArray),.string (⟨#[108,100,32,91,110,49,54,93,44,97]⟩:ByteArray),.string (⟨#[108,100,104,32,97,44,91,99,93]⟩:ByteArray),.string (⟨#[108,100,32,97,44,91,110,49,54,93]⟩:ByteArray)]) (ok:=fun _ => True) (okp:=fun _ => True) ?hr ?hp (fun _ hk => hk) trivial (Below.refl _ _) (Nat.le_refl _) (by simp) ?_;(case hd => rfl);(case hg => rfl);(case hr => exact q139_);(case hp => exact q123_);intro v210 w49 ho50 hb hg_ hnew_;clear hg_ hnew_;(first | rw [← Ny209.out] at ho50 | (simp only [Int.reduceToNat] at ho50;rw [← Ny209.out] at ho50));have n0_:=Aside0.mk (Kd.R_lower ho50 (below_size q72_));have n1_:=Aside0.mk (below_step q72_ hb);clear HB;have HO211:=n0_;have HB:=n1_;clear n0_ n1_;clear hb ho50;obtain ⟨Ao51,co51,eo51⟩:=Kd.R_slice HO211.out;subst eo51;have p212:0 ≤ ((ji46):Int):=of_decide_eq_true q109_;have q212:(ji46) < (y209.length:Int):=of_decide_eq_true q109_;obtain ⟨ad212,e212,hx212_0⟩:=Kd.at_string (Kd.R_reads' HO211.out).2.2 (ji46) p212 q212;cases e212;replace p212:=eq_true p212;replace q212:=eq_true q212))
     go_ret
     exact ⟨by first | rfl | (simp [errW_none,errW_some] <;> rfl) | (simp only [← hji4,← hji46];first | rfl | (simp [errW_none,errW_some] <;> rfl)) | (simp [*,errW_none,errW_some] <;> rfl) | (exfalso;simp_all;done),q72_⟩
    rw [if_neg c45] at H
    have c45b0:(a1 == 2) = false:=beq_eq_false_iff_ne.mpr c45
    have c45b1:(a1 != 2) = true:=bne_iff_ne.mpr c45
    have HC52:=Aside0.mk H
    clear H
    go_upto_region 15 with (fail)
    go_cut [73] (fun v73 wc => ∃ (kq:Nat) (x73_51:Bool),v73 = .bool x73_51 ∧ Aside0 (impl_high.j3 kq a0 a1 (Int.tmod a0 2) (rdOf ByteArray.empty t189 (ji4)) x73_51 = some r) ∧ Aside0 (kq ≤ kj34) ∧ Aside0 (Below w.heap.size w wc))
    case first =>
     have H:=HC52.out
     clear HC52
     by_cases c53:a1 = 3
     ·rw [if_pos c53] at H
      have c53b0:(a1 == 3) = true:=beq_iff_eq.mpr c53
      have c53b1:(a1 != 3) = false:=bne_eq_false_iff_eq.mpr c53
      clear c53
      (first | rw [c53b0] | (simp only [i64_w,i32_w];rw [c53b0]) | rw [c53b9] | skip)
      have H':=Aside0.mk H
      clear H
      go_wp2
      go_meet
      case rel => exact ⟨_,((a0 == 0)),q92_,q90_,⟨by have:=HJ6.out;have:=HJ24.out;have:=HJ34.out;first | omega | exact Nat.le_refl _⟩,⟨q72_⟩⟩
     rw [if_neg c53] at H
     have c53b0:(a1 == 3) = false:=beq_eq_false_iff_ne.mpr c53
     have c53b1:(a1 != 3) = true:=bne_iff_ne.mpr c53
     (first | rw [c53b0] | (simp only [i64_w,i32_w];rw [c53b0]) | rw [c53b9] | skip)
     have H':=Aside0.mk H
     clear H
     go_wp2
     go_meet
     case rel => exact ⟨_,(false),q92_,q90_,⟨by have:=HJ6.out;have:=HJ24.out;have:=HJ34.out;first | omega | exact Nat.le_refl _⟩,⟨q72_⟩⟩
    clear HC52
    try clear c1
    try clear p1 p1
    try clear q1 q1
    try clear hx1
    try clear c2
    try clear p2 p2
    try clear q2 q2
    try clear hx2
    try clear c3
    try clear c4
    try clear c5
    try clear c5b0
    try clear c6
    try clear c6b0
    try clear p6 p6
    try clear c9
    try clear c10
    try clear c10b0
    try clear c10b1
    try clear c11
    try clear c12
    try clear c13
    try clear c13b0
    try clear c14
    try clear c14b0
    try clear c15
    try clear c15b0
    try clear c15b1
    try clear c15b2
    try clear c18
    try clear c18b0
    try clear c18b1
    try clear p19 p19
    try clear q19 q19
    try clear hx19
    try clear c20
    try clear c20b0
    try clear p20 p20
    try clear q20 q20
    try clear hx20
    try clear c21
    try clear c21b0
    try clear p21
    try clear q21
    try clear hx21
    try clear c26
    try clear c26b0
    try clear c26b1
    try clear c27
    try clear c28
    try clear c28b0
    try clear c28b1
    try clear c28b2
    try clear c29
    try clear c29b0
    try clear c29b1
    try clear c30
    try clear c30b0
    try clear c31
    try clear c31b0
    try clear c36
    try clear c36b0
    try clear c36b1
    try clear c37
    try clear c39
    try clear c39b0
    try clear c40
    try clear c40b0
    try clear c41
    try clear c41b0
    try clear c41b1
    try clear c41b2
    try clear c42
    try clear c42b0
    try clear c42b1
    try clear c42b2
    try clear c45
    try clear c45b0
    try clear c45b1
    try clear c47
    try clear c47b0
    try clear c48
    try clear c48b0
    try clear c53
    try clear c53b0
    try clear c53b1
    try clear hx192_0
    try clear hx196_0
    try clear hx200_0
    try clear hx204_0
    try clear hx208_0
    try clear hx212_0
    try clear p192
    try clear p196
    try clear p200
    try clear p204
    try clear p208
    try clear p212
    try clear q192
    try clear q196
    try clear q200
    try clear q204
    try clear q208
    try clear q212
    obtain ⟨kq,x73_51,rfl,HA,HJ51,HB⟩:=hcut
    cases kq with
    | zero => exact absurd HA.out (by simp [impl_high.j3])
    | succ kj51 =>
     have H:=HA.out
     clear HA
     simp only [impl_high.j3] at H
     by_cases c54:x73_51 = true
     ·subst c54
      rewrite [if_pos rfl] at H
      obtain rfl:=Option.some.inj H
      go_wp2
      go_ret
      exact ⟨q44_,q72_⟩
     replace c54:=Bool.eq_false_iff.mpr c54
     subst c54
     rewrite [if_neg (show ¬ (false = true) by decide)] at H
     have HC55:=Aside0.mk H
     clear H
     go_upto_region 17 with (fail)
     go_cut [80] (fun v80 wc => ∃ (kq:Nat) (x80_54:Bool),v80 = .bool x80_54 ∧ Aside0 (impl_high.j4 kq a0 a1 (Int.tmod a0 2) (rdOf ByteArray.empty t189 (ji4)) x80_54 = some r) ∧ Aside0 (kq ≤ kj51) ∧ Aside0 (Below w.heap.size w wc))
     case first =>
      have H:=HC55.out
      clear HC55
      by_cases c56:a1 = 3
      ·rw [if_pos c56] at H
       have c56b0:(a1 == 3) = true:=beq_iff_eq.mpr c56
       have c56b1:(a1 != 3) = false:=bne_eq_false_iff_eq.mpr c56
       clear c56
       (first | rw [c56b0] | (simp only [i64_w,i32_w];rw [c56b0]) | rw [c56b9] | skip)
       have H':=Aside0.mk H
       clear H
       go_wp2
       go_meet
       case rel => exact ⟨_,((a0 == 6)),q92_,q90_,⟨by have:=HJ6.out;have:=HJ24.out;have:=HJ34.out;have:=HJ51.out;first | omega | exact Nat.le_refl _⟩,⟨q72_⟩⟩
      rw [if_neg c56] at H
      have c56b0:(a1 == 3) = false:=beq_eq_false_iff_ne.mpr c56
      have c56b1:(a1 != 3) = true:=bne_iff_ne.mpr c56
      (first | rw [c56b0] | (simp only [i64_w,i32_w];rw [c56b0]) | rw [c56b9] | skip)
      have H':=Aside0.mk H
      clear H
      go_wp2
      go_meet
      case rel => exact ⟨_,(false),q92_,q90_,⟨by have:=HJ6.out;have:=HJ24.out;have:=HJ34.out;have:=HJ51.out;first | omega | exact Nat.le_refl _⟩,⟨q72_⟩⟩
     clear HC55
     try clear c1
     try clear p1 p1
     try clear q1 q1
     try clear hx1
     try clear c2
     try clear p2 p2
     try clear q2 q2
     try clear hx2
     try clear c3
     try clear c4
     try clear c5
     try clear c5b0
     try clear c6
     try clear c6b0
     try clear p6 p6
     try clear c9
     try clear c10
     try clear c10b0
     try clear c10b1
     try clear c11
     try clear c12
     try clear c13
     try clear c13b0
     try clear c14
     try clear c14b0
     try clear c15
     try clear c15b0
     try clear c15b1
     try clear c15b2
     try clear c18
     try clear c18b0
     try clear c18b1
     try clear p19 p19
     try clear q19 q19
     try clear hx19
     try clear c20
     try clear c20b0
     try clear p20 p20
     try clear q20 q20
     try clear hx20
     try clear c21
     try clear c21b0
     try clear p21 p21
     try clear q21 q21
     try clear hx21
     try clear c26
     try clear c26b0
     try clear c26b1
     try clear c27
     try clear c28
     try clear c28b0
     try clear c28b1
     try clear c28b2
     try clear c29
     try clear c29b0
     try clear c29b1
     try clear c30
     try clear c30b0
     try clear c31
     try clear c31b0
     try clear c36
     try clear c36b0
     try clear c36b1
     try clear c37
     try clear c39
     try clear c39b0
     try clear c40
     try clear c40b0
     try clear c41
     try clear c41b0
     try clear c41b1
     try clear c41b2
     try clear c42
     try clear c42b0
     try clear c42b1
     try clear c42b2
     try clear c45
     try clear c45b0
     try clear c45b1
     try clear c47
     try clear c47b0
     try clear c48
     try clear c48b0
     try clear c53
     try clear c53b0
     try clear c53b1
     try clear c54
     try clear c56
     try clear c56b0
     try clear c56b1
     try clear hx192_0
     try clear hx196_0
     try clear hx200_0
     try clear hx204_0
     try clear hx208_0
     try clear hx212_0
     try clear p192
     try clear p196
     try clear p200
     try clear p204
     try clear p208
     try clear p212
     try clear q192
     try clear q196
     try clear q200
     try clear q204
     try clear q208
     try clear q212
     obtain ⟨kq,x80_54,rfl,HA,HJ54,HB⟩:=hcut
     cases kq with
     | zero => exact absurd HA.out (by simp [impl_high.j4])
     | succ kj54 =>
      have H:=HA.out
      clear HA
      simp only [impl_high.j4] at H
      by_cases c57:x80_54 = true
      ·subst c57
       rewrite [if_pos rfl] at H
       obtain rfl:=Option.some.inj H
       go_wp2
       go_ret
       exact ⟨q44_,q72_⟩
      replace c57:=Bool.eq_false_iff.mpr c57
      subst c57
      rewrite [if_neg (show ¬ (false = true) by decide)] at H
      have HC58:=Aside0.mk H
      clear H
      go_upto_region 19 with (fail)
      go_cut [87] (fun v87 wc => ∃ (kq:Nat) (x87_57:Bool),v87 = .bool x87_57 ∧ Aside0 (impl_high.j5 kq a0 a1 (Int.tmod a0 2) (rdOf ByteArray.empty t189 (ji4)) x87_57 = some r) ∧ Aside0 (kq ≤ kj54) ∧ Aside0 (Below w.heap.size w wc))
      case first =>
       have H:=HC58.out
       clear HC58
       by_cases c59:a1 = 3
       ·rw [if_pos c59] at H
        have c59b0:(a1 == 3) = true:=beq_iff_eq.mpr c59
        have c59b1:(a1 != 3) = false:=bne_eq_false_iff_eq.mpr c59
        clear c59
        (first | rw [c59b0] | (simp only [i64_w,i32_w];rw [c59b0]) | rw [c59b9] | skip)
        have H':=Aside0.mk H
        clear H
        go_wp2
        go_meet
        case rel => exact ⟨_,((a0 == 7)),q92_,q90_,⟨q73_⟩,⟨q72_⟩⟩
       rw [if_neg c59] at H
       have c59b0:(a1 == 3) = false:=beq_eq_false_iff_ne.mpr c59
       have c59b1:(a1 != 3) = true:=bne_iff_ne.mpr c59
       (first | rw [c59b0] | (simp only [i64_w,i32_w];rw [c59b0]) | rw [c59b9] | skip)
       have H':=Aside0.mk H
       clear H
       go_wp2
       go_meet
       case rel => exact ⟨_,(false),q92_,q90_,⟨q73_⟩,⟨q72_⟩⟩
      clear HC58
      try clear c1
      try clear p1 p1
      try clear q1 q1
      try clear hx1
      try clear c2
      try clear p2 p2
      try clear q2 q2
      try clear hx2
      try clear c3
      try clear c4
      try clear c5
      try clear c5b0
      try clear c6
      try clear c6b0
      try clear p6 p6
      try clear c9
      try clear c10
      try clear c10b0
      try clear c10b1
      try clear c11
      try clear c12
      try clear c13
      try clear c13b0
      try clear c14
      try clear c14b0
      try clear c15
      try clear c15b0
      try clear c15b1
      try clear c15b2
      try clear c18
      try clear c18b0
      try clear c18b1
      try clear p19 p19
      try clear q19 q19
      try clear hx19
      try clear c20
      try clear c20b0
      try clear p20 p20
      try clear q20 q20
      try clear hx20
      try clear c21
      try clear c21b0
      try clear p21 p21
      try clear q21 q21
      try clear hx21
      try clear c26
      try clear c26b0
      try clear c26b1
      try clear c27
      try clear c28
      try clear c28b0
      try clear c28b1
      try clear c28b2
      try clear c29
      try clear c29b0
      try clear c29b1
      try clear c30
      try clear c30b0
      try clear c31
      try clear c31b0
      try clear c36
      try clear c36b0
      try clear c36b1
      try clear c37
      try clear c39
      try clear c39b0
      try clear c40
      try clear c40b0
      try clear c41
      try clear c41b0
      try clear c41b1
      try clear c41b2
      try clear c42
      try clear c42b0
      try clear c42b1
      try clear c42b2
      try clear c45
      try clear c45b0
      try clear c45b1
      try clear c47
      try clear c47b0
      try clear c48
      try clear c48b0
      try clear c53
      try clear c53b0
      try clear c53b1
      try clear c54
      try clear c56
      try clear c56b0
      try clear c56b1
      try clear c57
      try clear c59
      try clear c59b0
      try clear c59b1
      try clear hx192_0
      try clear hx196_0
      try clear hx200_0
      try clear hx204_0
      try clear hx208_0
      try clear hx212_0
      try clear p192
      try clear p196
      try clear p200
      try clear p204
      try clear p208
      try clear p212
      try clear q192
      try clear q196
      try clear q200
      try clear q204
      try clear q208
      try clear q212
      obtain ⟨kq,x87_57,rfl,HA,HJ57,HB⟩:=hcut
      cases kq with
      | zero => exact absurd HA.out (by simp [impl_high.j5])
      | succ kj57 =>
       have H:=HA.out
       clear HA
       simp only [impl_high.j5] at H
       by_cases c60:x87_57 = true
       ·subst c60
        rewrite [if_pos rfl] at H
        obtain rfl:=Option.some.inj H
        go_wp2
        go_ret
        exact ⟨q44_,q72_⟩
       replace c60:=Bool.eq_false_iff.mpr c60
       subst c60
       rewrite [if_neg (show ¬ (false = true) by decide)] at H
       have HC61:=Aside0.mk H
       clear H
       go_upto_region 21 with (fail)
       go_cut [94] (fun v94 wc => ∃ (kq:Nat) (x94_60:Bool),v94 = .bool x94_60 ∧ Aside0 (impl_high.j6 kq a0 a1 (Int.tmod a0 2) (rdOf ByteArray.empty t189 (ji4)) x94_60 = some r) ∧ Aside0 (kq ≤ kj57) ∧ Aside0 (Below w.heap.size w wc))
       case first =>
        have H:=HC61.out
        clear HC61
        by_cases c62:a1 = 4
        ·rw [if_pos c62] at H
         have c62b0:(a1 == 4) = true:=beq_iff_eq.mpr c62
         have c62b1:(a1 != 4) = false:=bne_eq_false_iff_eq.mpr c62
         clear c62
         (first | rw [c62b0] | (simp only [i64_w,i32_w];rw [c62b0]) | rw [c62b9] | skip)
         have H':=Aside0.mk H
         clear H
         go_wp2
         go_meet
         case rel => exact ⟨_,(decide (a0 < 4)),q92_,q90_,⟨q70_⟩,⟨q72_⟩⟩
        rw [if_neg c62] at H
        have c62b0:(a1 == 4) = false:=beq_eq_false_iff_ne.mpr c62
        have c62b1:(a1 != 4) = true:=bne_iff_ne.mpr c62
        (first | rw [c62b0] | (simp only [i64_w,i32_w];rw [c62b0]) | rw [c62b9] | skip)
        have H':=Aside0.mk H
        clear H
        go_wp2
        go_meet
        case rel => exact ⟨_,(false),q92_,q90_,⟨q70_⟩,⟨q72_⟩⟩
       clear HC61
       try clear c1
       try clear p1 p1
       try clear q1 q1
       try clear hx1
       try clear c2
       try clear p2 p2
       try clear q2 q2
       try clear hx2
       try clear c3
       try clear c4
       try clear c5
       try clear c5b0
       try clear c6
       try clear c6b0
       try clear p6 p6
       try clear c9
       try clear c10
       try clear c10b0
       try clear c10b1
       try clear c11
       try clear c12
       try clear c13
       try clear c13b0
       try clear c14
       try clear c14b0
       try clear c15
       try clear c15b0
       try clear c15b1
       try clear c15b2
       try clear c18
       try clear c18b0
       try clear c18b1
       try clear p19 p19
       try clear q19 q19
       try clear hx19
       try clear c20
       try clear c20b0
       try clear p20 p20
       try clear q20 q20
       try clear hx20
       try clear c21
       try clear c21b0
       try clear p21 p21
       try clear q21 q21
       try clear hx21
       try clear c26
       try clear c26b0
       try clear c26b1
       try clear c27
       try clear c28
       try clear c28b0
       try clear c28b1
       try clear c28b2
       try clear c29
       try clear c29b0
       try clear c29b1
       try clear c30
       try clear c30b0
       try clear c31
       try clear c31b0
       try clear c36
       try clear c36b0
       try clear c36b1
       try clear c37
       try clear c39
       try clear c39b0
       try clear c40
       try clear c40b0
       try clear c41
       try clear c41b0
       try clear c41b1
       try clear c41b2
       try clear c42
       try clear c42b0
       try clear c42b1
       try clear c42b2
       try clear c45
       try clear c45b0
       try clear c45b1
       try clear c47
       try clear c47b0
       try clear c48
       try clear c48b0
       try clear c53
       try clear c53b0
       try clear c53b1
       try clear c54
       try clear c56
       try clear c56b0
       try clear c56b1
       try clear c57
       try clear c59
       try clear c59b0
       try clear c59b1
       try clear c60
       try clear c62
       try clear c62b0
       try clear c62b1
       try clear hx192_0
       try clear hx196_0
       try clear hx200_0
       try clear hx204_0
       try clear hx208_0
       try clear hx212_0
       try clear p192
       try clear p196
       try clear p200
       try clear p204
       try clear p208
       try clear p212
       try clear q192
       try clear q196
       try clear q200
       try clear q204
       try clear q208
       try clear q212
       obtain ⟨kq,x94_60,rfl,HA,HJ60,HB⟩:=hcut
       cases kq with
       | zero => exact absurd HA.out (by simp [impl_high.j6])
       | succ kj60 =>
        have H:=HA.out
        clear HA
        simp only [impl_high.j6] at H
        by_cases c63:x94_60 = true
        ·subst c63
         rewrite [if_pos rfl] at H
         replace H:=Option.bind_eq_some_iff.mp H
         obtain ⟨t213,A640,H⟩:=H
         have A64:=Aside0.mk A640
         clear A640
         by_cases c65:0 ≤ a0
         rotate_left
         ·rw [if_neg c65] at H
          exact absurd H (by simp)
         rw [if_pos c65] at H
         have c65b0:=decide_eq_true c65
         clear c65
         by_cases c66:a0 < (t213.length:Int)
         rotate_left
         ·rw [if_neg c66] at H
          exact absurd H (by simp)
         rw [if_pos c66] at H
         have c66b0:=decide_eq_true c66
         clear c66
         by_cases c67:5 + (rdOf ByteArray.empty t213 a0).size ≤ 9223372036854775807
         rotate_left
         ·rw [if_neg c67] at H
          exact absurd H (by simp)
         rw [if_pos c67] at H
         have c67b0:=eq_true c67
         have c67b1:=decide_eq_true c67
         try have c67b2:(9223372036854775807 < 5 + (rdOf ByteArray.empty t213 a0).size) = False:=eq_false (Nat.not_lt.2 c67)
         by_cases c68:((⟨#[99,97,108,108,32]⟩:ByteArray) ++ (rdOf ByteArray.empty t213 a0)).size + 4 ≤ 9223372036854775807
         rotate_left
         ·rw [if_neg c68] at H
          exact absurd H (by simp)
         rw [if_pos c68] at H
         have c68b0:=eq_true c68
         (try (have c68b0e:=c68b0;simp only [ByteArray.size_append,ByteArray.size_extract,Nat.min_self,Nat.sub_zero,show (⟨#[99,97,108,108,32]⟩:ByteArray).size = 5 from rfl] at c68b0e))
         have c68b1:=decide_eq_true c68
         (try (have c68b1e:=c68b1;simp only [ByteArray.size_append,ByteArray.size_extract,Nat.min_self,Nat.sub_zero,show (⟨#[99,97,108,108,32]⟩:ByteArray).size = 5 from rfl] at c68b1e))
         try have c68b2:(9223372036854775807 < ((⟨#[99,97,108,108,32]⟩:ByteArray) ++ (rdOf ByteArray.empty t213 a0)).size + 4) = False:=eq_false (Nat.not_lt.2 c68)
         (try (have c68b2e:=c68b2;simp only [ByteArray.size_append,ByteArray.size_extract,Nat.min_self,Nat.sub_zero,show (⟨#[99,97,108,108,32]⟩:ByteArray).size = 5 from rfl] at c68b2e))
         obtain rfl:=Option.some.inj H
         go_wp2_with (first | ((with_reducible refine gate_callee (f:=129) rfl ?_);refine goesL_ (some 101) rfl rfl Tryz.func129 (by kernel_rfl) rfl #[] rfl q71_ ?_;(with_reducible refine (impl_conds.calls  t213 _ A64.out).mono ?_);rintro e w69 ⟨v214,rfl,ho0,hb⟩;refine ⟨_,rfl,?_⟩;have n0_:=Aside0.mk (Kd.R_lower ho0 (below_size q72_));have n1_:=Aside0.mk (below_step q72_ hb);clear HB;have HO215:=n0_;have HB:=n1_;clear n0_ n1_;(try clear hb);(try clear ho0);obtain ⟨Ao70,co70,eo70⟩:=Kd.R_slice HO215.out;subst eo70;have p216:0 ≤ (a0:Int):=of_decide_eq_true q109_;have q216:a0 < (t213.length:Int):=of_decide_eq_true q109_;obtain ⟨ad216,e216,hx216_0⟩:=Kd.at_string (Kd.R_reads' HO215.out).2.2 a0 p216 q216;cases e216;replace p216:=eq_true p216;replace q216:=eq_true q216))
         go_ret
         exact ⟨q44_,q72_⟩
        replace c63:=Bool.eq_false_iff.mpr c63
        subst c63
        rewrite [if_neg (show ¬ (false = true) by decide)] at H
        have HC71:=Aside0.mk H
        clear H
        go_upto_region 23 with (fail)
        go_cut [107] (fun v107 wc => ∃ (kq:Nat) (x107_70:Bool),v107 = .bool x107_70 ∧ Aside0 (impl_high.j7 kq a0 a1 (rdOf ByteArray.empty t189 (ji4)) x107_70 = some r) ∧ Aside0 (kq ≤ kj60) ∧ Aside0 (Below w.heap.size w wc))
        case first =>
         have H:=HC71.out
         clear HC71
         by_cases c72:a1 = 5
         ·rw [if_pos c72] at H
          have c72b0:(a1 == 5) = true:=beq_iff_eq.mpr c72
          have c72b1:(a1 != 5) = false:=bne_eq_false_iff_eq.mpr c72
          clear c72
          (first | rw [c72b0] | (simp only [i64_w,i32_w];rw [c72b0]) | rw [c72b9] | skip)
          have H':=Aside0.mk H
          clear H
          go_wp2
          go_meet
          case rel => exact ⟨_,(((Int.tmod a0 2) == 0)),q92_,q90_,⟨q66_⟩,⟨q72_⟩⟩
         rw [if_neg c72] at H
         have c72b0:(a1 == 5) = false:=beq_eq_false_iff_ne.mpr c72
         have c72b1:(a1 != 5) = true:=bne_iff_ne.mpr c72
         (first | rw [c72b0] | (simp only [i64_w,i32_w];rw [c72b0]) | rw [c72b9] | skip)
         have H':=Aside0.mk H
         clear H
         go_wp2
         go_meet
         case rel => exact ⟨_,(false),q92_,q90_,⟨q66_⟩,⟨q72_⟩⟩
        clear HC71
        try clear c1
        try clear p1 p1
        try clear q1 q1
        try clear hx1
        try clear c2
        try clear p2 p2
        try clear q2 q2
        try clear hx2
        try clear c3
        try clear c4
        try clear c5
        try clear c5b0
        try clear c6
        try clear c6b0
        try clear p6 p6
        try clear c7
        try clear c9
        try clear c10
        try clear c10b0
        try clear c10b1
        try clear c11
        try clear c12
        try clear c13
        try clear c13b0
        try clear c14
        try clear c14b0
        try clear c15
        try clear c15b0
        try clear c15b1
        try clear c15b2
        try clear c18
        try clear c18b0
        try clear c18b1
        try clear p19 p19
        try clear q19 q19
        try clear hx19
        try clear c20
        try clear c20b0
        try clear p20 p20
        try clear q20 q20
        try clear hx20
        try clear c21
        try clear c21b0
        try clear p21 p21
        try clear q21 q21
        try clear hx21
        try clear c26
        try clear c26b0
        try clear c26b1
        try clear c27
        try clear c28
        try clear c28b0
        try clear c28b1
        try clear c28b2
        try clear c29
        try clear c29b0
        try clear c29b1
        try clear c30
        try clear c30b0
        try clear c31
        try clear c31b0
        try clear c36
        try clear c36b0
        try clear c36b1
        try clear c37
        try clear c39
        try clear c39b0
        try clear c40
        try clear c40b0
        try clear c41
        try clear c41b0
        try clear c41b1
        try clear c41b2
        try clear c42
        try clear c42b0
        try clear c42b1
        try clear c42b2
        try clear c45
        try clear c45b0
        try clear c45b1
        try clear c47
        try clear c47b0
        try clear c48
        try clear c48b0
        try clear c53
        try clear c53b0
        try clear c53b1
        try clear c54
        try clear c56
        try clear c56b0
        try clear c56b1
        try clear c57
        try clear c59
        try clear c59b0
        try clear c59b1
        try clear c60
        try clear c62
        try clear c62b0
        try clear c62b1
        try clear c63
        try clear p64
        try clear c65
        try clear c65b0
        try clear c66
        try clear c66b0
        try clear c67
        try clear c67b0
        try clear c67b1
        try clear c67b2
        try clear c68
        try clear c68b0
        try clear c68b1
        try clear c68b2
        try clear c72
        try clear c72b0
        try clear c72b1
        try clear hx192_0
        try clear hx196_0
        try clear hx200_0
        try clear hx204_0
        try clear hx208_0
        try clear hx212_0
        try clear hx216_0
        try clear p192
        try clear p196
        try clear p200
        try clear p204
        try clear p208
        try clear p212
        try clear p216
        try clear q192
        try clear q196
        try clear q200
        try clear q204
        try clear q208
        try clear q212
        try clear q216
        obtain ⟨kq,x107_70,rfl,HA,HJ70,HB⟩:=hcut
        cases kq with
        | zero => exact absurd HA.out (by simp [impl_high.j7])
        | succ kj70 =>
         have H:=HA.out
         clear HA
         simp only [impl_high.j7] at H
         by_cases c73:x107_70 = true
         ·subst c73
          rewrite [if_pos rfl] at H
          by_cases c74:5 + (rdOf ByteArray.empty t189 (ji4)).size ≤ 9223372036854775807
          rotate_left
          ·rw [if_neg c74] at H
           exact absurd H (by simp)
          rw [if_pos c74] at H
          have c74b0:=eq_true c74
          have c74b1:=decide_eq_true c74
          try have c74b2:(9223372036854775807 < 5 + (rdOf ByteArray.empty t189 (ji4)).size) = False:=eq_false (Nat.not_lt.2 c74)
          obtain rfl:=Option.some.inj H
          go_wp2
          go_ret
          exact ⟨q44_,q72_⟩
         replace c73:=Bool.eq_false_iff.mpr c73
         subst c73
         rewrite [if_neg (show ¬ (false = true) by decide)] at H
         have HC75:=Aside0.mk H
         clear H
         go_upto_region 25 with (fail)
         go_cut [116] (fun v116 wc => ∃ (kq:Nat) (x116_74:Bool),v116 = .bool x116_74 ∧ Aside0 (impl_high.j8 kq a0 a1 x116_74 = some r) ∧ Aside0 (kq ≤ kj70) ∧ Aside0 (Below w.heap.size w wc))
         case first =>
          have H:=HC75.out
          clear HC75
          by_cases c76:a1 = 5
          ·rw [if_pos c76] at H
           have c76b0:(a1 == 5) = true:=beq_iff_eq.mpr c76
           have c76b1:(a1 != 5) = false:=bne_eq_false_iff_eq.mpr c76
           clear c76
           (first | rw [c76b0] | (simp only [i64_w,i32_w];rw [c76b0]) | rw [c76b9] | skip)
           have H':=Aside0.mk H
           clear H
           go_wp2
           go_meet
           case rel => exact ⟨_,((a0 == 1)),q92_,q90_,⟨q52_⟩,⟨q72_⟩⟩
          rw [if_neg c76] at H
          have c76b0:(a1 == 5) = false:=beq_eq_false_iff_ne.mpr c76
          have c76b1:(a1 != 5) = true:=bne_iff_ne.mpr c76
          (first | rw [c76b0] | (simp only [i64_w,i32_w];rw [c76b0]) | rw [c76b9] | skip)
          have H':=Aside0.mk H
          clear H
          go_wp2
          go_meet
          case rel => exact ⟨_,(false),q92_,q90_,⟨q52_⟩,⟨q72_⟩⟩
         clear HC75
         try clear c1
         try clear p1 p1
         try clear q1 q1
         try clear hx1
         try clear c2
         try clear p2 p2
         try clear q2 q2
         try clear hx2
         try clear c3
         try clear c4
         try clear c5
         try clear c5b0
         try clear c6
         try clear c6b0
         try clear p6 p6
         try clear c7
         try clear c9
         try clear c10
         try clear c10b0
         try clear c10b1
         try clear c11
         try clear c12
         try clear c13
         try clear c13b0
         try clear c14
         try clear c14b0
         try clear c15
         try clear c15b0
         try clear c15b1
         try clear c15b2
         try clear c18
         try clear c18b0
         try clear c18b1
         try clear p19 p19
         try clear q19 q19
         try clear hx19
         try clear c20
         try clear c20b0
         try clear p20 p20
         try clear q20 q20
         try clear hx20
         try clear c21
         try clear c21b0
         try clear p21 p21
         try clear q21 q21
         try clear hx21
         try clear c26
         try clear c26b0
         try clear c26b1
         try clear c27
         try clear c28
         try clear c28b0
         try clear c28b1
         try clear c28b2
         try clear c29
         try clear c29b0
         try clear c29b1
         try clear c30
         try clear c30b0
         try clear c31
         try clear c31b0
         try clear c36
         try clear c36b0
         try clear c36b1
         try clear c37
         try clear c39
         try clear c39b0
         try clear c40
         try clear c40b0
         try clear c41
         try clear c41b0
         try clear c41b1
         try clear c41b2
         try clear c42
         try clear c42b0
         try clear c42b1
         try clear c42b2
         try clear c45
         try clear c45b0
         try clear c45b1
         try clear c47
         try clear c47b0
         try clear c48
         try clear c48b0
         try clear c53
         try clear c53b0
         try clear c53b1
         try clear c54
         try clear c56
         try clear c56b0
         try clear c56b1
         try clear c57
         try clear c59
         try clear c59b0
         try clear c59b1
         try clear c60
         try clear c62
         try clear c62b0
         try clear c62b1
         try clear c63
         try clear p64 p64
         try clear c65
         try clear c65b0
         try clear c66
         try clear c66b0
         try clear c67
         try clear c67b0
         try clear c67b1
         try clear c67b2
         try clear c68
         try clear c68b0
         try clear c68b1
         try clear c68b2
         try clear c72
         try clear c72b0
         try clear c72b1
         try clear c73
         try clear c74
         try clear c74b0
         try clear c74b1
         try clear c74b2
         try clear c76
         try clear c76b0
         try clear c76b1
         try clear hx192_0
         try clear hx196_0
         try clear hx200_0
         try clear hx204_0
         try clear hx208_0
         try clear hx212_0
         try clear hx216_0
         try clear p192
         try clear p196
         try clear p200
         try clear p204
         try clear p208
         try clear p212
         try clear p216
         try clear q192
         try clear q196
         try clear q200
         try clear q204
         try clear q208
         try clear q212
         try clear q216
         obtain ⟨kq,x116_74,rfl,HA,HJ74,HB⟩:=hcut
         cases kq with
         | zero => exact absurd HA.out (by simp [impl_high.j8])
         | succ kj74 =>
          have H:=HA.out
          clear HA
          simp only [impl_high.j8] at H
          by_cases c77:x116_74 = true
          ·subst c77
           rewrite [if_pos rfl] at H
           obtain rfl:=Option.some.inj H
           go_wp2
           go_ret
           exact ⟨q44_,q72_⟩
          replace c77:=Bool.eq_false_iff.mpr c77
          subst c77
          rewrite [if_neg (show ¬ (false = true) by decide)] at H
          by_cases c78:a1 = 6
          ·rw [if_pos c78] at H
           have c78b0:(a1 == 6) = true:=beq_iff_eq.mpr c78
           have c78b1:(a1 != 6) = false:=bne_eq_false_iff_eq.mpr c78
           clear c78
           replace H:=Option.bind_eq_some_iff.mp H
           obtain ⟨t217,A790,H⟩:=H
           have A79:=Aside0.mk A790
           clear A790
           by_cases c80:0 ≤ a0
           rotate_left
           ·rw [if_neg c80] at H
            exact absurd H (by simp)
           rw [if_pos c80] at H
           have c80b0:=decide_eq_true c80
           clear c80
           by_cases c81:a0 < (t217.length:Int)
           rotate_left
           ·rw [if_neg c81] at H
            exact absurd H (by simp)
           rw [if_pos c81] at H
           have c81b0:=decide_eq_true c81
           clear c81
           by_cases c82:(rdOf ByteArray.empty t217 a0).size + 5 ≤ 9223372036854775807
           rotate_left
           ·rw [if_neg c82] at H
            exact absurd H (by simp)
           rw [if_pos c82] at H
           have c82b0:=eq_true c82
           have c82b1:=decide_eq_true c82
           try have c82b2:(9223372036854775807 < (rdOf ByteArray.empty t217 a0).size + 5) = False:=eq_false (Nat.not_lt.2 c82)
           obtain rfl:=Option.some.inj H
           go_wp2_with (first | ((with_reducible refine gate_callee (f:=95) rfl ?_);refine goesL_ (some 126) rfl rfl Tryz.func95 (by kernel_rfl) rfl #[] rfl q71_ ?_;(with_reducible refine (impl_alus.calls  t217 _ A79.out).mono ?_);rintro e w83 ⟨v218,rfl,ho0,hb⟩;refine ⟨_,rfl,?_⟩;have n0_:=Aside0.mk (Kd.R_lower ho0 (below_size q72_));have n1_:=Aside0.mk (below_step q72_ hb);clear HB;have HO219:=n0_;have HB:=n1_;clear n0_ n1_;(try clear hb);(try clear ho0);obtain ⟨Ao84,co84,eo84⟩:=Kd.R_slice HO219.out;subst eo84;have p220:0 ≤ (a0:Int):=of_decide_eq_true q109_;have q220:a0 < (t217.length:Int):=of_decide_eq_true q109_;obtain ⟨ad220,e220,hx220_0⟩:=Kd.at_string (Kd.R_reads' HO219.out).2.2 a0 p220 q220;cases e220;replace p220:=eq_true p220;replace q220:=eq_true q220))
           go_ret
           exact ⟨q44_,q72_⟩
          rw [if_neg c78] at H
          have c78b0:(a1 == 6) = false:=beq_eq_false_iff_ne.mpr c78
          have c78b1:(a1 != 6) = true:=bne_iff_ne.mpr c78
          by_cases c85:a1 = 7
          ·rw [if_pos c85] at H
           have c85b0:(a1 == 7) = true:=beq_iff_eq.mpr c85
           have c85b1:(a1 != 7) = false:=bne_eq_false_iff_eq.mpr c85
           clear c85
           replace H:=Option.bind_eq_some_iff.mp H
           obtain ⟨t221,A860,H⟩:=H
           have A86:=Aside0.mk A860
           clear A860
           by_cases c87:4 + t221.size ≤ 9223372036854775807
           rotate_left
           ·rw [if_neg c87] at H
            exact absurd H (by simp)
           rw [if_pos c87] at H
           have c87b0:=eq_true c87
           have c87b1:=decide_eq_true c87
           try have c87b2:(9223372036854775807 < 4 + t221.size) = False:=eq_false (Nat.not_lt.2 c87)
           obtain rfl:=Option.some.inj H
           go_wp2_with (first | ((with_reducible refine gate_callee (f:=112) rfl ?_);refine goesL_ (some 136) rfl rfl Tryz.func112 (by kernel_rfl) rfl #[.int .i64 (wrap64 (8 * a0)),.int .i64 2] rfl q30_ ?_;(with_reducible refine (impl_HexOf.calls kj74 (wrap64 (8 * a0)) 2 t221 _ A86.out).mono ?_);rintro e w88 ⟨rfl,hb⟩;refine ⟨_,rfl,?_⟩;replace HB:=Aside0.mk (below_step q72_ hb);(try clear hb)))
           go_ret
           exact ⟨q44_,q72_⟩
          rw [if_neg c85] at H
          have c85b0:(a1 == 7) = false:=beq_eq_false_iff_ne.mpr c85
          have c85b1:(a1 != 7) = true:=bne_iff_ne.mpr c85
          obtain rfl:=Option.some.inj H
          go_wp2
          go_ret
          exact ⟨q44_,q72_⟩
end Go.Proofs.YtodlnnoekccmmaaGreatDoor.QFnInsTexts
