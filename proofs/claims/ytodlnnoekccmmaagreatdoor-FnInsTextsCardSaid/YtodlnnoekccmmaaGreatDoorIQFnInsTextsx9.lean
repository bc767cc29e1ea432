/- The machine's side of a law,written by a program of this session for this claim. -/
import Derived.Test.YtodlnnoekccmmaaGreatDoorIQq
import Derived.Test.YtodlnnoekccmmaaGreatDoorIQFnInsTextsx0
import Derived.Test.YtodlnnoekccmmaaGreatDoorIQFnInsTextsx8
namespace Go.Proofs.YtodlnnoekccmmaaGreatDoor.QFnInsTexts
open Go.Proofs.YtodlnnoekccmmaaGreatDoor.Qq
open Go.RowKit Go.Proofs.YtodlnnoekccmmaaGreatDoor.LibX Go.Proofs.YtodlnnoekccmmaaGreatDoor.LibE Go.Proofs.YtodlnnoekccmmaaGreatDoor.LibCB Go.Proofs.YtodlnnoekccmmaaGreatDoorW.PrintWords Go.Proofs.YtodlnnoekccmmaaGreatDoorW.PrintLast Go.Proofs.YtodlnnoekccmmaaGreatDoorW.PrintMore
attribute [local go_sem] max2_int min2_int max_two min_two max_three min_three max_four min_four   -- for this text's walks alone
set_option maxHeartbeats 8000000
set_option maxRecDepth 100000
set_option linter.unusedVariables false
set_option linter.unusedSimpArgs false
mutual
def spec_HexOf.j0:Nat → Int → Int → Bool → Option (ByteArray)
 | 0,_,_,_ => none
 | k + 1,x0,x1,x14 => if x14 = true then (some (⟨#[]⟩:ByteArray)) else (spec_HexOf.l0 k x0 x1 (⟨#[]⟩:ByteArray) 0)
def spec_HexOf.l0:Nat → Int → Int → ByteArray → Int → Option (ByteArray)
 | 0,_,_,_,_ => none
 | k + 1,x0,x1,x5,x6 => if x6 < x1 then (if 0 ≤ (Int.tmod x0 16) then (if (Int.tmod x0 16) ≤ (wrap64 ((Int.tmod x0 16) + 1)) then (if (wrap64 ((Int.tmod x0 16) + 1)) ≤ 16 then (if ((⟨#[48,49,50,51,52,53,54,55,56,57,65,66,67,68,69,70]⟩:ByteArray).extract ((Int.tmod x0 16):Int).toNat ((wrap64 ((Int.tmod x0 16) + 1)):Int).toNat).size + x5.size ≤ 9223372036854775807 then (spec_HexOf.l0 k (wrap64 (Int.tdiv x0 16)) x1 (((⟨#[48,49,50,51,52,53,54,55,56,57,65,66,67,68,69,70]⟩:ByteArray).extract ((Int.tmod x0 16):Int).toNat ((wrap64 ((Int.tmod x0 16) + 1)):Int).toNat) ++ x5) (wrap64 (x6 + 1))) else (none)) else (none)) else (none)) else (none)) else (if x0 > 0 then (some (⟨#[]⟩:ByteArray)) else (if 1 + x5.size ≤ 9223372036854775807 then (some ((⟨#[36]⟩:ByteArray) ++ x5)) else (none)))
end
def spec_HexOf.f (k:Nat) (a0:Int) (a1:Int):Option (ByteArray):=(spec_l1In.f a1 1 4).bind fun t335 => (if t335 = true then ((spec_l1In.f a0 0 65535).bind fun t336 => (spec_HexOf.j0 k a0 a1 (!t336))) else (spec_HexOf.j0 k a0 a1 true))
theorem spec_HexOf.mono_l:∀ k,(∀ y0 y1 y2,LeO (spec_HexOf.j0 k y0 y1 y2) (spec_HexOf.j0 (k + 1) y0 y1 y2)) ∧ (∀ y0 y1 y2 y3,LeO (spec_HexOf.l0 k y0 y1 y2 y3) (spec_HexOf.l0 (k + 1) y0 y1 y2 y3))
 | 0 => ⟨fun _ _ _ r h => by simp [spec_HexOf.j0] at h,fun _ _ _ _ r h => by simp [spec_HexOf.l0] at h⟩
 | k + 1 => by
  obtain ⟨ih0,ih1⟩:=spec_HexOf.mono_l k
  refine ⟨?_,?_⟩
  ·intro y0 y1 y2
   unfold spec_HexOf.j0
   repeat' first
   | (with_reducible first | exact ih0 _ _ _ | exact ih1 _ _ _ _ | exact LeO.refl _ | exact LeO.none _ | refine LeO.ite ?_ ?_ | refine LeO.bind ?_ (fun _ => ?_))
   | exact ih0 _ _ _
   | exact ih1 _ _ _ _
   | exact LeO.none _
   | refine LeO.ite ?_ ?_
   | refine LeO.bind ?_ (fun _ => ?_)
  intro y0 y1 y2 y3
  unfold spec_HexOf.l0
  repeat' first
  | (with_reducible first | exact ih0 _ _ _ | exact ih1 _ _ _ _ | exact LeO.refl _ | exact LeO.none _ | refine LeO.ite ?_ ?_ | refine LeO.bind ?_ (fun _ => ?_))
  | exact ih0 _ _ _
  | exact ih1 _ _ _ _
  | exact LeO.none _
  | refine LeO.ite ?_ ?_
  | refine LeO.bind ?_ (fun _ => ?_)
theorem spec_HexOf.mono:∀ a0 a1 k,LeO (spec_HexOf.f k a0 a1) (spec_HexOf.f (k + 1) a0 a1):=by
 intro a0 a1 k
 obtain ⟨ih0,ih1⟩:=spec_HexOf.mono_l k
 unfold spec_HexOf.f
 repeat' first
   | (with_reducible first | exact ih0 _ _ _ | exact ih1 _ _ _ _ | exact LeO.refl _ | exact LeO.none _ | refine LeO.ite ?_ ?_ | refine LeO.bind ?_ (fun _ => ?_))
   | exact ih0 _ _ _
   | exact ih1 _ _ _ _
   | exact LeO.none _
   | refine LeO.ite ?_ ?_
   | refine LeO.bind ?_ (fun _ => ?_)
theorem spec_HexOf.calls (k:Nat) (a0:Int) (a1:Int) (r:ByteArray) (w:World) (h:spec_HexOf.f k a0 a1 = some r) :
  Calls Tryz.prog 70 #[.int .i64 a0,.int .i64 a1] w fun e w' => e = .returned (.string r) ∧ Drawn0 w w':=by
 have H:=h;unfold spec_HexOf.f at H
 clear h
 have HC3:=Aside0.mk H
 clear H
 go_enter Tryz.func70,Tryz.ntmps70
 go_upto_region 1 with (fail)
 go_cut [14] (fun v14 wc => ∃ (kq:Nat) (x14_2:Bool),v14 = .bool x14_2 ∧ Aside0 (spec_HexOf.j0 kq a0 a1 x14_2 = some r) ∧ Aside0 (kq ≤ k) ∧ Drawn0 w wc)
 case first =>
  have H:=HC3.out
  clear HC3
  replace H:=Option.bind_eq_some_iff.mp H
  obtain ⟨t335,A40,H⟩:=H
  have A4:=Aside0.mk A40
  clear A40
  by_cases c5:t335 = true
  ·subst c5
   rewrite [if_pos rfl] at H
   replace H:=Option.bind_eq_some_iff.mp H
   obtain ⟨t336,A60,H⟩:=H
   have A6:=Aside0.mk A60
   clear A60
   have H':=Aside0.mk H
   clear H
   go_wp2_with (first | ((with_reducible refine gate_callee (f:=51) rfl ?_);refine goesL_ (some 8) rfl rfl Tryz.func51 (by kernel_rfl) rfl #[.int .i64 a1,.int .i64 1,.int .i64 4] rfl q71_ ?_;(with_reducible refine (spec_l1In.calls a1 1 4 true _ A4.out).mono ?_);rintro e w' ⟨rfl,⟨nd,rfl⟩⟩;refine ⟨_,rfl,?_⟩) | (go_at_call 51;(with_reducible refine (spec_l1In.calls a0 0 65535 t336 _ A6.out).mono ?_);rintro e w' ⟨rfl,⟨nd,rfl⟩⟩))
   go_meet
   case rel => exact ⟨_,(!t336),q92_,H',⟨q121_⟩,q108_⟩
  replace c5:=Bool.eq_false_iff.mpr c5
  subst c5
  rewrite [if_neg (show ¬ (false = true) by decide)] at H
  have H':=Aside0.mk H
  clear H
  go_wp2_with (first | ((with_reducible refine gate_callee (f:=51) rfl ?_);refine goesL_ (some 8) rfl rfl Tryz.func51 (by kernel_rfl) rfl #[.int .i64 a1,.int .i64 1,.int .i64 4] rfl q71_ ?_;(with_reducible refine (spec_l1In.calls a1 1 4 false _ A4.out).mono ?_);rintro e w' ⟨rfl,⟨nd,rfl⟩⟩;refine ⟨_,rfl,?_⟩))
  go_meet
  case rel => exact ⟨_,(true),q92_,H',⟨q121_⟩,q108_⟩
 clear HC3
 try clear p2
 try clear c5
 try clear p6
 obtain ⟨kq,x14_2,rfl,HA,HJ2,⟨mc2,rfl⟩⟩:=hcut
 cases kq with
 | zero => exact absurd HA.out (by simp [spec_HexOf.j0])
 | succ kj2 =>
  have H:=HA.out
  clear HA
  simp only [spec_HexOf.j0] at H
  by_cases c7:x14_2 = true
  ·subst c7
   rewrite [if_pos rfl] at H
   obtain rfl:=Option.some.inj H
   go_wp2
   go_ret
   exact ⟨q92_,q108_⟩
  replace c7:=Bool.eq_false_iff.mpr c7
  subst c7
  rewrite [if_neg (show ¬ (false = true) by decide)] at H
  have H':=Aside0.mk H
  clear H
  go_wp2
  go_loopg [0,5,6] kj2 (fun kq v0 v5 v6 w' => ∃ (x0_2:Int) (x5_2:ByteArray) (x6_2:Int),v0 = .int .i64 x0_2 ∧ v5 = .string x5_2 ∧ v6 = .int .i64 x6_2 ∧ Aside0 (spec_HexOf.l0 kq x0_2 a1 x5_2 x6_2 = some r) ∧ Aside0 (kq ≤ kj2) ∧ Drawn0 w w')
  case atStart => exact ⟨(a0),((⟨#[]⟩:ByteArray)),(0),q92_,q92_,q92_,H',⟨Nat.le_refl _⟩,q108_⟩
  clear H'
  try clear c2
  try clear p2 p2
  try clear c5
  try clear p6 p6
  try clear c7
  obtain ⟨x0_2,x5_2,x6_2,rfl,rfl,rfl,HA,HK2,⟨m2,rfl⟩⟩:=hrel
  cases gk with
  | zero => exact absurd HA.out (by simp [spec_HexOf.l0])
  | succ k2 =>
   have H:=HA.out
   clear HA
   simp only [spec_HexOf.l0] at H
   by_cases c8:x6_2 < a1
   ·rw [if_pos c8] at H
    have c8b0:=decide_eq_true c8
    clear c8
    obtain ⟨ji9,hji9⟩:∃ j_:Int,(Int.tmod x0_2 16) = j_:=⟨_,rfl⟩
    (first | rewrite [hji9] at H | simp only [hji9] at H)
    by_cases c10:0 ≤ (ji9)
    rotate_left
    ·rw [if_neg c10] at H
     exact absurd H (by simp)
    rw [if_pos c10] at H
    have c10b0:=eq_true c10
    have c10b1:=decide_eq_true c10
    clear c10
    by_cases c11:(ji9) ≤ (wrap64 ((ji9) + 1))
    rotate_left
    ·rw [if_neg c11] at H
     exact absurd H (by simp)
    rw [if_pos c11] at H
    have c11b0:=eq_true c11
    have c11b1:=decide_eq_true c11
    by_cases c12:(wrap64 ((ji9) + 1)) ≤ 16
    rotate_left
    ·rw [if_neg c12] at H
     exact absurd H (by simp)
    rw [if_pos c12] at H
    have c12b0:=eq_true c12
    have c12b1:=decide_eq_true c12
    by_cases c13:((⟨#[48,49,50,51,52,53,54,55,56,57,65,66,67,68,69,70]⟩:ByteArray).extract ((ji9):Int).toNat ((wrap64 ((ji9) + 1)):Int).toNat).size + x5_2.size ≤ 9223372036854775807
    rotate_left
    ·rw [if_neg c13] at H
     exact absurd H (by simp)
    rw [if_pos c13] at H
    have c13b0:=eq_true c13
    (try (have c13b0e:=c13b0;simp only [ByteArray.size_append,ByteArray.size_extract,Nat.min_self,Nat.sub_zero,show (⟨#[48,49,50,51,52,53,54,55,56,57,65,66,67,68,69,70]⟩:ByteArray).size = 16 from rfl] at c13b0e))
    have c13b1:=decide_eq_true c13
    (try (have c13b1e:=c13b1;simp only [ByteArray.size_append,ByteArray.size_extract,Nat.min_self,Nat.sub_zero,show (⟨#[48,49,50,51,52,53,54,55,56,57,65,66,67,68,69,70]⟩:ByteArray).size = 16 from rfl] at c13b1e))
    try have c13b2:(9223372036854775807 < ((⟨#[48,49,50,51,52,53,54,55,56,57,65,66,67,68,69,70]⟩:ByteArray).extract ((ji9):Int).toNat ((wrap64 ((ji9) + 1)):Int).toNat).size + x5_2.size) = False:=eq_false (Nat.not_lt.2 c13)
    (try (have c13b2e:=c13b2;simp only [ByteArray.size_append,ByteArray.size_extract,Nat.min_self,Nat.sub_zero,show (⟨#[48,49,50,51,52,53,54,55,56,57,65,66,67,68,69,70]⟩:ByteArray).size = 16 from rfl] at c13b2e))
    (try (first | (have c13b2p:=eq_true (of_decide_eq_true c13b2e)) | (have c13b2p:=eq_false (of_decide_eq_false c13b2e))))
    have H':=Aside0.mk H
    clear H
    go_wp2
    go_roundg k2
    case measure => have:=HJ2.out;have:=HK2.out;omega
    case rel => exact ⟨(wrap64 (Int.tdiv x0_2 16)),(((⟨#[48,49,50,51,52,53,54,55,56,57,65,66,67,68,69,70]⟩:ByteArray).extract ((ji9):Int).toNat ((wrap64 ((ji9) + 1)):Int).toNat) ++ x5_2),(wrap64 (x6_2 + 1)),q92_,(by first | rfl | (simp;done) | (simp only [← hji9] <;> (first | rfl | (simp;done))) | (simp [*];done) | (simp;decide +kernel) | (simp [wrap64];done) | (simp [bne];done)),q92_,(by first | with_reducible exact H' | (have H2_:=H';simp only [← hji9] at H2_ ⊢;with_reducible exact H2_) | exact H'),⟨by have:=HJ2.out;have:=HK2.out;omega⟩,q108_⟩
   rw [if_neg c8] at H
   have c8b0:=decide_eq_false c8
   clear c8
   by_cases c14:x0_2 > 0
   ·rw [if_pos c14] at H
    have c14b0:decide (0 < x0_2) = true:=decide_eq_true c14
    clear c14
    obtain rfl:=Option.some.inj H
    go_wp2
    go_ret
    exact ⟨q92_,q108_⟩
   rw [if_neg c14] at H
   have c14b0:decide (0 < x0_2) = false:=decide_eq_false c14
   clear c14
   by_cases c15:1 + x5_2.size ≤ 9223372036854775807
   rotate_left
   ·rw [if_neg c15] at H
    exact absurd H (by simp)
   rw [if_pos c15] at H
   have c15b0:=eq_true c15
   have c15b1:=decide_eq_true c15
   try have c15b2:(9223372036854775807 < 1 + x5_2.size) = False:=eq_false (Nat.not_lt.2 c15)
   obtain rfl:=Option.some.inj H
   go_wp2
   go_ret
   exact ⟨q92_,q108_⟩
def spec_l3Top.f (k:Nat) (a0:Int) (a1:Int):Option (ByteArray):=(some (([(⟨#[98,99]⟩:ByteArray),(⟨#[100,101]⟩:ByteArray),(⟨#[104,108]⟩:ByteArray),(⟨#[97,102]⟩:ByteArray)]:List ByteArray):List ByteArray)).bind fun y337 => (if a1 = 0 then (if a0 < 4 then ((spec_l3Conds.f).bind fun t340 => (if 0 ≤ a0 then (if a0 < (t340.length:Int) then (if 4 + (rdOf ByteArray.empty t340 a0).size ≤ 9223372036854775807 then (some ((⟨#[114,101,116,32]⟩:ByteArray) ++ (rdOf ByteArray.empty t340 a0))) else (none)) else (none)) else (none))) else ((some (([(⟨#[108,100,104,32,91,110,56,93,44,97]⟩:ByteArray),(⟨#[97,100,100,32,115,112,44,101,56]⟩:ByteArray),(⟨#[108,100,104,32,97,44,91,110,56,93]⟩:ByteArray),(⟨#[108,100,32,104,108,44,115,112,43,101,56]⟩:ByteArray)]:List ByteArray):List ByteArray)).bind fun y344 => (if 0 ≤ (wrap64 (a0 - 4)) then (if (wrap64 (a0 - 4)) < (y344.length:Int) then (some (rdOf ByteArray.empty y344 (wrap64 (a0 - 4)))) else (none)) else (none)))) else (if a1 = 1 then (if (Int.tmod a0 2) = 0 then (if 0 ≤ (wrap64 (Int.tdiv a0 2)) then (if (wrap64 (Int.tdiv a0 2)) < (y337.length:Int) then (if 4 + (rdOf ByteArray.empty y337 (wrap64 (Int.tdiv a0 2))).size ≤ 9223372036854775807 then (some ((⟨#[112,111,112,32]⟩:ByteArray) ++ (rdOf ByteArray.empty y337 (wrap64 (Int.tdiv a0 2))))) else (none)) else (none)) else (none)) else ((some (([(⟨#[114,101,116]⟩:ByteArray),(⟨#[114,101,116,105]⟩:ByteArray),(⟨#[106,112,32,104,108]⟩:ByteArray),(⟨#[108,100,32,115,112,44,104,108]⟩:ByteArray)]:List ByteArray):List ByteArray)).bind fun y349 => (if 0 ≤ (wrap64 (Int.tdiv a0 2)) then (if (wrap64 (Int.tdiv a0 2)) < (y349.length:Int) then (some (rdOf ByteArray.empty y349 (wrap64 (Int.tdiv a0 2)))) else (none)) else (none)))) else (if a1 = 2 then (if a0 < 4 then ((spec_l3Conds.f).bind fun t353 => (if 0 ≤ a0 then (if a0 < (t353.length:Int) then (if 3 + (rdOf ByteArray.empty t353 a0).size ≤ 9223372036854775807 then (if ((⟨#[106,112,32]⟩:ByteArray) ++ (rdOf ByteArray.empty t353 a0)).size + 4 ≤ 9223372036854775807 then (some (((⟨#[106,112,32]⟩:ByteArray) ++ (rdOf ByteArray.empty t353 a0)) ++ (⟨#[44,110,49,54]⟩:ByteArray))) else (none)) else (none)) else (none)) else (none))) else ((some (([(⟨#[108,100,104,32,91,99,93,44,97]⟩:ByteArray),(⟨#[108,100,32,91,110,49,54,93,44,97]⟩:ByteArray),(⟨#[108,100,104,32,97,44,91,99,93]⟩:ByteArray),(⟨#[108,100,32,97,44,91,110,49,54,93]⟩:ByteArray)]:List ByteArray):List ByteArray)).bind fun y357 => (if 0 ≤ (wrap64 (a0 - 4)) then (if (wrap64 (a0 - 4)) < (y357.length:Int) then (some (rdOf ByteArray.empty y357 (wrap64 (a0 - 4)))) else (none)) else (none)))) else (if a1 = 3 then ((some (([(⟨#[106,112,32,110,49,54]⟩:ByteArray),(⟨#[]⟩:ByteArray),(⟨#[]⟩:ByteArray),(⟨#[]⟩:ByteArray),(⟨#[]⟩:ByteArray),(⟨#[]⟩:ByteArray),(⟨#[100,105]⟩:ByteArray),(⟨#[101,105]⟩:ByteArray)]:List ByteArray):List ByteArray)).bind fun y361 => (if 0 ≤ a0 then (if a0 < (y361.length:Int) then (some (rdOf ByteArray.empty y361 a0)) else (none)) else (none))) else (if a1 = 4 then (if a0 < 4 then ((spec_l3Conds.f).bind fun t365 => (if 0 ≤ a0 then (if a0 < (t365.length:Int) then (if 5 + (rdOf ByteArray.empty t365 a0).size ≤ 9223372036854775807 then (if ((⟨#[99,97,108,108,32]⟩:ByteArray) ++ (rdOf ByteArray.empty t365 a0)).size + 4 ≤ 9223372036854775807 then (some (((⟨#[99,97,108,108,32]⟩:ByteArray) ++ (rdOf ByteArray.empty t365 a0)) ++ (⟨#[44,110,49,54]⟩:ByteArray))) else (none)) else (none)) else (none)) else (none))) else (some (⟨#[]⟩:ByteArray))) else (if a1 = 5 then (if (Int.tmod a0 2) = 0 then (if 0 ≤ (wrap64 (Int.tdiv a0 2)) then (if (wrap64 (Int.tdiv a0 2)) < (y337.length:Int) then (if 5 + (rdOf ByteArray.empty y337 (wrap64 (Int.tdiv a0 2))).size ≤ 9223372036854775807 then (some ((⟨#[112,117,115,104,32]⟩:ByteArray) ++ (rdOf ByteArray.empty y337 (wrap64 (Int.tdiv a0 2))))) else (none)) else (none)) else (none)) else ((some (([(⟨#[99,97,108,108,32,110,49,54]⟩:ByteArray),(⟨#[]⟩:ByteArray),(⟨#[]⟩:ByteArray),(⟨#[]⟩:ByteArray)]:List ByteArray):List ByteArray)).bind fun y370 => (if 0 ≤ (wrap64 (Int.tdiv a0 2)) then (if (wrap64 (Int.tdiv a0 2)) < (y370.length:Int) then (some (rdOf ByteArray.empty y370 (wrap64 (Int.tdiv a0 2)))) else (none)) else (none)))) else (if a1 = 6 then ((spec_l3Alus.f).bind fun t374 => (if 0 ≤ a0 then (if a0 < (t374.length:Int) then (if (rdOf ByteArray.empty t374 a0).size + 5 ≤ 9223372036854775807 then (some ((rdOf ByteArray.empty t374 a0) ++ (⟨#[32,97,44,110,56]⟩:ByteArray))) else (none)) else (none)) else (none))) else ((spec_HexOf.f k (wrap64 (8 * a0)) 2).bind fun t378 => (if 4 + t378.size ≤ 9223372036854775807 then (some ((⟨#[114,115,116,32]⟩:ByteArray) ++ t378)) else (none))))))))))
theorem spec_l3Top.mono:∀ a0 a1 k,LeO (spec_l3Top.f k a0 a1) (spec_l3Top.f (k + 1) a0 a1):=by
 intro a0 a1 k
 unfold spec_l3Top.f
 repeat' first
   | (with_reducible first | exact spec_HexOf.mono _ _ _ | exact LeO.refl _ | exact LeO.none _ | refine LeO.ite ?_ ?_ | refine LeO.bind ?_ (fun _ => ?_))
   | exact spec_HexOf.mono _ _ _
   | exact LeO.none _
   | refine LeO.ite ?_ ?_
   | refine LeO.bind ?_ (fun _ => ?_)
theorem spec_l3Top.calls (k:Nat) (a0:Int) (a1:Int) (r:ByteArray) (w:World) (h:spec_l3Top.f k a0 a1 = some r) :
  Calls Tryz.prog 103 #[.int .i64 a0,.int .i64 a1] w fun e w' => e = .returned (.string r) ∧ Below w.heap.size w w':=by
 have HB:=Aside0.mk (Below.refl w.heap.size w)
 have H:=h;unfold spec_l3Top.f at H
 clear h
 obtain ⟨y337,hy337⟩:∃ y_:List ByteArray,y_ = (([(⟨#[98,99]⟩:ByteArray),(⟨#[100,101]⟩:ByteArray),(⟨#[104,108]⟩:ByteArray),(⟨#[97,102]⟩:ByteArray)]:List ByteArray)):=⟨_,rfl⟩
 replace H:(if a1 = 0 then (if a0 < 4 then ((spec_l3Conds.f).bind fun t340 => (if 0 ≤ a0 then (if a0 < (t340.length:Int) then (if 4 + (rdOf ByteArray.empty t340 a0).size ≤ 9223372036854775807 then (some ((⟨#[114,101,116,32]⟩:ByteArray) ++ (rdOf ByteArray.empty t340 a0))) else (none)) else (none)) else (none))) else ((some (([(⟨#[108,100,104,32,91,110,56,93,44,97]⟩:ByteArray),(⟨#[97,100,100,32,115,112,44,101,56]⟩:ByteArray),(⟨#[108,100,104,32,97,44,91,110,56,93]⟩:ByteArray),(⟨#[108,100,32,104,108,44,115,112,43,101,56]⟩:ByteArray)]:List ByteArray):List ByteArray)).bind fun y344 => (if 0 ≤ (wrap64 (a0 - 4)) then (if (wrap64 (a0 - 4)) < (y344.length:Int) then (some (rdOf ByteArray.empty y344 (wrap64 (a0 - 4)))) else (none)) else (none)))) else (if a1 = 1 then (if (Int.tmod a0 2) = 0 then (if 0 ≤ (wrap64 (Int.tdiv a0 2)) then (if (wrap64 (Int.tdiv a0 2)) < (y337.length:Int) then (if 4 + (rdOf ByteArray.empty y337 (wrap64 (Int.tdiv a0 2))).size ≤ 9223372036854775807 then (some ((⟨#[112,111,112,32]⟩:ByteArray) ++ (rdOf ByteArray.empty y337 (wrap64 (Int.tdiv a0 2))))) else (none)) else (none)) else (none)) else ((some (([(⟨#[114,101,116]⟩:ByteArray),(⟨#[114,101,116,105]⟩:ByteArray),(⟨#[106,112,32,104,108]⟩:ByteArray),(⟨#[108,100,32,115,112,44,104,108]⟩:ByteArray)]:List ByteArray):List ByteArray)).bind fun y349 => (if 0 ≤ (wrap64 (Int.tdiv a0 2)) then (if (wrap64 (Int.tdiv a0 2)) < (y349.length:Int) then (some (rdOf ByteArray.empty y349 (wrap64 (Int.tdiv a0 2)))) else (none)) else (none)))) else (if a1 = 2 then (if a0 < 4 then ((spec_l3Conds.f).bind fun t353 => (if 0 ≤ a0 then (if a0 < (t353.length:Int) then (if 3 + (rdOf ByteArray.empty t353 a0).size ≤ 9223372036854775807 then (if ((⟨#[106,112,32]⟩:ByteArray) ++ (rdOf ByteArray.empty t353 a0)).size + 4 ≤ 9223372036854775807 then (some (((⟨#[106,112,32]⟩:ByteArray) ++ (rdOf ByteArray.empty t353 a0)) ++ (⟨#[44,110,49,54]⟩:ByteArray))) else (none)) else (none)) else (none)) else (none))) else ((some (([(⟨#[108,100,104,32,91,99,93,44,97]⟩:ByteArray),(⟨#[108,100,32,91,110,49,54,93,44,97]⟩:ByteArray),(⟨#[108,100,104,32,97,44,91,99,93]⟩:ByteArray),(⟨#[108,100,32,97,44,91,110,49,54,93]⟩:ByteArray)]:List ByteArray):List ByteArray)).bind fun y357 => (if 0 ≤ (wrap64 (a0 - 4)) then (if (wrap64 (a0 - 4)) < (y357.length:Int) then (some (rdOf ByteArray.empty y357 (wrap64 (a0 - 4)))) else (none)) else (none)))) else (if a1 = 3 then ((some (([(⟨#[106,112,32,110,49,54]⟩:ByteArray),(⟨#[]⟩:ByteArray),(⟨#[]⟩:ByteArray),(⟨#[]⟩:ByteArray),(⟨#[]⟩:ByteArray),(⟨#[]⟩:ByteArray),(⟨#[100,105]⟩:ByteArray),(⟨#[101,105]⟩:ByteArray)]:List ByteArray):List ByteArray)).bind fun y361 => (if 0 ≤ a0 then (if a0 < (y361.length:Int) then (some (rdOf ByteArray.empty y361 a0)) else (none)) else (none))) else (if a1 = 4 then (if a0 < 4 then ((spec_l3Conds.f).bind fun t365 => (if 0 ≤ a0 then (if a0 < (t365.length:Int) then (if 5 + (rdOf ByteArray.empty t365 a0).size ≤ 9223372036854775807 then (if ((⟨#[99,97,108,108,32]⟩:ByteArray) ++ (rdOf ByteArray.empty t365 a0)).size + 4 ≤ 9223372036854775807 then (some (((⟨#[99,97,108,108,32]⟩:ByteArray) ++ (rdOf ByteArray.empty t365 a0)) ++ (⟨#[44,110,49,54]⟩:ByteArray))) else (none)) else (none)) else (none)) else (none))) else (some (⟨#[]⟩:ByteArray))) else (if a1 = 5 then (if (Int.tmod a0 2) = 0 then (if 0 ≤ (wrap64 (Int.tdiv a0 2)) then (if (wrap64 (Int.tdiv a0 2)) < (y337.length:Int) then (if 5 + (rdOf ByteArray.empty y337 (wrap64 (Int.tdiv a0 2))).size ≤ 9223372036854775807 then (some ((⟨#[112,117,115,104,32]⟩:ByteArray) ++ (rdOf ByteArray.empty y337 (wrap64 (Int.tdiv a0 2))))) else (none)) else (none)) else (none)) else ((some (([(⟨#[99,97,108,108,32,110,49,54]⟩:ByteArray),(⟨#[]⟩:ByteArray),(⟨#[]⟩:ByteArray),(⟨#[]⟩:ByteArray)]:List ByteArray):List ByteArray)).bind fun y370 => (if 0 ≤ (wrap64 (Int.tdiv a0 2)) then (if (wrap64 (Int.tdiv a0 2)) < (y370.length:Int) then (some (rdOf ByteArray.empty y370 (wrap64 (Int.tdiv a0 2)))) else (none)) else (none)))) else (if a1 = 6 then ((spec_l3Alus.f).bind fun t374 => (if 0 ≤ a0 then (if a0 < (t374.length:Int) then (if (rdOf ByteArray.empty t374 a0).size + 5 ≤ 9223372036854775807 then (some ((rdOf ByteArray.empty t374 a0) ++ (⟨#[32,97,44,110,56]⟩:ByteArray))) else (none)) else (none)) else (none))) else ((spec_HexOf.f k (wrap64 (8 * a0)) 2).bind fun t378 => (if 4 + t378.size ≤ 9223372036854775807 then (some ((⟨#[114,115,116,32]⟩:ByteArray) ++ t378)) else (none)))))))))) = some r:=by first | (rw [hy337];exact H) | exact H
 have Ny337:=Aside0.mk hy337
 clear hy337
 by_cases c3:a1 = 0
 ·rw [if_pos c3] at H
  have c3b0:(a1 == 0) = true:=beq_iff_eq.mpr c3
  have c3b1:(a1 != 0) = false:=bne_eq_false_iff_eq.mpr c3
  clear c3
  by_cases c4:a0 < 4
  ·rw [if_pos c4] at H
   have c4b0:=decide_eq_true c4
   clear c4
   replace H:=Option.bind_eq_some_iff.mp H
   obtain ⟨t340,A50,H⟩:=H
   have A5:=Aside0.mk A50
   clear A50
   by_cases c6:0 ≤ a0
   rotate_left
   ·rw [if_neg c6] at H
    exact absurd H (by simp)
   rw [if_pos c6] at H
   have c6b0:=decide_eq_true c6
   clear c6
   by_cases c7:a0 < (t340.length:Int)
   rotate_left
   ·rw [if_neg c7] at H
    exact absurd H (by simp)
   rw [if_pos c7] at H
   have c7b0:=decide_eq_true c7
   clear c7
   by_cases c8:4 + (rdOf ByteArray.empty t340 a0).size ≤ 9223372036854775807
   rotate_left
   ·rw [if_neg c8] at H
    exact absurd H (by simp)
   rw [if_pos c8] at H
   have c8b0:=eq_true c8
   have c8b1:=decide_eq_true c8
   try have c8b2:(9223372036854775807 < 4 + (rdOf ByteArray.empty t340 a0).size) = False:=eq_false (Nat.not_lt.2 c8)
   obtain rfl:=Option.some.inj H
   go_enter Tryz.func103,Tryz.ntmps103
   go_wp2_with (first | ((with_reducible refine gate_dst (N:=12) rfl ?_);refine Kd.R_lit Kd.string _ 9 ?hg (N:=12) ?hd (xs:=([(⟨#[98,99]⟩:ByteArray),(⟨#[100,101]⟩:ByteArray),(⟨#[104,108]⟩:ByteArray),(⟨#[97,102]⟩:ByteArray)]:List ByteArray)) (inner:=[.string (⟨#[98,99]⟩:ByteArray),.string (⟨#[100,101]⟩:ByteArray),.string (⟨#[104,108]⟩:ByteArray),.string (⟨#[97,102]⟩:ByteArray)]) (ok:=fun _ => True) (okp:=fun _ => True) ?hr ?hp (fun _ hk => hk) trivial (Below.refl _ _) (Nat.le_refl _) (by simp) ?_;(case hd => rfl);(case hg => rfl);(case hr => exact q139_);(case hp => exact q127_);intro v338 w9 ho10 hb hg_ hnew_;clear hg_ hnew_;(first | rw [← Ny337.out] at ho10 | (simp only [Int.reduceToNat] at ho10;rw [← Ny337.out] at ho10));have n0_:=Aside0.mk (Kd.R_lower ho10 (below_size q72_));have n1_:=Aside0.mk (below_step q72_ hb);clear HB;have HO339:=n0_;have HB:=n1_;clear n0_ n1_;clear hb ho10) | ((with_reducible refine gate_callee (f:=132) rfl ?_);refine goesL_ (some 18) rfl rfl Tryz.func132 (by kernel_rfl) rfl #[] rfl q71_ ?_;(with_reducible refine (spec_l3Conds.calls  t340 _ A5.out).mono ?_);rintro e w11 ⟨v341,rfl,ho0,hb⟩;refine ⟨_,rfl,?_⟩;have n0_:=Aside0.mk (Kd.R_elder' q100_ (Kd.R_base ho0) hb);have n1_:=Aside0.mk (Kd.R_lower (Kd.R_new' ho0 (Kd.R_lt q100_)) (below_size q72_));have n2_:=Aside0.mk (below_step q72_ hb);clear HO339;clear HB;have HO339:=n0_;have HO342:=n1_;have HB:=n2_;clear n0_ n1_ n2_;(try clear hb);(try clear ho0);obtain ⟨Ao12,co12,eo12⟩:=Kd.R_slice HO342.out;subst eo12;have p343:0 ≤ (a0:Int):=of_decide_eq_true q109_;have q343:a0 < (t340.length:Int):=of_decide_eq_true q109_;obtain ⟨ad343,e343,hx343_0⟩:=Kd.at_string (Kd.R_reads' HO342.out).2.2 a0 p343 q343;cases e343;replace p343:=eq_true p343;replace q343:=eq_true q343))
   go_ret
   exact ⟨q74_,q72_⟩
  rw [if_neg c4] at H
  have c4b0:=decide_eq_false c4
  clear c4
  obtain ⟨y344,hy344⟩:∃ y_:List ByteArray,y_ = (([(⟨#[108,100,104,32,91,110,56,93,44,97]⟩:ByteArray),(⟨#[97,100,100,32,115,112,44,101,56]⟩:ByteArray),(⟨#[108,100,104,32,97,44,91,110,56,93]⟩:ByteArray),(⟨#[108,100,32,104,108,44,115,112,43,101,56]⟩:ByteArray)]:List ByteArray)):=⟨_,rfl⟩
  replace H:(if 0 ≤ (wrap64 (a0 - 4)) then (if (wrap64 (a0 - 4)) < (y344.length:Int) then (some (rdOf ByteArray.empty y344 (wrap64 (a0 - 4)))) else (none)) else (none)) = some r:=by first | (rw [hy344];exact H) | exact H
  have Ny344:=Aside0.mk hy344
  clear hy344
  obtain ⟨ji13,hji13⟩:∃ j_:Int,(wrap64 (a0 - 4)) = j_:=⟨_,rfl⟩
  (first | rewrite [hji13] at H | simp only [hji13] at H)
  have hji13w:(IntKind.i64.wrap (a0 - 4)) = ji13:=(i64_w _).trans hji13
  by_cases c14:0 ≤ (ji13)
  rotate_left
  ·rw [if_neg c14] at H
   exact absurd H (by simp)
  rw [if_pos c14] at H
  have c14b0:=decide_eq_true c14
  clear c14
  by_cases c15:(ji13) < (y344.length:Int)
  rotate_left
  ·rw [if_neg c15] at H
   exact absurd H (by simp)
  rw [if_pos c15] at H
  have c15b0:=decide_eq_true c15
  clear c15
  obtain rfl:=Option.some.inj H
  go_enter Tryz.func103,Tryz.ntmps103
  go_wp2_with (first | ((with_reducible refine gate_dst (N:=12) rfl ?_);refine Kd.R_lit Kd.string _ 9 ?hg (N:=12) ?hd (xs:=([(⟨#[98,99]⟩:ByteArray),(⟨#[100,101]⟩:ByteArray),(⟨#[104,108]⟩:ByteArray),(⟨#[97,102]⟩:ByteArray)]:List ByteArray)) (inner:=[.string (⟨#[98,99]⟩:ByteArray),.string (⟨#[100,101]⟩:ByteArray),.string (⟨#[104,108]⟩:ByteArray),.string (⟨#[97,102]⟩:ByteArray)]) (ok:=fun _ => True) (okp:=fun _ => True) ?hr ?hp (fun _ hk => hk) trivial (Below.refl _ _) (Nat.le_refl _) (by simp) ?_;(case hd => rfl);(case hg => rfl);(case hr => exact q139_);(case hp => exact q127_);intro v338 w16 ho17 hb hg_ hnew_;clear hg_ hnew_;(first | rw [← Ny337.out] at ho17 | (simp only [Int.reduceToNat] at ho17;rw [← Ny337.out] at ho17));have n0_:=Aside0.mk (Kd.R_lower ho17 (below_size q72_));have n1_:=Aside0.mk (below_step q72_ hb);clear HB;have HO339:=n0_;have HB:=n1_;clear n0_ n1_;clear hb ho17) | ((with_reducible refine gate_dst (N:=23) rfl ?_);refine Kd.R_lit Kd.string _ 9 ?hg (N:=23) ?hd (xs:=([(⟨#[108,100,104,32,91,110,56,93,44,97]⟩:ByteArray),(⟨#[97,100,100,32,115,112,44,101,56]⟩:ByteArray),(⟨#[108,100,104,32,97,44,91,110,56,93]⟩:ByteArray),(⟨#[108,100,32,104,108,44,115,112,43,101,56]⟩:ByteArray)]:List ByteArray)) (inner:=[.string (⟨#[108,100,104,32,91,110,56,93,44,97]⟩:ByteArray),.string (⟨#[97,100,100,32,115,112,44,101,56]⟩:ByteArray),.string (⟨#[108,100,104,32,97,44,91,110,56,93]⟩:ByteArray),.string (⟨#[108,100,32,104,108,44,115,112,43,101,56]⟩:ByteArray)]) (ok:=fun _ => True) (okp:=fun _ => True) ?hr ?hp (fun _ hk => hk) trivial (Below.refl _ _) (Nat.le_refl _) (by simp) ?_;(case hd => rfl);(case hg => rfl);(case hr => exact q139_);(case hp => exact q122_);intro v345 w18 ho19 hb hg_ hnew_;clear hg_ hnew_;(first | rw [← Ny344.out] at ho19 | (simp only [Int.reduceToNat] at ho19;rw [← Ny344.out] at ho19));have n0_:=Aside0.mk (Kd.R_elder' q100_ (Kd.R_base ho19) hb);have n1_:=Aside0.mk (Kd.R_lower (Kd.R_new' ho19 (Kd.R_lt q100_)) (below_size q72_));have n2_:=Aside0.mk (below_step q72_ hb);clear HO339;clear HB;have HO339:=n0_;have HO346:=n1_;have HB:=n2_;clear n0_ n1_ n2_;clear hb ho19;obtain ⟨Ao20,co20,eo20⟩:=Kd.R_slice HO346.out;subst eo20;have p347:0 ≤ ((ji13):Int):=of_decide_eq_true q109_;have q347:(ji13) < (y344.length:Int):=of_decide_eq_true q109_;obtain ⟨ad347,e347,hx347_0⟩:=Kd.at_string (Kd.R_reads' HO346.out).2.2 (ji13) p347 q347;cases e347;replace p347:=eq_true p347;replace q347:=eq_true q347))
  go_ret
  exact ⟨by first | rfl | (simp [errW_none,errW_some] <;> rfl) | (simp only [← hji13];first | rfl | (simp [errW_none,errW_some] <;> rfl)) | (simp [*,errW_none,errW_some] <;> rfl) | (exfalso;simp_all;done),q72_⟩
 rw [if_neg c3] at H
 have c3b0:(a1 == 0) = false:=beq_eq_false_iff_ne.mpr c3
 have c3b1:(a1 != 0) = true:=bne_iff_ne.mpr c3
 by_cases c21:a1 = 1
 ·rw [if_pos c21] at H
  have c21b0:(a1 == 1) = true:=beq_iff_eq.mpr c21
  have c21b1:(a1 != 1) = false:=bne_eq_false_iff_eq.mpr c21
  clear c21
  by_cases c22:(Int.tmod a0 2) = 0
  ·rw [if_pos c22] at H
   have c22b0:((Int.tmod a0 2) == 0) = true:=beq_iff_eq.mpr c22
   have c22b1:((Int.tmod a0 2) != 0) = false:=bne_eq_false_iff_eq.mpr c22
   clear c22
   obtain ⟨ji23,hji23⟩:∃ j_:Int,(wrap64 (Int.tdiv a0 2)) = j_:=⟨_,rfl⟩
   (first | rewrite [hji23] at H | simp only [hji23] at H)
   have hji23w:(IntKind.i64.wrap (Int.tdiv a0 2)) = ji23:=(i64_w _).trans hji23
   by_cases c24:0 ≤ (ji23)
   rotate_left
   ·rw [if_neg c24] at H
    exact absurd H (by simp)
   rw [if_pos c24] at H
   have c24b0:=decide_eq_true c24
   clear c24
   by_cases c25:(ji23) < (y337.length:Int)
   rotate_left
   ·rw [if_neg c25] at H
    exact absurd H (by simp)
   rw [if_pos c25] at H
   have c25b0:=decide_eq_true c25
   clear c25
   by_cases c26:4 + (rdOf ByteArray.empty y337 (ji23)).size ≤ 9223372036854775807
   rotate_left
   ·rw [if_neg c26] at H
    exact absurd H (by simp)
   rw [if_pos c26] at H
   have c26b0:=eq_true c26
   have c26b1:=decide_eq_true c26
   try have c26b2:(9223372036854775807 < 4 + (rdOf ByteArray.empty y337 (ji23)).size) = False:=eq_false (Nat.not_lt.2 c26)
   obtain rfl:=Option.some.inj H
   go_enter Tryz.func103,Tryz.ntmps103
   go_wp2_with (first | ((with_reducible refine gate_dst (N:=12) rfl ?_);refine Kd.R_lit Kd.string _ 9 ?hg (N:=12) ?hd (xs:=([(⟨#[98,99]⟩:ByteArray),(⟨#[100,101]⟩:ByteArray),(⟨#[104,108]⟩:ByteArray),(⟨#[97,102]⟩:ByteArray)]:List ByteArray)) (inner:=[.string (⟨#[98,99]⟩:ByteArray),.string (⟨#[100,101]⟩:ByteArray),.string (⟨#[104,108]⟩:ByteArray),.string (⟨#[97,102]⟩:ByteArray)]) (ok:=fun _ => True) (okp:=fun _ => True) ?hr ?hp (fun _ hk => hk) trivial (Below.refl _ _) (Nat.le_refl _) (by simp) ?_;(case hd => rfl);(case hg => rfl);(case hr => exact q139_);(case hp => exact q127_);intro v338 w27 ho28 hb hg_ hnew_;clear hg_ hnew_;(first | rw [← Ny337.out] at ho28 | (simp only [Int.reduceToNat] at ho28;rw [← Ny337.out] at ho28));have n0_:=Aside0.mk (Kd.R_lower ho28 (below_size q72_));have n1_:=Aside0.mk (below_step q72_ hb);clear HB;have HO339:=n0_;have HB:=n1_;clear n0_ n1_;clear hb ho28;obtain ⟨Ao29,co29,eo29⟩:=Kd.R_slice HO339.out;subst eo29;have p348:0 ≤ ((ji23):Int):=of_decide_eq_true q109_;have q348:(ji23) < (y337.length:Int):=of_decide_eq_true q109_;obtain ⟨ad348,e348,hx348_0⟩:=Kd.at_string (Kd.R_reads' HO339.out).2.2 (ji23) p348 q348;cases e348;replace p348:=eq_true p348;replace q348:=eq_true q348))
   go_ret
   exact ⟨by first | rfl | (simp [errW_none,errW_some] <;> rfl) | (simp only [← hji23];first | rfl | (simp [errW_none,errW_some] <;> rfl)) | (simp [*,errW_none,errW_some] <;> rfl) | (exfalso;simp_all;done),q72_⟩
  rw [if_neg c22] at H
  have c22b0:((Int.tmod a0 2) == 0) = false:=beq_eq_false_iff_ne.mpr c22
  have c22b1:((Int.tmod a0 2) != 0) = true:=bne_iff_ne.mpr c22
  obtain ⟨y349,hy349⟩:∃ y_:List ByteArray,y_ = (([(⟨#[114,101,116]⟩:ByteArray),(⟨#[114,101,116,105]⟩:ByteArray),(⟨#[106,112,32,104,108]⟩:ByteArray),(⟨#[108,100,32,115,112,44,104,108]⟩:ByteArray)]:List ByteArray)):=⟨_,rfl⟩
  replace H:(if 0 ≤ (wrap64 (Int.tdiv a0 2)) then (if (wrap64 (Int.tdiv a0 2)) < (y349.length:Int) then (some (rdOf ByteArray.empty y349 (wrap64 (Int.tdiv a0 2)))) else (none)) else (none)) = some r:=by first | (rw [hy349];exact H) | exact H
  have Ny349:=Aside0.mk hy349
  clear hy349
  obtain ⟨ji30,hji30⟩:∃ j_:Int,(wrap64 (Int.tdiv a0 2)) = j_:=⟨_,rfl⟩
  (first | rewrite [hji30] at H | simp only [hji30] at H)
  have hji30w:(IntKind.i64.wrap (Int.tdiv a0 2)) = ji30:=(i64_w _).trans hji30
  by_cases c31:0 ≤ (ji30)
  rotate_left
  ·rw [if_neg c31] at H
   exact absurd H (by simp)
  rw [if_pos c31] at H
  have c31b0:=decide_eq_true c31
  clear c31
  by_cases c32:(ji30) < (y349.length:Int)
  rotate_left
  ·rw [if_neg c32] at H
   exact absurd H (by simp)
  rw [if_pos c32] at H
  have c32b0:=decide_eq_true c32
  clear c32
  obtain rfl:=Option.some.inj H
  go_enter Tryz.func103,Tryz.ntmps103
  go_wp2_with (first | ((with_reducible refine gate_dst (N:=12) rfl ?_);refine Kd.R_lit Kd.string _ 9 ?hg (N:=12) ?hd (xs:=([(⟨#[98,99]⟩:ByteArray),(⟨#[100,101]⟩:ByteArray),(⟨#[104,108]⟩:ByteArray),(⟨#[97,102]⟩:ByteArray)]:List ByteArray)) (inner:=[.string (⟨#[98,99]⟩:ByteArray),.string (⟨#[100,101]⟩:ByteArray),.string (⟨#[104,108]⟩:ByteArray),.string (⟨#[97,102]⟩:ByteArray)]) (ok:=fun _ => True) (okp:=fun _ => True) ?hr ?hp (fun _ hk => hk) trivial (Below.refl _ _) (Nat.le_refl _) (by simp) ?_;(case hd => rfl);(case hg => rfl);(case hr => exact q139_);(case hp => exact q127_);intro v338 w33 ho34 hb hg_ hnew_;clear hg_ hnew_;(first | rw [← Ny337.out] at ho34 | (simp only [Int.reduceToNat] at ho34;rw [← Ny337.out] at ho34));have n0_:=Aside0.mk (Kd.R_lower ho34 (below_size q72_));have n1_:=Aside0.mk (below_step q72_ hb);clear HB;have HO339:=n0_;have HB:=n1_;clear n0_ n1_;clear hb ho34) | ((with_reducible refine gate_dst (N:=37) rfl ?_);refine Kd.R_lit Kd.string _ 9 ?hg (N:=37) ?hd (xs:=([(⟨#[114,101,116]⟩:ByteArray),(⟨#[114,101,116,105]⟩:ByteArray),(⟨#[106,112,32,104,108]⟩:ByteArray),(⟨#[108,100,32,115,112,44,104,108]⟩:ByteArray)]:List ByteArray)) (inner:=[.string (⟨#[114,101,116]⟩:ByteArray),.string (⟨#[114,101,116,105]⟩:ByteArray),.string (⟨#[106,112,32,104,108]⟩:ByteArray),.string (⟨#[108,100,32,115,112,44,104,108]⟩:ByteArray)]) (ok:=fun _ => True) (okp:=fun _ => True) ?hr ?hp (fun _ hk => hk) trivial (Below.refl _ _) (Nat.le_refl _) (by simp) ?_;(case hd => rfl);(case hg => rfl);(case hr => exact q139_);(case hp => exact q125_);intro v350 w35 ho36 hb hg_ hnew_;clear hg_ hnew_;(first | rw [← Ny349.out] at ho36 | (simp only [Int.reduceToNat] at ho36;rw [← Ny349.out] at ho36));have n0_:=Aside0.mk (Kd.R_elder' q100_ (Kd.R_base ho36) hb);have n1_:=Aside0.mk (Kd.R_lower (Kd.R_new' ho36 (Kd.R_lt q100_)) (below_size q72_));have n2_:=Aside0.mk (below_step q72_ hb);clear HO339;clear HB;have HO339:=n0_;have HO351:=n1_;have HB:=n2_;clear n0_ n1_ n2_;clear hb ho36;obtain ⟨Ao37,co37,eo37⟩:=Kd.R_slice HO351.out;subst eo37;have p352:0 ≤ ((ji30):Int):=of_decide_eq_true q109_;have q352:(ji30) < (y349.length:Int):=of_decide_eq_true q109_;obtain ⟨ad352,e352,hx352_0⟩:=Kd.at_string (Kd.R_reads' HO351.out).2.2 (ji30) p352 q352;cases e352;replace p352:=eq_true p352;replace q352:=eq_true q352))
  go_ret
  exact ⟨by first | rfl | (simp [errW_none,errW_some] <;> rfl) | (simp only [← hji30];first | rfl | (simp [errW_none,errW_some] <;> rfl)) | (simp [*,errW_none,errW_some] <;> rfl) | (exfalso;simp_all;done),q72_⟩
 rw [if_neg c21] at H
 have c21b0:(a1 == 1) = false:=beq_eq_false_iff_ne.mpr c21
 have c21b1:(a1 != 1) = true:=bne_iff_ne.mpr c21
 by_cases c38:a1 = 2
 ·rw [if_pos c38] at H
  have c38b0:(a1 == 2) = true:=beq_iff_eq.mpr c38
  have c38b1:(a1 != 2) = false:=bne_eq_false_iff_eq.mpr c38
  clear c38
  by_cases c39:a0 < 4
  ·rw [if_pos c39] at H
   have c39b0:=decide_eq_true c39
   clear c39
   replace H:=Option.bind_eq_some_iff.mp H
   obtain ⟨t353,A400,H⟩:=H
   have A40:=Aside0.mk A400
   clear A400
   by_cases c41:0 ≤ a0
   rotate_left
   ·rw [if_neg c41] at H
    exact absurd H (by simp)
   rw [if_pos c41] at H
   have c41b0:=decide_eq_true c41
   clear c41
   by_cases c42:a0 < (t353.length:Int)
   rotate_left
   ·rw [if_neg c42] at H
    exact absurd H (by simp)
   rw [if_pos c42] at H
   have c42b0:=decide_eq_true c42
   clear c42
   by_cases c43:3 + (rdOf ByteArray.empty t353 a0).size ≤ 9223372036854775807
   rotate_left
   ·rw [if_neg c43] at H
    exact absurd H (by simp)
   rw [if_pos c43] at H
   have c43b0:=eq_true c43
   have c43b1:=decide_eq_true c43
   try have c43b2:(9223372036854775807 < 3 + (rdOf ByteArray.empty t353 a0).size) = False:=eq_false (Nat.not_lt.2 c43)
   by_cases c44:((⟨#[106,112,32]⟩:ByteArray) ++ (rdOf ByteArray.empty t353 a0)).size + 4 ≤ 9223372036854775807
   rotate_left
   ·rw [if_neg c44] at H
    exact absurd H (by simp)
   rw [if_pos c44] at H
   have c44b0:=eq_true c44
   (try (have c44b0e:=c44b0;simp only [ByteArray.size_append,ByteArray.size_extract,Nat.min_self,Nat.sub_zero,show (⟨#[106,112,32]⟩:ByteArray).size = 3 from rfl] at c44b0e))
   have c44b1:=decide_eq_true c44
   (try (have c44b1e:=c44b1;simp only [ByteArray.size_append,ByteArray.size_extract,Nat.min_self,Nat.sub_zero,show (⟨#[106,112,32]⟩:ByteArray).size = 3 from rfl] at c44b1e))
   try have c44b2:(9223372036854775807 < ((⟨#[106,112,32]⟩:ByteArray) ++ (rdOf ByteArray.empty t353 a0)).size + 4) = False:=eq_false (Nat.not_lt.2 c44)
   (try (have c44b2e:=c44b2;simp only [ByteArray.size_append,ByteArray.size_extract,Nat.min_self,Nat.sub_zero,show (⟨#[106,112,32]⟩:ByteArray).size = 3 from rfl] at c44b2e))
   obtain rfl:=Option.some.inj H
   go_enter Tryz.func103,Tryz.ntmps103
   go_wp2_with (first | ((with_reducible refine gate_dst (N:=12) rfl ?_);refine Kd.R_lit Kd.string _ 9 ?hg (N:=12) ?hd (xs:=([(⟨#[98,99]⟩:ByteArray),(⟨#[100,101]⟩:ByteArray),(⟨#[104,108]⟩:ByteArray),(⟨#[97,102]⟩:ByteArray)]:List ByteArray)) (inner:=[.string (⟨#[98,99]⟩:ByteArray),.string (⟨#[100,101]⟩:ByteArray),.string (⟨#[104,108]⟩:ByteArray),.string (⟨#[97,102]⟩:ByteArray)]) (ok:=fun _ => True) (okp:=fun _ => True) ?hr ?hp (fun _ hk => hk) trivial (Below.refl _ _) (Nat.le_refl _) (by simp) ?_;(case hd => rfl);(case hg => rfl);(case hr => exact q139_);(case hp => exact q127_);intro v338 w45 ho46 hb hg_ hnew_;clear hg_ hnew_;(first | rw [← Ny337.out] at ho46 | (simp only [Int.reduceToNat] at ho46;rw [← Ny337.out] at ho46));have n0_:=Aside0.mk (Kd.R_lower ho46 (below_size q72_));have n1_:=Aside0.mk (below_step q72_ hb);clear HB;have HO339:=n0_;have HB:=n1_;clear n0_ n1_;clear hb ho46) | ((with_reducible refine gate_callee (f:=132) rfl ?_);refine goesL_ (some 45) rfl rfl Tryz.func132 (by kernel_rfl) rfl #[] rfl q71_ ?_;(with_reducible refine (spec_l3Conds.calls  t353 _ A40.out).mono ?_);rintro e w47 ⟨v354,rfl,ho0,hb⟩;refine ⟨_,rfl,?_⟩;have n0_:=Aside0.mk (Kd.R_elder' q100_ (Kd.R_base ho0) hb);have n1_:=Aside0.mk (Kd.R_lower (Kd.R_new' ho0 (Kd.R_lt q100_)) (below_size q72_));have n2_:=Aside0.mk (below_step q72_ hb);clear HO339;clear HB;have HO339:=n0_;have HO355:=n1_;have HB:=n2_;clear n0_ n1_ n2_;(try clear hb);(try clear ho0);obtain ⟨Ao48,co48,eo48⟩:=Kd.R_slice HO355.out;subst eo48;have p356:0 ≤ (a0:Int):=of_decide_eq_true q109_;have q356:a0 < (t353.length:Int):=of_decide_eq_true q109_;obtain ⟨ad356,e356,hx356_0⟩:=Kd.at_string (Kd.R_reads' HO355.out).2.2 a0 p356 q356;cases e356;replace p356:=eq_true p356;replace q356:=eq_true q356))
   go_ret
   exact ⟨q74_,q72_⟩
  rw [if_neg c39] at H
  have c39b0:=decide_eq_false c39
  clear c39
  obtain ⟨y357,hy357⟩:∃ y_:List ByteArray,y_ = (([(⟨#[108,100,104,32,91,99,93,44,97]⟩:ByteArray),(⟨#[108,100,32,91,110,49,54,93,44,97]⟩:ByteArray),(⟨#[108,100,104,32,97,44,91,99,93]⟩:ByteArray),(⟨#[108,100,32,97,44,91,110,49,54,93]⟩:ByteArray)]:List ByteArray)):=⟨_,rfl⟩
  replace H:(if 0 ≤ (wrap64 (a0 - 4)) then (if (wrap64 (a0 - 4)) < (y357.length:Int) then (some (rdOf ByteArray.empty y357 (wrap64 (a0 - 4)))) else (none)) else (none)) = some r:=by first | (rw [hy357];exact H) | exact H
  have Ny357:=Aside0.mk hy357
  clear hy357
  obtain ⟨ji49,hji49⟩:∃ j_:Int,(wrap64 (a0 - 4)) = j_:=⟨_,rfl⟩
  (first | rewrite [hji49] at H | simp only [hji49] at H)
  have hji49w:(IntKind.i64.wrap (a0 - 4)) = ji49:=(i64_w _).trans hji49
  by_cases c50:0 ≤ (ji49)
  rotate_left
  ·rw [if_neg c50] at H
   exact absurd H (by simp)
  rw [if_pos c50] at H
  have c50b0:=decide_eq_true c50
  clear c50
  by_cases c51:(ji49) < (y357.length:Int)
  rotate_left
  ·rw [if_neg c51] at H
   exact absurd H (by simp)
  rw [if_pos c51] at H
  have c51b0:=decide_eq_true c51
  clear c51
  obtain rfl:=Option.some.inj H
  go_enter Tryz.func103,Tryz.ntmps103
  go_wp2_with (first | ((with_reducible refine gate_dst (N:=12) rfl ?_);refine Kd.R_lit Kd.string _ 9 ?hg (N:=12) ?hd (xs:=([(⟨#[98,99]⟩:ByteArray),(⟨#[100,101]⟩:ByteArray),(⟨#[104,108]⟩:ByteArray),(⟨#[97,102]⟩:ByteArray)]:List ByteArray)) (inner:=[.string (⟨#[98,99]⟩:ByteArray),.string (⟨#[100,101]⟩:ByteArray),.string (⟨#[104,108]⟩:ByteArray),.string (⟨#[97,102]⟩:ByteArray)]) (ok:=fun _ => True) (okp:=fun _ => True) ?hr ?hp (fun _ hk => hk) trivial (Below.refl _ _) (Nat.le_refl _) (by simp) ?_;(case hd => rfl);(case hg => rfl);(case hr => exact q139_);(case hp => exact q127_);intro v338 w52 ho53 hb hg_ hnew_;clear hg_ hnew_;(first | rw [← Ny337.out] at ho53 | (simp only [Int.reduceToNat] at ho53;rw [← Ny337.out] at ho53));have n0_:=Aside0.mk (Kd.R_lower ho53 (below_size q72_));have n1_:=Aside0.mk (below_step q72_ hb);clear HB;have HO339:=n0_;have HB:=n1_;clear n0_ n1_;clear hb ho53) | ((with_reducible refine gate_dst (N:=51) rfl ?_);refine Kd.R_lit Kd.string _ 9 ?hg (N:=51) ?hd (xs:=([(⟨#[108,100,104,32,91,99,93,44,97]⟩:ByteArray),(⟨#[108,100,32,91,110,49,54,93,44,97]⟩:ByteArray),(⟨#[108,100,104,32,97,44,91,99,93]⟩:ByteArray),(⟨#[108,100,32,97,44,91,110,49,54,93]⟩:ByteArray)]:List ByteArray)) (inner:=[.string (⟨#[108,100,104,32,91,99,93,44,97]⟩:ByteArray),.string (⟨#[108,100,32,91,110,49,54,93,44,97]⟩:ByteArray),.string (⟨#[108,100,104,32,97,44,91,99,93]⟩:ByteArray),.string (⟨#[108,100,32,97,44,91,110,49,54,93]⟩:ByteArray)]) (ok:=fun _ => True) (okp:=fun _ => True) ?hr ?hp (fun _ hk => hk) trivial (Below.refl _ _) (Nat.le_refl _) (by simp) ?_;(case hd => rfl);(case hg => rfl);(case hr => exact q139_);(case hp => exact q123_);intro v358 w54 ho55 hb hg_ hnew_;clear hg_ hnew_;(first | rw [← Ny357.out] at ho55 | (simp only [Int.reduceToNat] at ho55;rw [← Ny357.out] at ho55));have n0_:=Aside0.mk (Kd.R_elder' q100_ (Kd.R_base ho55) hb);have n1_:=Aside0.mk (Kd.R_lower (Kd.R_new' ho55 (Kd.R_lt q100_)) (below_size q72_));have n2_:=Aside0.mk (below_step q72_ hb);clear HO339;clear HB;have HO339:=n0_;have HO359:=n1_;have HB:=n2_;clear n0_ n1_ n2_;clear hb ho55;obtain ⟨Ao56,co56,eo56⟩:=Kd.R_slice HO359.out;subst eo56;have p360:0 ≤ ((ji49):Int):=of_decide_eq_true q109_;have q360:(ji49) < (y357.length:Int):=of_decide_eq_true q109_;obtain ⟨ad360,e360,hx360_0⟩:=Kd.at_string (Kd.R_reads' HO359.out).2.2 (ji49) p360 q360;cases e360;replace p360:=eq_true p360;replace q360:=eq_true q360))
  go_ret
  exact ⟨by first | rfl | (simp [errW_none,errW_some] <;> rfl) | (simp only [← hji49];first | rfl | (simp [errW_none,errW_some] <;> rfl)) | (simp [*,errW_none,errW_some] <;> rfl) | (exfalso;simp_all;done),q72_⟩
 rw [if_neg c38] at H
 have c38b0:(a1 == 2) = false:=beq_eq_false_iff_ne.mpr c38
 have c38b1:(a1 != 2) = true:=bne_iff_ne.mpr c38
 by_cases c57:a1 = 3
 ·rw [if_pos c57] at H
  have c57b0:(a1 == 3) = true:=beq_iff_eq.mpr c57
  have c57b1:(a1 != 3) = false:=bne_eq_false_iff_eq.mpr c57
  clear c57
  obtain ⟨y361,hy361⟩:∃ y_:List ByteArray,y_ = (([(⟨#[106,112,32,110,49,54]⟩:ByteArray),(⟨#[]⟩:ByteArray),(⟨#[]⟩:ByteArray),(⟨#[]⟩:ByteArray),(⟨#[]⟩:ByteArray),(⟨#[]⟩:ByteArray),(⟨#[100,105]⟩:ByteArray),(⟨#[101,105]⟩:ByteArray)]:List ByteArray)):=⟨_,rfl⟩
  replace H:(if 0 ≤ a0 then (if a0 < (y361.length:Int) then (some (rdOf ByteArray.empty y361 a0)) else (none)) else (none)) = some r:=by first | (rw [hy361];exact H) | exact H
  have Ny361:=Aside0.mk hy361
  clear hy361
  by_cases c58:0 ≤ a0
  rotate_left
  ·rw [if_neg c58] at H
   exact absurd H (by simp)
  rw [if_pos c58] at H
  have c58b0:=decide_eq_true c58
  clear c58
  by_cases c59:a0 < (y361.length:Int)
  rotate_left
  ·rw [if_neg c59] at H
   exact absurd H (by simp)
  rw [if_pos c59] at H
  have c59b0:=decide_eq_true c59
  clear c59
  obtain rfl:=Option.some.inj H
  go_enter Tryz.func103,Tryz.ntmps103
  go_wp2_with (first | ((with_reducible refine gate_dst (N:=12) rfl ?_);refine Kd.R_lit Kd.string _ 9 ?hg (N:=12) ?hd (xs:=([(⟨#[98,99]⟩:ByteArray),(⟨#[100,101]⟩:ByteArray),(⟨#[104,108]⟩:ByteArray),(⟨#[97,102]⟩:ByteArray)]:List ByteArray)) (inner:=[.string (⟨#[98,99]⟩:ByteArray),.string (⟨#[100,101]⟩:ByteArray),.string (⟨#[104,108]⟩:ByteArray),.string (⟨#[97,102]⟩:ByteArray)]) (ok:=fun _ => True) (okp:=fun _ => True) ?hr ?hp (fun _ hk => hk) trivial (Below.refl _ _) (Nat.le_refl _) (by simp) ?_;(case hd => rfl);(case hg => rfl);(case hr => exact q139_);(case hp => exact q127_);intro v338 w60 ho61 hb hg_ hnew_;clear hg_ hnew_;(first | rw [← Ny337.out] at ho61 | (simp only [Int.reduceToNat] at ho61;rw [← Ny337.out] at ho61));have n0_:=Aside0.mk (Kd.R_lower ho61 (below_size q72_));have n1_:=Aside0.mk (below_step q72_ hb);clear HB;have HO339:=n0_;have HB:=n1_;clear n0_ n1_;clear hb ho61) | ((with_reducible refine gate_dst (N:=58) rfl ?_);refine Kd.R_lit Kd.string _ 9 ?hg (N:=58) ?hd (xs:=([(⟨#[106,112,32,110,49,54]⟩:ByteArray),(⟨#[]⟩:ByteArray),(⟨#[]⟩:ByteArray),(⟨#[]⟩:ByteArray),(⟨#[]⟩:ByteArray),(⟨#[]⟩:ByteArray),(⟨#[100,105]⟩:ByteArray),(⟨#[101,105]⟩:ByteArray)]:List ByteArray)) (inner:=[.string (⟨#[106,112,32,110,49,54]⟩:ByteArray),.string (⟨#[]⟩:ByteArray),.string (⟨#[]⟩:ByteArray),.string (⟨#[]⟩:ByteArray),.string (⟨#[]⟩:ByteArray),.string (⟨#[]⟩:ByteArray),.string (⟨#[100,105]⟩:ByteArray),.string (⟨#[101,105]⟩:ByteArray)]) (ok:=fun _ => True) (okp:=fun _ => True) ?hr ?hp (fun _ hk => hk) trivial (Below.refl _ _) (Nat.le_refl _) (by simp) ?_;(case hd => rfl);(case hg => rfl);(case hr => exact q139_);(case hp => exact (Reps.one (show Kd.M Kd.string _ _ _ (⟨#[106,112,32,110,49,54]⟩:ByteArray) [.string (⟨#[106,112,32,110,49,54]⟩:ByteArray)] from rfl) (Reps.one (show Kd.M Kd.string _ _ _ (⟨#[]⟩:ByteArray) [.string (⟨#[]⟩:ByteArray)] from rfl) (Reps.one (show Kd.M Kd.string _ _ _ (⟨#[]⟩:ByteArray) [.string (⟨#[]⟩:ByteArray)] from rfl) (Reps.one (show Kd.M Kd.string _ _ _ (⟨#[]⟩:ByteArray) [.string (⟨#[]⟩:ByteArray)] from rfl) (Reps.one (show Kd.M Kd.string _ _ _ (⟨#[]⟩:ByteArray) [.string (⟨#[]⟩:ByteArray)] from rfl) (Reps.one (show Kd.M Kd.string _ _ _ (⟨#[]⟩:ByteArray) [.string (⟨#[]⟩:ByteArray)] from rfl) (Reps.one (show Kd.M Kd.string _ _ _ (⟨#[100,105]⟩:ByteArray) [.string (⟨#[100,105]⟩:ByteArray)] from rfl) (Reps.one (show Kd.M Kd.string _ _ _ (⟨#[101,105]⟩:ByteArray) [.string (⟨#[101,105]⟩:ByteArray)] from rfl) (Reps.none _ _))))))))));intro v362 w62 ho63 hb hg_ hnew_;clear hg_ hnew_;(first | rw [← Ny361.out] at ho63 | (simp only [Int.reduceToNat] at ho63;rw [← Ny361.out] at ho63));have n0_:=Aside0.mk (Kd.R_elder' q100_ (Kd.R_base ho63) hb);have n1_:=Aside0.mk (Kd.R_lower (Kd.R_new' ho63 (Kd.R_lt q100_)) (below_size q72_));have n2_:=Aside0.mk (below_step q72_ hb);clear HO339;clear HB;have HO339:=n0_;have HO363:=n1_;have HB:=n2_;clear n0_ n1_ n2_;clear hb ho63;obtain ⟨Ao64,co64,eo64⟩:=Kd.R_slice HO363.out;subst eo64;have p364:0 ≤ (a0:Int):=of_decide_eq_true q109_;have q364:a0 < (y361.length:Int):=of_decide_eq_true q109_;obtain ⟨ad364,e364,hx364_0⟩:=Kd.at_string (Kd.R_reads' HO363.out).2.2 a0 p364 q364;cases e364;replace p364:=eq_true p364;replace q364:=eq_true q364))
  go_ret
  exact ⟨q74_,q72_⟩
 rw [if_neg c57] at H
 have c57b0:(a1 == 3) = false:=beq_eq_false_iff_ne.mpr c57
 have c57b1:(a1 != 3) = true:=bne_iff_ne.mpr c57
 by_cases c65:a1 = 4
 ·rw [if_pos c65] at H
  have c65b0:(a1 == 4) = true:=beq_iff_eq.mpr c65
  have c65b1:(a1 != 4) = false:=bne_eq_false_iff_eq.mpr c65
  clear c65
  by_cases c66:a0 < 4
  ·rw [if_pos c66] at H
   have c66b0:=decide_eq_true c66
   clear c66
   replace H:=Option.bind_eq_some_iff.mp H
   obtain ⟨t365,A670,H⟩:=H
   have A67:=Aside0.mk A670
   clear A670
   by_cases c68:0 ≤ a0
   rotate_left
   ·rw [if_neg c68] at H
    exact absurd H (by simp)
   rw [if_pos c68] at H
   have c68b0:=decide_eq_true c68
   clear c68
   by_cases c69:a0 < (t365.length:Int)
   rotate_left
   ·rw [if_neg c69] at H
    exact absurd H (by simp)
   rw [if_pos c69] at H
   have c69b0:=decide_eq_true c69
   clear c69
   by_cases c70:5 + (rdOf ByteArray.empty t365 a0).size ≤ 9223372036854775807
   rotate_left
   ·rw [if_neg c70] at H
    exact absurd H (by simp)
   rw [if_pos c70] at H
   have c70b0:=eq_true c70
   have c70b1:=decide_eq_true c70
   try have c70b2:(9223372036854775807 < 5 + (rdOf ByteArray.empty t365 a0).size) = False:=eq_false (Nat.not_lt.2 c70)
   by_cases c71:((⟨#[99,97,108,108,32]⟩:ByteArray) ++ (rdOf ByteArray.empty t365 a0)).size + 4 ≤ 9223372036854775807
   rotate_left
   ·rw [if_neg c71] at H
    exact absurd H (by simp)
   rw [if_pos c71] at H
   have c71b0:=eq_true c71
   (try (have c71b0e:=c71b0;simp only [ByteArray.size_append,ByteArray.size_extract,Nat.min_self,Nat.sub_zero,show (⟨#[99,97,108,108,32]⟩:ByteArray).size = 5 from rfl] at c71b0e))
   have c71b1:=decide_eq_true c71
   (try (have c71b1e:=c71b1;simp only [ByteArray.size_append,ByteArray.size_extract,Nat.min_self,Nat.sub_zero,show (⟨#[99,97,108,108,32]⟩:ByteArray).size = 5 from rfl] at c71b1e))
   try have c71b2:(9223372036854775807 < ((⟨#[99,97,108,108,32]⟩:ByteArray) ++ (rdOf ByteArray.empty t365 a0)).size + 4) = False:=eq_false (Nat.not_lt.2 c71)
   (try (have c71b2e:=c71b2;simp only [ByteArray.size_append,ByteArray.size_extract,Nat.min_self,Nat.sub_zero,show (⟨#[99,97,108,108,32]⟩:ByteArray).size = 5 from rfl] at c71b2e))
   obtain rfl:=Option.some.inj H
   go_enter Tryz.func103,Tryz.ntmps103
   go_wp2_with (first | ((with_reducible refine gate_dst (N:=12) rfl ?_);refine Kd.R_lit Kd.string _ 9 ?hg (N:=12) ?hd (xs:=([(⟨#[98,99]⟩:ByteArray),(⟨#[100,101]⟩:ByteArray),(⟨#[104,108]⟩:ByteArray),(⟨#[97,102]⟩:ByteArray)]:List ByteArray)) (inner:=[.string (⟨#[98,99]⟩:ByteArray),.string (⟨#[100,101]⟩:ByteArray),.string (⟨#[104,108]⟩:ByteArray),.string (⟨#[97,102]⟩:ByteArray)]) (ok:=fun _ => True) (okp:=fun _ => True) ?hr ?hp (fun _ hk => hk) trivial (Below.refl _ _) (Nat.le_refl _) (by simp) ?_;(case hd => rfl);(case hg => rfl);(case hr => exact q139_);(case hp => exact q127_);intro v338 w72 ho73 hb hg_ hnew_;clear hg_ hnew_;(first | rw [← Ny337.out] at ho73 | (simp only [Int.reduceToNat] at ho73;rw [← Ny337.out] at ho73));have n0_:=Aside0.mk (Kd.R_lower ho73 (below_size q72_));have n1_:=Aside0.mk (below_step q72_ hb);clear HB;have HO339:=n0_;have HB:=n1_;clear n0_ n1_;clear hb ho73) | ((with_reducible refine gate_callee (f:=132) rfl ?_);refine goesL_ (some 66) rfl rfl Tryz.func132 (by kernel_rfl) rfl #[] rfl q71_ ?_;(with_reducible refine (spec_l3Conds.calls  t365 _ A67.out).mono ?_);rintro e w74 ⟨v366,rfl,ho0,hb⟩;refine ⟨_,rfl,?_⟩;have n0_:=Aside0.mk (Kd.R_elder' q100_ (Kd.R_base ho0) hb);have n1_:=Aside0.mk (Kd.R_lower (Kd.R_new' ho0 (Kd.R_lt q100_)) (below_size q72_));have n2_:=Aside0.mk (below_step q72_ hb);clear HO339;clear HB;have HO339:=n0_;have HO367:=n1_;have HB:=n2_;clear n0_ n1_ n2_;(try clear hb);(try clear ho0);obtain ⟨Ao75,co75,eo75⟩:=Kd.R_slice HO367.out;subst eo75;have p368:0 ≤ (a0:Int):=of_decide_eq_true q109_;have q368:a0 < (t365.length:Int):=of_decide_eq_true q109_;obtain ⟨ad368,e368,hx368_0⟩:=Kd.at_string (Kd.R_reads' HO367.out).2.2 a0 p368 q368;cases e368;replace p368:=eq_true p368;replace q368:=eq_true q368))
   go_ret
   exact ⟨q74_,q72_⟩
  rw [if_neg c66] at H
  have c66b0:=decide_eq_false c66
  clear c66
  obtain rfl:=Option.some.inj H
  go_enter Tryz.func103,Tryz.ntmps103
  go_wp2_with (first | ((with_reducible refine gate_dst (N:=12) rfl ?_);refine Kd.R_lit Kd.string _ 9 ?hg (N:=12) ?hd (xs:=([(⟨#[98,99]⟩:ByteArray),(⟨#[100,101]⟩:ByteArray),(⟨#[104,108]⟩:ByteArray),(⟨#[97,102]⟩:ByteArray)]:List ByteArray)) (inner:=[.string (⟨#[98,99]⟩:ByteArray),.string (⟨#[100,101]⟩:ByteArray),.string (⟨#[104,108]⟩:ByteArray),.string (⟨#[97,102]⟩:ByteArray)]) (ok:=fun _ => True) (okp:=fun _ => True) ?hr ?hp (fun _ hk => hk) trivial (Below.refl _ _) (Nat.le_refl _) (by simp) ?_;(case hd => rfl);(case hg => rfl);(case hr => exact q139_);(case hp => exact q127_);intro v338 w76 ho77 hb hg_ hnew_;clear hg_ hnew_;(first | rw [← Ny337.out] at ho77 | (simp only [Int.reduceToNat] at ho77;rw [← Ny337.out] at ho77));have n0_:=Aside0.mk (Kd.R_lower ho77 (below_size q72_));have n1_:=Aside0.mk (below_step q72_ hb);clear HB;have HO339:=n0_;have HB:=n1_;clear n0_ n1_;clear hb ho77))
  go_ret
  exact ⟨q74_,q72_⟩
 rw [if_neg c65] at H
 have c65b0:(a1 == 4) = false:=beq_eq_false_iff_ne.mpr c65
 have c65b1:(a1 != 4) = true:=bne_iff_ne.mpr c65
 by_cases c78:a1 = 5
 ·rw [if_pos c78] at H
  have c78b0:(a1 == 5) = true:=beq_iff_eq.mpr c78
  have c78b1:(a1 != 5) = false:=bne_eq_false_iff_eq.mpr c78
  clear c78
  by_cases c79:(Int.tmod a0 2) = 0
  ·rw [if_pos c79] at H
   have c79b0:((Int.tmod a0 2) == 0) = true:=beq_iff_eq.mpr c79
   have c79b1:((Int.tmod a0 2) != 0) = false:=bne_eq_false_iff_eq.mpr c79
   clear c79
   obtain ⟨ji80,hji80⟩:∃ j_:Int,(wrap64 (Int.tdiv a0 2)) = j_:=⟨_,rfl⟩
   (first | rewrite [hji80] at H | simp only [hji80] at H)
   have hji80w:(IntKind.i64.wrap (Int.tdiv a0 2)) = ji80:=(i64_w _).trans hji80
   by_cases c81:0 ≤ (ji80)
   rotate_left
   ·rw [if_neg c81] at H
    exact absurd H (by simp)
   rw [if_pos c81] at H
   have c81b0:=decide_eq_true c81
   clear c81
   by_cases c82:(ji80) < (y337.length:Int)
   rotate_left
   ·rw [if_neg c82] at H
    exact absurd H (by simp)
   rw [if_pos c82] at H
   have c82b0:=decide_eq_true c82
   clear c82
   by_cases c83:5 + (rdOf ByteArray.empty y337 (ji80)).size ≤ 9223372036854775807
   rotate_left
   ·rw [if_neg c83] at H
    exact absurd H (by simp)
   rw [if_pos c83] at H
   have c83b0:=eq_true c83
   have c83b1:=decide_eq_true c83
   try have c83b2:(9223372036854775807 < 5 + (rdOf ByteArray.empty y337 (ji80)).size) = False:=eq_false (Nat.not_lt.2 c83)
   obtain rfl:=Option.some.inj H
   go_enter Tryz.func103,Tryz.ntmps103
   go_wp2_with (first | ((with_reducible refine gate_dst (N:=12) rfl ?_);refine Kd.R_lit Kd.string _ 9 ?hg (N:=12) ?hd (xs:=([(⟨#[98,99]⟩:ByteArray),(⟨#[100,101]⟩:ByteArray),(⟨#[104,108]⟩:ByteArray),(⟨#[97,102]⟩:ByteArray)]:List ByteArray)) (inner:=[.string (⟨#[98,99]⟩:ByteArray),.string (⟨#[100,101]⟩:ByteArray),.string (⟨#[104,108]⟩:ByteArray),.string (⟨#[97,102]⟩:ByteArray)]) (ok:=fun _ => True) (okp:=fun _ => True) ?hr ?hp (fun _ hk => hk) trivial (Below.refl _ _) (Nat.le_refl _) (by simp) ?_;(case hd => rfl);(case hg => rfl);(case hr => exact q139_);(case hp => exact q127_);intro v338 w84 ho85 hb hg_ hnew_;clear hg_ hnew_;(first | rw [← Ny337.out] at ho85 | (simp only [Int.reduceToNat] at ho85;rw [← Ny337.out] at ho85));have n0_:=Aside0.mk (Kd.R_lower ho85 (below_size q72_));have n1_:=Aside0.mk (below_step q72_ hb);clear HB;have HO339:=n0_;have HB:=n1_;clear n0_ n1_;clear hb ho85;obtain ⟨Ao86,co86,eo86⟩:=Kd.R_slice HO339.out;subst eo86;have p369:0 ≤ ((ji80):Int):=of_decide_eq_true q109_;have q369:(ji80) < (y337.length:Int):=of_decide_eq_true q109_;obtain ⟨ad369,e369,hx369_0⟩:=Kd.at_string (Kd.R_reads' HO339.out).2.2 (ji80) p369 q369;cases e369;replace p369:=eq_true p369;replace q369:=eq_true q369))
   go_ret
   exact ⟨by first | rfl | (simp [errW_none,errW_some] <;> rfl) | (simp only [← hji80];first | rfl | (simp [errW_none,errW_some] <;> rfl)) | (simp [*,errW_none,errW_some] <;> rfl) | (exfalso;simp_all;done),q72_⟩
  rw [if_neg c79] at H
  have c79b0:((Int.tmod a0 2) == 0) = false:=beq_eq_false_iff_ne.mpr c79
  have c79b1:((Int.tmod a0 2) != 0) = true:=bne_iff_ne.mpr c79
  obtain ⟨y370,hy370⟩:∃ y_:List ByteArray,y_ = (([(⟨#[99,97,108,108,32,110,49,54]⟩:ByteArray),(⟨#[]⟩:ByteArray),(⟨#[]⟩:ByteArray),(⟨#[]⟩:ByteArray)]:List ByteArray)):=⟨_,rfl⟩
  replace H:(if 0 ≤ (wrap64 (Int.tdiv a0 2)) then (if (wrap64 (Int.tdiv a0 2)) < (y370.length:Int) then (some (rdOf ByteArray.empty y370 (wrap64 (Int.tdiv a0 2)))) else (none)) else (none)) = some r:=by first | (rw [hy370];exact H) | exact H
  have Ny370:=Aside0.mk hy370
  clear hy370
  obtain ⟨ji87,hji87⟩:∃ j_:Int,(wrap64 (Int.tdiv a0 2)) = j_:=⟨_,rfl⟩
  (first | rewrite [hji87] at H | simp only [hji87] at H)
  have hji87w:(IntKind.i64.wrap (Int.tdiv a0 2)) = ji87:=(i64_w _).trans hji87
  by_cases c88:0 ≤ (ji87)
  rotate_left
  ·rw [if_neg c88] at H
   exact absurd H (by simp)
  rw [if_pos c88] at H
  have c88b0:=decide_eq_true c88
  clear c88
  by_cases c89:(ji87) < (y370.length:Int)
  rotate_left
  ·rw [if_neg c89] at H
   exact absurd H (by simp)
  rw [if_pos c89] at H
  have c89b0:=decide_eq_true c89
  clear c89
  obtain rfl:=Option.some.inj H
  go_enter Tryz.func103,Tryz.ntmps103
  go_wp2_with (first | ((with_reducible refine gate_dst (N:=12) rfl ?_);refine Kd.R_lit Kd.string _ 9 ?hg (N:=12) ?hd (xs:=([(⟨#[98,99]⟩:ByteArray),(⟨#[100,101]⟩:ByteArray),(⟨#[104,108]⟩:ByteArray),(⟨#[97,102]⟩:ByteArray)]:List ByteArray)) (inner:=[.string (⟨#[98,99]⟩:ByteArray),.string (⟨#[100,101]⟩:ByteArray),.string (⟨#[104,108]⟩:ByteArray),.string (⟨#[97,102]⟩:ByteArray)]) (ok:=fun _ => True) (okp:=fun _ => True) ?hr ?hp (fun _ hk => hk) trivial (Below.refl _ _) (Nat.le_refl _) (by simp) ?_;(case hd => rfl);(case hg => rfl);(case hr => exact q139_);(case hp => exact q127_);intro v338 w90 ho91 hb hg_ hnew_;clear hg_ hnew_;(first | rw [← Ny337.out] at ho91 | (simp only [Int.reduceToNat] at ho91;rw [← Ny337.out] at ho91));have n0_:=Aside0.mk (Kd.R_lower ho91 (below_size q72_));have n1_:=Aside0.mk (below_step q72_ hb);clear HB;have HO339:=n0_;have HB:=n1_;clear n0_ n1_;clear hb ho91) | ((with_reducible refine gate_dst (N:=81) rfl ?_);refine Kd.R_lit Kd.string _ 9 ?hg (N:=81) ?hd (xs:=([(⟨#[99,97,108,108,32,110,49,54]⟩:ByteArray),(⟨#[]⟩:ByteArray),(⟨#[]⟩:ByteArray),(⟨#[]⟩:ByteArray)]:List ByteArray)) (inner:=[.string (⟨#[99,97,108,108,32,110,49,54]⟩:ByteArray),.string (⟨#[]⟩:ByteArray),.string (⟨#[]⟩:ByteArray),.string (⟨#[]⟩:ByteArray)]) (ok:=fun _ => True) (okp:=fun _ => True) ?hr ?hp (fun _ hk => hk) trivial (Below.refl _ _) (Nat.le_refl _) (by simp) ?_;(case hd => rfl);(case hg => rfl);(case hr => exact q139_);(case hp => exact (Reps.one (show Kd.M Kd.string _ _ _ (⟨#[99,97,108,108,32,110,49,54]⟩:ByteArray) [.string (⟨#[99,97,108,108,32,110,49,54]⟩:ByteArray)] from rfl) (Reps.one (show Kd.M Kd.string _ _ _ (⟨#[]⟩:ByteArray) [.string (⟨#[]⟩:ByteArray)] from rfl) (Reps.one (show Kd.M Kd.string _ _ _ (⟨#[]⟩:ByteArray) [.string (⟨#[]⟩:ByteArray)] from rfl) (Reps.one (show Kd.M Kd.string _ _ _ (⟨#[]⟩:ByteArray) [.string (⟨#[]⟩:ByteArray)] from rfl) (Reps.none _ _))))));intro v371 w92 ho93 hb hg_ hnew_;clear hg_ hnew_;(first | rw [← Ny370.out] at ho93 | (simp only [Int.reduceToNat] at ho93;rw [← Ny370.out] at ho93));have n0_:=Aside0.mk (Kd.R_elder' q100_ (Kd.R_base ho93) hb);have n1_:=Aside0.mk (Kd.R_lower (Kd.R_new' ho93 (Kd.R_lt q100_)) (below_size q72_));have n2_:=Aside0.mk (below_step q72_ hb);clear HO339;clear HB;have HO339:=n0_;have HO372:=n1_;have HB:=n2_;clear n0_ n1_ n2_;clear hb ho93;obtain ⟨Ao94,co94,eo94⟩:=Kd.R_slice HO372.out;subst eo94;have p373:0 ≤ ((ji87):Int):=of_decide_eq_true q109_;have q373:(ji87) < (y370.length:Int):=of_decide_eq_true q109_;obtain ⟨ad373,e373,hx373_0⟩:=Kd.at_string (Kd.R_reads' HO372.out).2.2 (ji87) p373 q373;cases e373;replace p373:=eq_true p373;replace q373:=eq_true q373))
  go_ret
  exact ⟨by first | rfl | (simp [errW_none,errW_some] <;> rfl) | (simp only [← hji87];first | rfl | (simp [errW_none,errW_some] <;> rfl)) | (simp [*,errW_none,errW_some] <;> rfl) | (exfalso;simp_all;done),q72_⟩
 rw [if_neg c78] at H
 have c78b0:(a1 == 5) = false:=beq_eq_false_iff_ne.mpr c78
 have c78b1:(a1 != 5) = true:=bne_iff_ne.mpr c78
 by_cases c95:a1 = 6
 ·rw [if_pos c95] at H
  have c95b0:(a1 == 6) = true:=beq_iff_eq.mpr c95
  have c95b1:(a1 != 6) = false:=bne_eq_false_iff_eq.mpr c95
  clear c95
  replace H:=Option.bind_eq_some_iff.mp H
  obtain ⟨t374,A960,H⟩:=H
  have A96:=Aside0.mk A960
  clear A960
  by_cases c97:0 ≤ a0
  rotate_left
  ·rw [if_neg c97] at H
   exact absurd H (by simp)
  rw [if_pos c97] at H
  have c97b0:=decide_eq_true c97
  clear c97
  by_cases c98:a0 < (t374.length:Int)
  rotate_left
  ·rw [if_neg c98] at H
   exact absurd H (by simp)
  rw [if_pos c98] at H
  have c98b0:=decide_eq_true c98
  clear c98
  by_cases c99:(rdOf ByteArray.empty t374 a0).size + 5 ≤ 9223372036854775807
  rotate_left
  ·rw [if_neg c99] at H
   exact absurd H (by simp)
  rw [if_pos c99] at H
  have c99b0:=eq_true c99
  have c99b1:=decide_eq_true c99
  try have c99b2:(9223372036854775807 < (rdOf ByteArray.empty t374 a0).size + 5) = False:=eq_false (Nat.not_lt.2 c99)
  obtain rfl:=Option.some.inj H
  go_enter Tryz.func103,Tryz.ntmps103
  go_wp2_with (first | ((with_reducible refine gate_dst (N:=12) rfl ?_);refine Kd.R_lit Kd.string _ 9 ?hg (N:=12) ?hd (xs:=([(⟨#[98,99]⟩:ByteArray),(⟨#[100,101]⟩:ByteArray),(⟨#[104,108]⟩:ByteArray),(⟨#[97,102]⟩:ByteArray)]:List ByteArray)) (inner:=[.string (⟨#[98,99]⟩:ByteArray),.string (⟨#[100,101]⟩:ByteArray),.string (⟨#[104,108]⟩:ByteArray),.string (⟨#[97,102]⟩:ByteArray)]) (ok:=fun _ => True) (okp:=fun _ => True) ?hr ?hp (fun _ hk => hk) trivial (Below.refl _ _) (Nat.le_refl _) (by simp) ?_;(case hd => rfl);(case hg => rfl);(case hr => exact q139_);(case hp => exact q127_);intro v338 w100 ho101 hb hg_ hnew_;clear hg_ hnew_;(first | rw [← Ny337.out] at ho101 | (simp only [Int.reduceToNat] at ho101;rw [← Ny337.out] at ho101));have n0_:=Aside0.mk (Kd.R_lower ho101 (below_size q72_));have n1_:=Aside0.mk (below_step q72_ hb);clear HB;have HO339:=n0_;have HB:=n1_;clear n0_ n1_;clear hb ho101) | ((with_reducible refine gate_callee (f:=102) rfl ?_);refine goesL_ (some 87) rfl rfl Tryz.func102 (by kernel_rfl) rfl #[] rfl q71_ ?_;(with_reducible refine (spec_l3Alus.calls  t374 _ A96.out).mono ?_);rintro e w102 ⟨v375,rfl,ho0,hb⟩;refine ⟨_,rfl,?_⟩;have n0_:=Aside0.mk (Kd.R_elder' q100_ (Kd.R_base ho0) hb);have n1_:=Aside0.mk (Kd.R_lower (Kd.R_new' ho0 (Kd.R_lt q100_)) (below_size q72_));have n2_:=Aside0.mk (below_step q72_ hb);clear HO339;clear HB;have HO339:=n0_;have HO376:=n1_;have HB:=n2_;clear n0_ n1_ n2_;(try clear hb);(try clear ho0);obtain ⟨Ao103,co103,eo103⟩:=Kd.R_slice HO376.out;subst eo103;have p377:0 ≤ (a0:Int):=of_decide_eq_true q109_;have q377:a0 < (t374.length:Int):=of_decide_eq_true q109_;obtain ⟨ad377,e377,hx377_0⟩:=Kd.at_string (Kd.R_reads' HO376.out).2.2 a0 p377 q377;cases e377;replace p377:=eq_true p377;replace q377:=eq_true q377))
  go_ret
  exact ⟨q74_,q72_⟩
 rw [if_neg c95] at H
 have c95b0:(a1 == 6) = false:=beq_eq_false_iff_ne.mpr c95
 have c95b1:(a1 != 6) = true:=bne_iff_ne.mpr c95
 replace H:=Option.bind_eq_some_iff.mp H
 obtain ⟨t378,A1040,H⟩:=H
 have A104:=Aside0.mk A1040
 clear A1040
 by_cases c105:4 + t378.size ≤ 9223372036854775807
 rotate_left
 ·rw [if_neg c105] at H
  exact absurd H (by simp)
 rw [if_pos c105] at H
 have c105b0:=eq_true c105
 have c105b1:=decide_eq_true c105
 try have c105b2:(9223372036854775807 < 4 + t378.size) = False:=eq_false (Nat.not_lt.2 c105)
 obtain rfl:=Option.some.inj H
 go_enter Tryz.func103,Tryz.ntmps103
 go_wp2_with (first | ((with_reducible refine gate_dst (N:=12) rfl ?_);refine Kd.R_lit Kd.string _ 9 ?hg (N:=12) ?hd (xs:=([(⟨#[98,99]⟩:ByteArray),(⟨#[100,101]⟩:ByteArray),(⟨#[104,108]⟩:ByteArray),(⟨#[97,102]⟩:ByteArray)]:List ByteArray)) (inner:=[.string (⟨#[98,99]⟩:ByteArray),.string (⟨#[100,101]⟩:ByteArray),.string (⟨#[104,108]⟩:ByteArray),.string (⟨#[97,102]⟩:ByteArray)]) (ok:=fun _ => True) (okp:=fun _ => True) ?hr ?hp (fun _ hk => hk) trivial (Below.refl _ _) (Nat.le_refl _) (by simp) ?_;(case hd => rfl);(case hg => rfl);(case hr => exact q139_);(case hp => exact q127_);intro v338 w106 ho107 hb hg_ hnew_;clear hg_ hnew_;(first | rw [← Ny337.out] at ho107 | (simp only [Int.reduceToNat] at ho107;rw [← Ny337.out] at ho107));have n0_:=Aside0.mk (Kd.R_lower ho107 (below_size q72_));have n1_:=Aside0.mk (below_step q72_ hb);clear HB;have HO339:=n0_;have HB:=n1_;clear n0_ n1_;clear hb ho107) | ((with_reducible refine gate_callee (f:=70) rfl ?_);refine goesL_ (some 94) rfl rfl Tryz.func70 (by kernel_rfl) rfl #[.int .i64 (wrap64 (8 * a0)),.int .i64 2] rfl q30_ ?_;(with_reducible refine (spec_HexOf.calls k (wrap64 (8 * a0)) 2 t378 _ A104.out).mono ?_);rintro e w' ⟨rfl,⟨nd,rfl⟩⟩;refine ⟨_,rfl,?_⟩))
 go_ret
 exact ⟨q74_,q72_⟩
end Go.Proofs.YtodlnnoekccmmaaGreatDoor.QFnInsTexts
