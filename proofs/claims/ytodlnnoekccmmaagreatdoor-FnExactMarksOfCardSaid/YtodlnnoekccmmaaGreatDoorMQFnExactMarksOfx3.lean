/- The machine's side of a law,written by a program of this session for this claim. -/
import Derived.Test.YtodlnnoekccmmaaGreatDoorMQq
import Derived.Test.YtodlnnoekccmmaaGreatDoorMQFnExactMarksOfx0
import Derived.Test.YtodlnnoekccmmaaGreatDoorMQFnExactMarksOfx1
import Derived.Test.YtodlnnoekccmmaaGreatDoorMQFnExactMarksOfx2
namespace Go.Proofs.YtodlnnoekccmmaaGreatDoor.QFnExactMarksOf
open Go.Proofs.YtodlnnoekccmmaaGreatDoor.Qq
open Go.RowKit Go.Proofs.YtodlnnoekccmmaaGreatDoor.LibX Go.Proofs.YtodlnnoekccmmaaGreatDoor.LibE Go.Proofs.YtodlnnoekccmmaaGreatDoor.LibCB Go.Proofs.YtodlnnoekccmmaaGreatDoorW.PrintWords Go.Proofs.YtodlnnoekccmmaaGreatDoorW.PrintLast Go.Proofs.YtodlnnoekccmmaaGreatDoorW.PrintMore
attribute [local go_sem] max2_int min2_int max_two min_two max_three min_three max_four min_four   -- for this text's walks alone
set_option maxHeartbeats 8000000
set_option maxRecDepth 100000
set_option linter.unusedVariables false
set_option linter.unusedSimpArgs false
mutual
def spec_HexOf.j0:Nat → Int → Int → Bool → Option (ByteArray)
 | 0,_,_,_ => none
 | k + 1,x0,x1,x14 => if x14 = true then (some (⟨#[]⟩:ByteArray)) else (spec_HexOf.l0 k x0 x1 (⟨#[]⟩:ByteArray) 0)
def spec_HexOf.l0:Nat → Int → Int → ByteArray → Int → Option (ByteArray)
 | 0,_,_,_,_ => none
 | k + 1,x0,x1,x5,x6 => if x6 < x1 then (if 0 ≤ (Int.tmod x0 16) then (if (Int.tmod x0 16) ≤ (wrap64 ((Int.tmod x0 16) + 1)) then (if (wrap64 ((Int.tmod x0 16) + 1)) ≤ 16 then (if ((⟨#[48,49,50,51,52,53,54,55,56,57,65,66,67,68,69,70]⟩:ByteArray).extract ((Int.tmod x0 16):Int).toNat ((wrap64 ((Int.tmod x0 16) + 1)):Int).toNat).size + x5.size ≤ 9223372036854775807 then (spec_HexOf.l0 k (wrap64 (Int.tdiv x0 16)) x1 (((⟨#[48,49,50,51,52,53,54,55,56,57,65,66,67,68,69,70]⟩:ByteArray).extract ((Int.tmod x0 16):Int).toNat ((wrap64 ((Int.tmod x0 16) + 1)):Int).toNat) ++ x5) (wrap64 (x6 + 1))) else (none)) else (none)) else (none)) else (none)) else (if x0 > 0 then (some (⟨#[]⟩:ByteArray)) else (if 1 + x5.size ≤ 9223372036854775807 then (some ((⟨#[36]⟩:ByteArray) ++ x5)) else (none)))
end
def spec_HexOf.f (k:Nat) (a0:Int) (a1:Int):Option (ByteArray):=(spec_l1In.f a1 1 4).bind fun t174 => (if t174 = true then ((spec_l1In.f a0 0 65535).bind fun t175 => (spec_HexOf.j0 k a0 a1 (!t175))) else (spec_HexOf.j0 k a0 a1 true))
theorem spec_HexOf.mono_l:∀ k,(∀ y0 y1 y2,LeO (spec_HexOf.j0 k y0 y1 y2) (spec_HexOf.j0 (k + 1) y0 y1 y2)) ∧ (∀ y0 y1 y2 y3,LeO (spec_HexOf.l0 k y0 y1 y2 y3) (spec_HexOf.l0 (k + 1) y0 y1 y2 y3))
 | 0 => ⟨fun _ _ _ r h => by simp [spec_HexOf.j0] at h,fun _ _ _ _ r h => by simp [spec_HexOf.l0] at h⟩
 | k + 1 => by
  obtain ⟨ih0,ih1⟩:=spec_HexOf.mono_l k
  refine ⟨?_,?_⟩
  ·intro y0 y1 y2
   unfold spec_HexOf.j0
   repeat' first
   | (with_reducible first | exact ih0 _ _ _ | exact ih1 _ _ _ _ | exact LeO.refl _ | exact LeO.none _ | refine LeO.ite ?_ ?_ | refine LeO.bind ?_ (fun _ => ?_))
   | exact ih0 _ _ _
   | exact ih1 _ _ _ _
   | exact LeO.none _
   | refine LeO.ite ?_ ?_
   | refine LeO.bind ?_ (fun _ => ?_)
  intro y0 y1 y2 y3
  unfold spec_HexOf.l0
  repeat' first
  | (with_reducible first | exact ih0 _ _ _ | exact ih1 _ _ _ _ | exact LeO.refl _ | exact LeO.none _ | refine LeO.ite ?_ ?_ | refine LeO.bind ?_ (fun _ => ?_))
  | exact ih0 _ _ _
  | exact ih1 _ _ _ _
  | exact LeO.none _
  | refine LeO.ite ?_ ?_
  | refine LeO.bind ?_ (fun _ => ?_)
theorem spec_HexOf.mono:∀ a0 a1 k,LeO (spec_HexOf.f k a0 a1) (spec_HexOf.f (k + 1) a0 a1):=by
 intro a0 a1 k
 obtain ⟨ih0,ih1⟩:=spec_HexOf.mono_l k
 unfold spec_HexOf.f
 repeat' first
   | (with_reducible first | exact ih0 _ _ _ | exact ih1 _ _ _ _ | exact LeO.refl _ | exact LeO.none _ | refine LeO.ite ?_ ?_ | refine LeO.bind ?_ (fun _ => ?_))
   | exact ih0 _ _ _
   | exact ih1 _ _ _ _
   | exact LeO.none _
   | refine LeO.ite ?_ ?_
   | refine LeO.bind ?_ (fun _ => ?_)
theorem spec_HexOf.calls (k:Nat) (a0:Int) (a1:Int) (r:ByteArray) (w:World) (h:spec_HexOf.f k a0 a1 = some r) :
  Calls Tryz.prog 70 #[.int .i64 a0,.int .i64 a1] w fun e w' => e = .returned (.string r) ∧ Drawn0 w w':=by
 have H:((spec_l1In.f a1 1 4).bind fun t174 => (if t174 = true then ((spec_l1In.f a0 0 65535).bind fun t175 => (spec_HexOf.j0 k a0 a1 (!t175))) else (spec_HexOf.j0 k a0 a1 true))) = some r:=h
 clear h
 have HC3:=Aside0.mk H
 clear H
 go_enter Tryz.func70,Tryz.ntmps70
 go_upto_region 1 with (fail)
 go_cut [14] (fun v14 wc => ∃ (kq:Nat) (x14_2:Bool),v14 = .bool x14_2 ∧ Aside0 (spec_HexOf.j0 kq a0 a1 x14_2 = some r) ∧ Aside0 (kq ≤ k) ∧ Drawn0 w wc)
 case first =>
  have H:=HC3.out
  clear HC3
  replace H:=Option.bind_eq_some_iff.mp H
  obtain ⟨t174,A40,H⟩:=H
  have A4:=Aside0.mk A40
  clear A40
  by_cases c5:t174 = true
  ·subst c5
   replace H:((spec_l1In.f a0 0 65535).bind fun t175 => (spec_HexOf.j0 k a0 a1 (!t175))) = some r:=by rw [if_pos rfl] at H;exact H
   replace H:=Option.bind_eq_some_iff.mp H
   obtain ⟨t175,A60,H⟩:=H
   have A6:=Aside0.mk A60
   clear A60
   have H':=Aside0.mk H
   clear H
   go_wp2_with (first | ((with_reducible refine gate_callee (f:=51) rfl ?_);refine goesL_ (some 8) rfl rfl Tryz.func51 (by kernel_rfl) rfl #[.int .i64 a1,.int .i64 1,.int .i64 4] rfl q40_ ?_;(with_reducible refine (spec_l1In.calls a1 1 4 true _ A4.out).mono ?_);rintro e w' ⟨rfl,⟨nd,rfl⟩⟩;refine ⟨_,rfl,?_⟩) | (go_at_call 51;(with_reducible refine (spec_l1In.calls a0 0 65535 t175 _ A6.out).mono ?_);rintro e w' ⟨rfl,⟨nd,rfl⟩⟩))
   go_meet
   case rel => exact ⟨_,(!t175),q58_,H',⟨q95_⟩,q81_⟩
  replace c5:=Bool.eq_false_iff.mpr c5
  subst c5
  replace H:(spec_HexOf.j0 k a0 a1 true) = some r:=by rw [if_neg (show ¬ (false = true) by decide)] at H;exact H
  have H':=Aside0.mk H
  clear H
  go_wp2_with (first | ((with_reducible refine gate_callee (f:=51) rfl ?_);refine goesL_ (some 8) rfl rfl Tryz.func51 (by kernel_rfl) rfl #[.int .i64 a1,.int .i64 1,.int .i64 4] rfl q40_ ?_;(with_reducible refine (spec_l1In.calls a1 1 4 false _ A4.out).mono ?_);rintro e w' ⟨rfl,⟨nd,rfl⟩⟩;refine ⟨_,rfl,?_⟩))
  go_meet
  case rel => exact ⟨_,(true),q58_,H',⟨q95_⟩,q81_⟩
 clear HC3
 try clear p2
 try clear c5
 try clear p6
 obtain ⟨kq,x14_2,rfl,HA,HJ2,⟨mc2,rfl⟩⟩:=hcut
 cases kq with
 | zero => exact absurd HA.out (by simp [spec_HexOf.j0])
 | succ kj2 =>
  have H:=HA.out
  clear HA
  simp only [spec_HexOf.j0] at H
  by_cases c7:x14_2 = true
  ·subst c7
   replace H:(some (⟨#[]⟩:ByteArray)) = some r:=by rw [if_pos rfl] at H;exact H
   obtain rfl:=Option.some.inj H
   go_wp2
   go_ret
   exact ⟨q58_,q81_⟩
  replace c7:=Bool.eq_false_iff.mpr c7
  subst c7
  replace H:(spec_HexOf.l0 kj2 a0 a1 (⟨#[]⟩:ByteArray) 0) = some r:=by rw [if_neg (show ¬ (false = true) by decide)] at H;exact H
  have H':=Aside0.mk H
  clear H
  go_wp2
  go_loopg [0,5,6] kj2 (fun kq v0 v5 v6 w' => ∃ (x0_2:Int) (x5_2:ByteArray) (x6_2:Int),v0 = .int .i64 x0_2 ∧ v5 = .string x5_2 ∧ v6 = .int .i64 x6_2 ∧ Aside0 (spec_HexOf.l0 kq x0_2 a1 x5_2 x6_2 = some r) ∧ Aside0 (kq ≤ kj2) ∧ Drawn0 w w')
  case atStart => exact ⟨(a0),((⟨#[]⟩:ByteArray)),(0),q58_,q58_,q58_,H',⟨Nat.le_refl _⟩,q81_⟩
  clear H'
  try clear c2
  try clear p2 p2
  try clear c5
  try clear p6 p6
  try clear c7
  obtain ⟨x0_2,x5_2,x6_2,rfl,rfl,rfl,HA,HK2,⟨m2,rfl⟩⟩:=hrel
  cases gk with
  | zero => exact absurd HA.out (by simp [spec_HexOf.l0])
  | succ k2 =>
   have H:=HA.out
   clear HA
   simp only [spec_HexOf.l0] at H
   by_cases c8:x6_2 < a1
   ·rw [if_pos c8] at H
    have c8b0:decide (x6_2 < a1) = true:=decide_eq_true c8
    clear c8
    obtain ⟨ji9,hji9⟩:∃ j_:Int,(Int.tmod x0_2 16) = j_:=⟨_,rfl⟩
    replace H:(if 0 ≤ (ji9) then (if (ji9) ≤ (wrap64 ((ji9) + 1)) then (if (wrap64 ((ji9) + 1)) ≤ 16 then (if ((⟨#[48,49,50,51,52,53,54,55,56,57,65,66,67,68,69,70]⟩:ByteArray).extract ((ji9):Int).toNat ((wrap64 ((ji9) + 1)):Int).toNat).size + x5_2.size ≤ 9223372036854775807 then (spec_HexOf.l0 k2 (wrap64 (Int.tdiv x0_2 16)) a1 (((⟨#[48,49,50,51,52,53,54,55,56,57,65,66,67,68,69,70]⟩:ByteArray).extract ((ji9):Int).toNat ((wrap64 ((ji9) + 1)):Int).toNat) ++ x5_2) (wrap64 (x6_2 + 1))) else (none)) else (none)) else (none)) else (none)) = some r:=by first | (rw [hji9] at H;exact H) | (simp only [hji9] at H ⊢;exact H)
    by_cases c10:0 ≤ (ji9)
    rotate_left
    ·rw [if_neg c10] at H
     exact absurd H (by simp)
    rw [if_pos c10] at H
    have c10b0:=eq_true c10
    have c10b1:decide (0 ≤ (ji9)) = true:=decide_eq_true c10
    clear c10
    by_cases c11:(ji9) ≤ (wrap64 ((ji9) + 1))
    rotate_left
    ·rw [if_neg c11] at H
     exact absurd H (by simp)
    rw [if_pos c11] at H
    have c11b0:=eq_true c11
    have c11b1:decide ((ji9) ≤ (wrap64 ((ji9) + 1))) = true:=decide_eq_true c11
    by_cases c12:(wrap64 ((ji9) + 1)) ≤ 16
    rotate_left
    ·rw [if_neg c12] at H
     exact absurd H (by simp)
    rw [if_pos c12] at H
    have c12b0:=eq_true c12
    have c12b1:decide ((wrap64 ((ji9) + 1)) ≤ 16) = true:=decide_eq_true c12
    by_cases c13:((⟨#[48,49,50,51,52,53,54,55,56,57,65,66,67,68,69,70]⟩:ByteArray).extract ((ji9):Int).toNat ((wrap64 ((ji9) + 1)):Int).toNat).size + x5_2.size ≤ 9223372036854775807
    rotate_left
    ·rw [if_neg c13] at H
     exact absurd H (by simp)
    rw [if_pos c13] at H
    have c13b0:=eq_true c13
    (try (have c13b0e:=c13b0;simp only [ByteArray.size_append,ByteArray.size_extract,Nat.min_self,Nat.sub_zero,show (⟨#[48,49,50,51,52,53,54,55,56,57,65,66,67,68,69,70]⟩:ByteArray).size = 16 from rfl] at c13b0e))
    have c13b1:decide (((⟨#[48,49,50,51,52,53,54,55,56,57,65,66,67,68,69,70]⟩:ByteArray).extract ((ji9):Int).toNat ((wrap64 ((ji9) + 1)):Int).toNat).size + x5_2.size ≤ 9223372036854775807) = true:=decide_eq_true c13
    (try (have c13b1e:=c13b1;simp only [ByteArray.size_append,ByteArray.size_extract,Nat.min_self,Nat.sub_zero,show (⟨#[48,49,50,51,52,53,54,55,56,57,65,66,67,68,69,70]⟩:ByteArray).size = 16 from rfl] at c13b1e))
    try have c13b2:(9223372036854775807 < ((⟨#[48,49,50,51,52,53,54,55,56,57,65,66,67,68,69,70]⟩:ByteArray).extract ((ji9):Int).toNat ((wrap64 ((ji9) + 1)):Int).toNat).size + x5_2.size) = False:=eq_false (Nat.not_lt.2 c13)
    (try (have c13b2e:=c13b2;simp only [ByteArray.size_append,ByteArray.size_extract,Nat.min_self,Nat.sub_zero,show (⟨#[48,49,50,51,52,53,54,55,56,57,65,66,67,68,69,70]⟩:ByteArray).size = 16 from rfl] at c13b2e))
    (try (first | (have c13b2p:=eq_true (of_decide_eq_true c13b2e)) | (have c13b2p:=eq_false (of_decide_eq_false c13b2e))))
    have H':=Aside0.mk H
    clear H
    go_wp2
    go_roundg k2
    case measure => have:=HJ2.out;have:=HK2.out;omega
    case rel => exact ⟨(wrap64 (Int.tdiv x0_2 16)),(((⟨#[48,49,50,51,52,53,54,55,56,57,65,66,67,68,69,70]⟩:ByteArray).extract ((ji9):Int).toNat ((wrap64 ((ji9) + 1)):Int).toNat) ++ x5_2),(wrap64 (x6_2 + 1)),q58_,(by first | rfl | (simp;done) | (simp only [← hji9] <;> (first | rfl | simp)) | (simp [*];done) | (simp;decide +kernel) | (simp [wrap64];done) | (simp [bne];done)),q58_,(by first | with_reducible exact H' | (have H2_:=H';simp only [← hji9] at H2_ ⊢;with_reducible exact H2_) | exact H'),⟨by have:=HJ2.out;have:=HK2.out;omega⟩,q81_⟩
   rw [if_neg c8] at H
   have c8b0:decide (x6_2 < a1) = false:=decide_eq_false c8
   clear c8
   by_cases c14:x0_2 > 0
   ·rw [if_pos c14] at H
    have c14b0:decide (0 < x0_2) = true:=decide_eq_true c14
    clear c14
    obtain rfl:=Option.some.inj H
    go_wp2
    go_ret
    exact ⟨q58_,q81_⟩
   rw [if_neg c14] at H
   have c14b0:decide (0 < x0_2) = false:=decide_eq_false c14
   clear c14
   by_cases c15:1 + x5_2.size ≤ 9223372036854775807
   rotate_left
   ·rw [if_neg c15] at H
    exact absurd H (by simp)
   rw [if_pos c15] at H
   have c15b0:=eq_true c15
   have c15b1:decide (1 + x5_2.size ≤ 9223372036854775807) = true:=decide_eq_true c15
   try have c15b2:(9223372036854775807 < 1 + x5_2.size) = False:=eq_false (Nat.not_lt.2 c15)
   obtain rfl:=Option.some.inj H
   go_wp2
   go_ret
   exact ⟨q58_,q81_⟩
def spec_l3Top.f (k:Nat) (a0:Int) (a1:Int):Option (ByteArray):=(some (([(⟨#[98,99]⟩:ByteArray),(⟨#[100,101]⟩:ByteArray),(⟨#[104,108]⟩:ByteArray),(⟨#[97,102]⟩:ByteArray)]:List ByteArray):List ByteArray)).bind fun y176 => (if a1 = 0 then (if a0 < 4 then ((spec_l3Conds.f).bind fun t179 => (if 0 ≤ a0 then (if a0 < (t179.length:Int) then (if 4 + (rdOf ByteArray.empty t179 a0).size ≤ 9223372036854775807 then (some ((⟨#[114,101,116,32]⟩:ByteArray) ++ (rdOf ByteArray.empty t179 a0))) else (none)) else (none)) else (none))) else ((some (([(⟨#[108,100,104,32,91,110,56,93,44,97]⟩:ByteArray),(⟨#[97,100,100,32,115,112,44,101,56]⟩:ByteArray),(⟨#[108,100,104,32,97,44,91,110,56,93]⟩:ByteArray),(⟨#[108,100,32,104,108,44,115,112,43,101,56]⟩:ByteArray)]:List ByteArray):List ByteArray)).bind fun y183 => (if 0 ≤ (wrap64 (a0 - 4)) then (if (wrap64 (a0 - 4)) < (y183.length:Int) then (some (rdOf ByteArray.empty y183 (wrap64 (a0 - 4)))) else (none)) else (none)))) else (if a1 = 1 then (if (Int.tmod a0 2) = 0 then (if 0 ≤ (wrap64 (Int.tdiv a0 2)) then (if (wrap64 (Int.tdiv a0 2)) < (y176.length:Int) then (if 4 + (rdOf ByteArray.empty y176 (wrap64 (Int.tdiv a0 2))).size ≤ 9223372036854775807 then (some ((⟨#[112,111,112,32]⟩:ByteArray) ++ (rdOf ByteArray.empty y176 (wrap64 (Int.tdiv a0 2))))) else (none)) else (none)) else (none)) else ((some (([(⟨#[114,101,116]⟩:ByteArray),(⟨#[114,101,116,105]⟩:ByteArray),(⟨#[106,112,32,104,108]⟩:ByteArray),(⟨#[108,100,32,115,112,44,104,108]⟩:ByteArray)]:List ByteArray):List ByteArray)).bind fun y188 => (if 0 ≤ (wrap64 (Int.tdiv a0 2)) then (if (wrap64 (Int.tdiv a0 2)) < (y188.length:Int) then (some (rdOf ByteArray.empty y188 (wrap64 (Int.tdiv a0 2)))) else (none)) else (none)))) else (if a1 = 2 then (if a0 < 4 then ((spec_l3Conds.f).bind fun t192 => (if 0 ≤ a0 then (if a0 < (t192.length:Int) then (if 3 + (rdOf ByteArray.empty t192 a0).size ≤ 9223372036854775807 then (if ((⟨#[106,112,32]⟩:ByteArray) ++ (rdOf ByteArray.empty t192 a0)).size + 4 ≤ 9223372036854775807 then (some (((⟨#[106,112,32]⟩:ByteArray) ++ (rdOf ByteArray.empty t192 a0)) ++ (⟨#[44,110,49,54]⟩:ByteArray))) else (none)) else (none)) else (none)) else (none))) else ((some (([(⟨#[108,100,104,32,91,99,93,44,97]⟩:ByteArray),(⟨#[108,100,32,91,110,49,54,93,44,97]⟩:ByteArray),(⟨#[108,100,104,32,97,44,91,99,93]⟩:ByteArray),(⟨#[108,100,32,97,44,91,110,49,54,93]⟩:ByteArray)]:List ByteArray):List ByteArray)).bind fun y196 => (if 0 ≤ (wrap64 (a0 - 4)) then (if (wrap64 (a0 - 4)) < (y196.length:Int) then (some (rdOf ByteArray.empty y196 (wrap64 (a0 - 4)))) else (none)) else (none)))) else (if a1 = 3 then ((some (([(⟨#[106,112,32,110,49,54]⟩:ByteArray),(⟨#[]⟩:ByteArray),(⟨#[]⟩:ByteArray),(⟨#[]⟩:ByteArray),(⟨#[]⟩:ByteArray),(⟨#[]⟩:ByteArray),(⟨#[100,105]⟩:ByteArray),(⟨#[101,105]⟩:ByteArray)]:List ByteArray):List ByteArray)).bind fun y200 => (if 0 ≤ a0 then (if a0 < (y200.length:Int) then (some (rdOf ByteArray.empty y200 a0)) else (none)) else (none))) else (if a1 = 4 then (if a0 < 4 then ((spec_l3Conds.f).bind fun t204 => (if 0 ≤ a0 then (if a0 < (t204.length:Int) then (if 5 + (rdOf ByteArray.empty t204 a0).size ≤ 9223372036854775807 then (if ((⟨#[99,97,108,108,32]⟩:ByteArray) ++ (rdOf ByteArray.empty t204 a0)).size + 4 ≤ 9223372036854775807 then (some (((⟨#[99,97,108,108,32]⟩:ByteArray) ++ (rdOf ByteArray.empty t204 a0)) ++ (⟨#[44,110,49,54]⟩:ByteArray))) else (none)) else (none)) else (none)) else (none))) else (some (⟨#[]⟩:ByteArray))) else (if a1 = 5 then (if (Int.tmod a0 2) = 0 then (if 0 ≤ (wrap64 (Int.tdiv a0 2)) then (if (wrap64 (Int.tdiv a0 2)) < (y176.length:Int) then (if 5 + (rdOf ByteArray.empty y176 (wrap64 (Int.tdiv a0 2))).size ≤ 9223372036854775807 then (some ((⟨#[112,117,115,104,32]⟩:ByteArray) ++ (rdOf ByteArray.empty y176 (wrap64 (Int.tdiv a0 2))))) else (none)) else (none)) else (none)) else ((some (([(⟨#[99,97,108,108,32,110,49,54]⟩:ByteArray),(⟨#[]⟩:ByteArray),(⟨#[]⟩:ByteArray),(⟨#[]⟩:ByteArray)]:List ByteArray):List ByteArray)).bind fun y209 => (if 0 ≤ (wrap64 (Int.tdiv a0 2)) then (if (wrap64 (Int.tdiv a0 2)) < (y209.length:Int) then (some (rdOf ByteArray.empty y209 (wrap64 (Int.tdiv a0 2)))) else (none)) else (none)))) else (if a1 = 6 then ((spec_l3Alus.f).bind fun t213 => (if 0 ≤ a0 then (if a0 < (t213.length:Int) then (if (rdOf ByteArray.empty t213 a0).size + 5 ≤ 9223372036854775807 then (some ((rdOf ByteArray.empty t213 a0) ++ (⟨#[32,97,44,110,56]⟩:ByteArray))) else (none)) else (none)) else (none))) else ((spec_HexOf.f k (wrap64 (8 * a0)) 2).bind fun t217 => (if 4 + t217.size ≤ 9223372036854775807 then (some ((⟨#[114,115,116,32]⟩:ByteArray) ++ t217)) else (none))))))))))
theorem spec_l3Top.mono:∀ a0 a1 k,LeO (spec_l3Top.f k a0 a1) (spec_l3Top.f (k + 1) a0 a1):=by
 intro a0 a1 k
 unfold spec_l3Top.f
 repeat' first
   | (with_reducible first | exact spec_HexOf.mono _ _ _ | exact LeO.refl _ | exact LeO.none _ | refine LeO.ite ?_ ?_ | refine LeO.bind ?_ (fun _ => ?_))
   | exact spec_HexOf.mono _ _ _
   | exact LeO.none _
   | refine LeO.ite ?_ ?_
   | refine LeO.bind ?_ (fun _ => ?_)
theorem spec_l3Top.calls (k:Nat) (a0:Int) (a1:Int) (r:ByteArray) (w:World) (h:spec_l3Top.f k a0 a1 = some r) :
  Calls Tryz.prog 103 #[.int .i64 a0,.int .i64 a1] w fun e w' => e = .returned (.string r) ∧ Below w.heap.size w w':=by
 have HB:=Aside0.mk (Below.refl w.heap.size w)
 have H:((some (([(⟨#[98,99]⟩:ByteArray),(⟨#[100,101]⟩:ByteArray),(⟨#[104,108]⟩:ByteArray),(⟨#[97,102]⟩:ByteArray)]:List ByteArray):List ByteArray)).bind fun y176 => (if a1 = 0 then (if a0 < 4 then ((spec_l3Conds.f).bind fun t179 => (if 0 ≤ a0 then (if a0 < (t179.length:Int) then (if 4 + (rdOf ByteArray.empty t179 a0).size ≤ 9223372036854775807 then (some ((⟨#[114,101,116,32]⟩:ByteArray) ++ (rdOf ByteArray.empty t179 a0))) else (none)) else (none)) else (none))) else ((some (([(⟨#[108,100,104,32,91,110,56,93,44,97]⟩:ByteArray),(⟨#[97,100,100,32,115,112,44,101,56]⟩:ByteArray),(⟨#[108,100,104,32,97,44,91,110,56,93]⟩:ByteArray),(⟨#[108,100,32,104,108,44,115,112,43,101,56]⟩:ByteArray)]:List ByteArray):List ByteArray)).bind fun y183 => (if 0 ≤ (wrap64 (a0 - 4)) then (if (wrap64 (a0 - 4)) < (y183.length:Int) then (some (rdOf ByteArray.empty y183 (wrap64 (a0 - 4)))) else (none)) else (none)))) else (if a1 = 1 then (if (Int.tmod a0 2) = 0 then (if 0 ≤ (wrap64 (Int.tdiv a0 2)) then (if (wrap64 (Int.tdiv a0 2)) < (y176.length:Int) then (if 4 + (rdOf ByteArray.empty y176 (wrap64 (Int.tdiv a0 2))).size ≤ 9223372036854775807 then (some ((⟨#[112,111,112,32]⟩:ByteArray) ++ (rdOf ByteArray.empty y176 (wrap64 (Int.tdiv a0 2))))) else (none)) else (none)) else (none)) else ((some (([(⟨#[114,101,116]⟩:ByteArray),(⟨#[114,101,116,105]⟩:ByteArray),(⟨#[106,112,32,104,108]⟩:ByteArray),(⟨#[108,100,32,115,112,44,104,108]⟩:ByteArray)]:List ByteArray):List ByteArray)).bind fun y188 => (if 0 ≤ (wrap64 (Int.tdiv a0 2)) then (if (wrap64 (Int.tdiv a0 2)) < (y188.length:Int) then (some (rdOf ByteArray.empty y188 (wrap64 (Int.tdiv a0 2)))) else (none)) else (none)))) else (if a1 = 2 then (if a0 < 4 then ((spec_l3Conds.f).bind fun t192 => (if 0 ≤ a0 then (if a0 < (t192.length:Int) then (if 3 + (rdOf ByteArray.empty t192 a0).size ≤ 9223372036854775807 then (if ((⟨#[106,112,32]⟩:ByteArray) ++ (rdOf ByteArray.empty t192 a0)).size + 4 ≤ 9223372036854775807 then (some (((⟨#[106,112,32]⟩:ByteArray) ++ (rdOf ByteArray.empty t192 a0)) ++ (⟨#[44,110,49,54]⟩:ByteArray))) else (none)) else (none)) else (none)) else (none))) else ((some (([(⟨#[108,100,104,32,91,99,93,44,97]⟩:ByteArray),(⟨#[108,100,32,91,110,49,54,93,44,97]⟩:ByteArray),(⟨#[108,100,104,32,97,44,91,99,93]⟩:ByteArray),(⟨#[108,100,32,97,44,91,110,49,54,93]⟩:ByteArray)]:List ByteArray):List ByteArray)).bind fun y196 => (if 0 ≤ (wrap64 (a0 - 4)) then (if (wrap64 (a0 - 4)) < (y196.length:Int) then (some (rdOf ByteArray.empty y196 (wrap64 (a0 - 4)))) else (none)) else (none)))) else (if a1 = 3 then ((some (([(⟨#[106,112,32,110,49,54]⟩:ByteArray),(⟨#[]⟩:ByteArray),(⟨#[]⟩:ByteArray),(⟨#[]⟩:ByteArray),(⟨#[]⟩:ByteArray),(⟨#[]⟩:ByteArray),(⟨#[100,105]⟩:ByteArray),(⟨#[101,105]⟩:ByteArray)]:List ByteArray):List ByteArray)).bind fun y200 => (if 0 ≤ a0 then (if a0 < (y200.length:Int) then (some (rdOf ByteArray.empty y200 a0)) else (none)) else (none))) else (if a1 = 4 then (if a0 < 4 then ((spec_l3Conds.f).bind fun t204 => (if 0 ≤ a0 then (if a0 < (t204.length:Int) then (if 5 + (rdOf ByteArray.empty t204 a0).size ≤ 9223372036854775807 then (if ((⟨#[99,97,108,108,32]⟩:ByteArray) ++ (rdOf ByteArray.empty t204 a0)).size + 4 ≤ 9223372036854775807 then (some (((⟨#[99,97,108,108,32]⟩:ByteArray) ++ (rdOf ByteArray.empty t204 a0)) ++ (⟨#[44,110,49,54]⟩:ByteArray))) else (none)) else (none)) else (none)) else (none))) else (some (⟨#[]⟩:ByteArray))) else (if a1 = 5 then (if (Int.tmod a0 2) = 0 then (if 0 ≤ (wrap64 (Int.tdiv a0 2)) then (if (wrap64 (Int.tdiv a0 2)) < (y176.length:Int) then (if 5 + (rdOf ByteArray.empty y176 (wrap64 (Int.tdiv a0 2))).size ≤ 9223372036854775807 then (some ((⟨#[112,117,115,104,32]⟩:ByteArray) ++ (rdOf ByteArray.empty y176 (wrap64 (Int.tdiv a0 2))))) else (none)) else (none)) else (none)) else ((some (([(⟨#[99,97,108,108,32,110,49,54]⟩:ByteArray),(⟨#[]⟩:ByteArray),(⟨#[]⟩:ByteArray),(⟨#[]⟩:ByteArray)]:List ByteArray):List ByteArray)).bind fun y209 => (if 0 ≤ (wrap64 (Int.tdiv a0 2)) then (if (wrap64 (Int.tdiv a0 2)) < (y209.length:Int) then (some (rdOf ByteArray.empty y209 (wrap64 (Int.tdiv a0 2)))) else (none)) else (none)))) else (if a1 = 6 then ((spec_l3Alus.f).bind fun t213 => (if 0 ≤ a0 then (if a0 < (t213.length:Int) then (if (rdOf ByteArray.empty t213 a0).size + 5 ≤ 9223372036854775807 then (some ((rdOf ByteArray.empty t213 a0) ++ (⟨#[32,97,44,110,56]⟩:ByteArray))) else (none)) else (none)) else (none))) else ((spec_HexOf.f k (wrap64 (8 * a0)) 2).bind fun t217 => (if 4 + t217.size ≤ 9223372036854775807 then (some ((⟨#[114,115,116,32]⟩:ByteArray) ++ t217)) else (none))))))))))) = some r:=h
 clear h
 obtain ⟨y176,hy176⟩:∃ y_:List ByteArray,y_ = (([(⟨#[98,99]⟩:ByteArray),(⟨#[100,101]⟩:ByteArray),(⟨#[104,108]⟩:ByteArray),(⟨#[97,102]⟩:ByteArray)]:List ByteArray)):=⟨_,rfl⟩
 replace H:(if a1 = 0 then (if a0 < 4 then ((spec_l3Conds.f).bind fun t179 => (if 0 ≤ a0 then (if a0 < (t179.length:Int) then (if 4 + (rdOf ByteArray.empty t179 a0).size ≤ 9223372036854775807 then (some ((⟨#[114,101,116,32]⟩:ByteArray) ++ (rdOf ByteArray.empty t179 a0))) else (none)) else (none)) else (none))) else ((some (([(⟨#[108,100,104,32,91,110,56,93,44,97]⟩:ByteArray),(⟨#[97,100,100,32,115,112,44,101,56]⟩:ByteArray),(⟨#[108,100,104,32,97,44,91,110,56,93]⟩:ByteArray),(⟨#[108,100,32,104,108,44,115,112,43,101,56]⟩:ByteArray)]:List ByteArray):List ByteArray)).bind fun y183 => (if 0 ≤ (wrap64 (a0 - 4)) then (if (wrap64 (a0 - 4)) < (y183.length:Int) then (some (rdOf ByteArray.empty y183 (wrap64 (a0 - 4)))) else (none)) else (none)))) else (if a1 = 1 then (if (Int.tmod a0 2) = 0 then (if 0 ≤ (wrap64 (Int.tdiv a0 2)) then (if (wrap64 (Int.tdiv a0 2)) < (y176.length:Int) then (if 4 + (rdOf ByteArray.empty y176 (wrap64 (Int.tdiv a0 2))).size ≤ 9223372036854775807 then (some ((⟨#[112,111,112,32]⟩:ByteArray) ++ (rdOf ByteArray.empty y176 (wrap64 (Int.tdiv a0 2))))) else (none)) else (none)) else (none)) else ((some (([(⟨#[114,101,116]⟩:ByteArray),(⟨#[114,101,116,105]⟩:ByteArray),(⟨#[106,112,32,104,108]⟩:ByteArray),(⟨#[108,100,32,115,112,44,104,108]⟩:ByteArray)]:List ByteArray):List ByteArray)).bind fun y188 => (if 0 ≤ (wrap64 (Int.tdiv a0 2)) then (if (wrap64 (Int.tdiv a0 2)) < (y188.length:Int) then (some (rdOf ByteArray.empty y188 (wrap64 (Int.tdiv a0 2)))) else (none)) else (none)))) else (if a1 = 2 then (if a0 < 4 then ((spec_l3Conds.f).bind fun t192 => (if 0 ≤ a0 then (if a0 < (t192.length:Int) then (if 3 + (rdOf ByteArray.empty t192 a0).size ≤ 9223372036854775807 then (if ((⟨#[106,112,32]⟩:ByteArray) ++ (rdOf ByteArray.empty t192 a0)).size + 4 ≤ 9223372036854775807 then (some (((⟨#[106,112,32]⟩:ByteArray) ++ (rdOf ByteArray.empty t192 a0)) ++ (⟨#[44,110,49,54]⟩:ByteArray))) else (none)) else (none)) else (none)) else (none))) else ((some (([(⟨#[108,100,104,32,91,99,93,44,97]⟩:ByteArray),(⟨#[108,100,32,91,110,49,54,93,44,97]⟩:ByteArray),(⟨#[108,100,104,32,97,44,91,99,93]⟩:ByteArray),(⟨#[108,100,32,97,44,91,110,49,54,93]⟩:ByteArray)]:List ByteArray):List ByteArray)).bind fun y196 => (if 0 ≤ (wrap64 (a0 - 4)) then (if (wrap64 (a0 - 4)) < (y196.length:Int) then (some (rdOf ByteArray.empty y196 (wrap64 (a0 - 4)))) else (none)) else (none)))) else (if a1 = 3 then ((some (([(⟨#[106,112,32,110,49,54]⟩:ByteArray),(⟨#[]⟩:ByteArray),(⟨#[]⟩:ByteArray),(⟨#[]⟩:ByteArray),(⟨#[]⟩:ByteArray),(⟨#[]⟩:ByteArray),(⟨#[100,105]⟩:ByteArray),(⟨#[101,105]⟩:ByteArray)]:List ByteArray):List ByteArray)).bind fun y200 => (if 0 ≤ a0 then (if a0 < (y200.length:Int) then (some (rdOf ByteArray.empty y200 a0)) else (none)) else (none))) else (if a1 = 4 then (if a0 < 4 then ((spec_l3Conds.f).bind fun t204 => (if 0 ≤ a0 then (if a0 < (t204.length:Int) then (if 5 + (rdOf ByteArray.empty t204 a0).size ≤ 9223372036854775807 then (if ((⟨#[99,97,108,108,32]⟩:ByteArray) ++ (rdOf ByteArray.empty t204 a0)).size + 4 ≤ 9223372036854775807 then (some (((⟨#[99,97,108,108,32]⟩:ByteArray) ++ (rdOf ByteArray.empty t204 a0)) ++ (⟨#[44,110,49,54]⟩:ByteArray))) else (none)) else (none)) else (none)) else (none))) else (some (⟨#[]⟩:ByteArray))) else (if a1 = 5 then (if (Int.tmod a0 2) = 0 then (if 0 ≤ (wrap64 (Int.tdiv a0 2)) then (if (wrap64 (Int.tdiv a0 2)) < (y176.length:Int) then (if 5 + (rdOf ByteArray.empty y176 (wrap64 (Int.tdiv a0 2))).size ≤ 9223372036854775807 then (some ((⟨#[112,117,115,104,32]⟩:ByteArray) ++ (rdOf ByteArray.empty y176 (wrap64 (Int.tdiv a0 2))))) else (none)) else (none)) else (none)) else ((some (([(⟨#[99,97,108,108,32,110,49,54]⟩:ByteArray),(⟨#[]⟩:ByteArray),(⟨#[]⟩:ByteArray),(⟨#[]⟩:ByteArray)]:List ByteArray):List ByteArray)).bind fun y209 => (if 0 ≤ (wrap64 (Int.tdiv a0 2)) then (if (wrap64 (Int.tdiv a0 2)) < (y209.length:Int) then (some (rdOf ByteArray.empty y209 (wrap64 (Int.tdiv a0 2)))) else (none)) else (none)))) else (if a1 = 6 then ((spec_l3Alus.f).bind fun t213 => (if 0 ≤ a0 then (if a0 < (t213.length:Int) then (if (rdOf ByteArray.empty t213 a0).size + 5 ≤ 9223372036854775807 then (some ((rdOf ByteArray.empty t213 a0) ++ (⟨#[32,97,44,110,56]⟩:ByteArray))) else (none)) else (none)) else (none))) else ((spec_HexOf.f k (wrap64 (8 * a0)) 2).bind fun t217 => (if 4 + t217.size ≤ 9223372036854775807 then (some ((⟨#[114,115,116,32]⟩:ByteArray) ++ t217)) else (none)))))))))) = some r:=by first | (rw [hy176];with_reducible exact H) | (have H2_:=(Option.bind_some _ _).symm.trans H;rw [hy176];with_reducible exact H2_) | (have H2_:=(Option.bind_some _ _).symm.trans H;with_reducible exact H2_) | with_reducible exact H | (rw [hy176];exact H) | exact H
 have Ny176:=Aside0.mk hy176
 clear hy176
 by_cases c3:a1 = 0
 ·rw [if_pos c3] at H
  have c3b0:(a1 == 0) = true:=beq_iff_eq.mpr c3
  have c3b1:(a1 != 0) = false:=bne_eq_false_iff_eq.mpr c3
  clear c3
  by_cases c4:a0 < 4
  ·rw [if_pos c4] at H
   have c4b0:decide (a0 < 4) = true:=decide_eq_true c4
   clear c4
   replace H:=Option.bind_eq_some_iff.mp H
   obtain ⟨t179,A50,H⟩:=H
   have A5:=Aside0.mk A50
   clear A50
   by_cases c6:0 ≤ a0
   rotate_left
   ·rw [if_neg c6] at H
    exact absurd H (by simp)
   rw [if_pos c6] at H
   have c6b0:decide (0 ≤ a0) = true:=decide_eq_true c6
   clear c6
   by_cases c7:a0 < (t179.length:Int)
   rotate_left
   ·rw [if_neg c7] at H
    exact absurd H (by simp)
   rw [if_pos c7] at H
   have c7b0:decide (a0 < (t179.length:Int)) = true:=decide_eq_true c7
   clear c7
   by_cases c8:4 + (rdOf ByteArray.empty t179 a0).size ≤ 9223372036854775807
   rotate_left
   ·rw [if_neg c8] at H
    exact absurd H (by simp)
   rw [if_pos c8] at H
   have c8b0:=eq_true c8
   have c8b1:decide (4 + (rdOf ByteArray.empty t179 a0).size ≤ 9223372036854775807) = true:=decide_eq_true c8
   try have c8b2:(9223372036854775807 < 4 + (rdOf ByteArray.empty t179 a0).size) = False:=eq_false (Nat.not_lt.2 c8)
   obtain rfl:=Option.some.inj H
   go_enter Tryz.func103,Tryz.ntmps103
   go_wp2_with (first | ((with_reducible refine gate_dst (N:=12) rfl ?_);refine Kd.R_lit Kd.string _ 9 ?hg (N:=12) ?hd (xs:=([(⟨#[98,99]⟩:ByteArray),(⟨#[100,101]⟩:ByteArray),(⟨#[104,108]⟩:ByteArray),(⟨#[97,102]⟩:ByteArray)]:List ByteArray)) (inner:=[.string (⟨#[98,99]⟩:ByteArray),.string (⟨#[100,101]⟩:ByteArray),.string (⟨#[104,108]⟩:ByteArray),.string (⟨#[97,102]⟩:ByteArray)]) (ok:=fun _ => True) (okp:=fun _ => True) ?hr ?hp (fun _ hk => hk) trivial (Below.refl _ _) (Nat.le_refl _) (by simp) ?_;(case hd => rfl);(case hg => rfl);(case hr => exact q108_);(case hp => exact q101_);intro v177 w9 ho10 hb hg_ hnew_;clear hg_ hnew_;(first | rw [← Ny176.out] at ho10 | (simp only [Int.reduceToNat] at ho10;rw [← Ny176.out] at ho10));have n0_:=Aside0.mk (Kd.R_lower ho10 (below_size q42_));have n1_:=Aside0.mk (below_step q42_ hb);clear HB;have HO178:=n0_;have HB:=n1_;clear n0_ n1_;clear hb ho10) | ((with_reducible refine gate_callee (f:=132) rfl ?_);refine goesL_ (some 18) rfl rfl Tryz.func132 (by kernel_rfl) rfl #[] rfl q40_ ?_;(with_reducible refine (spec_l3Conds.calls  t179 _ A5.out).mono ?_);rintro e w11 ⟨v180,rfl,ho0,hb⟩;refine ⟨_,rfl,?_⟩;have n0_:=Aside0.mk (Kd.R_elder' q60_ (Kd.R_base ho0) hb);have n1_:=Aside0.mk (Kd.R_lower (Kd.R_new' ho0 (Kd.R_lt q60_)) (below_size q42_));have n2_:=Aside0.mk (below_step q42_ hb);clear HO178;clear HB;have HO178:=n0_;have HO181:=n1_;have HB:=n2_;clear n0_ n1_ n2_;(try clear hb);(try clear ho0);obtain ⟨Ao12,co12,eo12⟩:=Kd.R_slice HO181.out;subst eo12;have p182:0 ≤ (a0:Int):=of_decide_eq_true q83_;have q182:a0 < (t179.length:Int):=of_decide_eq_true q83_;obtain ⟨ad182,e182,hx182_0⟩:=Kd.at_string (Kd.R_reads' HO181.out).2.2 a0 p182 q182;cases e182;replace p182:=eq_true p182;replace q182:=eq_true q182))
   go_ret
   exact ⟨q47_,q42_⟩
  rw [if_neg c4] at H
  have c4b0:decide (a0 < 4) = false:=decide_eq_false c4
  clear c4
  obtain ⟨y183,hy183⟩:∃ y_:List ByteArray,y_ = (([(⟨#[108,100,104,32,91,110,56,93,44,97]⟩:ByteArray),(⟨#[97,100,100,32,115,112,44,101,56]⟩:ByteArray),(⟨#[108,100,104,32,97,44,91,110,56,93]⟩:ByteArray),(⟨#[108,100,32,104,108,44,115,112,43,101,56]⟩:ByteArray)]:List ByteArray)):=⟨_,rfl⟩
  replace H:(if 0 ≤ (wrap64 (a0 - 4)) then (if (wrap64 (a0 - 4)) < (y183.length:Int) then (some (rdOf ByteArray.empty y183 (wrap64 (a0 - 4)))) else (none)) else (none)) = some r:=by first | (rw [hy183];with_reducible exact H) | (have H2_:=(Option.bind_some _ _).symm.trans H;rw [hy183];with_reducible exact H2_) | (have H2_:=(Option.bind_some _ _).symm.trans H;with_reducible exact H2_) | with_reducible exact H | (rw [hy183];exact H) | exact H
  have Ny183:=Aside0.mk hy183
  clear hy183
  obtain ⟨ji13,hji13⟩:∃ j_:Int,(wrap64 (a0 - 4)) = j_:=⟨_,rfl⟩
  replace H:(if 0 ≤ (ji13) then (if (ji13) < (y183.length:Int) then (some (rdOf ByteArray.empty y183 (ji13))) else (none)) else (none)) = some r:=by first | (rw [hji13] at H;exact H) | (simp only [hji13] at H ⊢;exact H)
  have hji13w:(IntKind.i64.wrap (a0 - 4)) = ji13:=(i64_w _).trans hji13
  by_cases c14:0 ≤ (ji13)
  rotate_left
  ·rw [if_neg c14] at H
   exact absurd H (by simp)
  rw [if_pos c14] at H
  have c14b0:decide (0 ≤ (ji13)) = true:=decide_eq_true c14
  clear c14
  by_cases c15:(ji13) < (y183.length:Int)
  rotate_left
  ·rw [if_neg c15] at H
   exact absurd H (by simp)
  rw [if_pos c15] at H
  have c15b0:decide ((ji13) < (y183.length:Int)) = true:=decide_eq_true c15
  clear c15
  obtain rfl:=Option.some.inj H
  go_enter Tryz.func103,Tryz.ntmps103
  go_wp2_with (first | ((with_reducible refine gate_dst (N:=12) rfl ?_);refine Kd.R_lit Kd.string _ 9 ?hg (N:=12) ?hd (xs:=([(⟨#[98,99]⟩:ByteArray),(⟨#[100,101]⟩:ByteArray),(⟨#[104,108]⟩:ByteArray),(⟨#[97,102]⟩:ByteArray)]:List ByteArray)) (inner:=[.string (⟨#[98,99]⟩:ByteArray),.string (⟨#[100,101]⟩:ByteArray),.string (⟨#[104,108]⟩:ByteArray),.string (⟨#[97,102]⟩:ByteArray)]) (ok:=fun _ => True) (okp:=fun _ => True) ?hr ?hp (fun _ hk => hk) trivial (Below.refl _ _) (Nat.le_refl _) (by simp) ?_;(case hd => rfl);(case hg => rfl);(case hr => exact q108_);(case hp => exact q101_);intro v177 w16 ho17 hb hg_ hnew_;clear hg_ hnew_;(first | rw [← Ny176.out] at ho17 | (simp only [Int.reduceToNat] at ho17;rw [← Ny176.out] at ho17));have n0_:=Aside0.mk (Kd.R_lower ho17 (below_size q42_));have n1_:=Aside0.mk (below_step q42_ hb);clear HB;have HO178:=n0_;have HB:=n1_;clear n0_ n1_;clear hb ho17) | ((with_reducible refine gate_dst (N:=23) rfl ?_);refine Kd.R_lit Kd.string _ 9 ?hg (N:=23) ?hd (xs:=([(⟨#[108,100,104,32,91,110,56,93,44,97]⟩:ByteArray),(⟨#[97,100,100,32,115,112,44,101,56]⟩:ByteArray),(⟨#[108,100,104,32,97,44,91,110,56,93]⟩:ByteArray),(⟨#[108,100,32,104,108,44,115,112,43,101,56]⟩:ByteArray)]:List ByteArray)) (inner:=[.string (⟨#[108,100,104,32,91,110,56,93,44,97]⟩:ByteArray),.string (⟨#[97,100,100,32,115,112,44,101,56]⟩:ByteArray),.string (⟨#[108,100,104,32,97,44,91,110,56,93]⟩:ByteArray),.string (⟨#[108,100,32,104,108,44,115,112,43,101,56]⟩:ByteArray)]) (ok:=fun _ => True) (okp:=fun _ => True) ?hr ?hp (fun _ hk => hk) trivial (Below.refl _ _) (Nat.le_refl _) (by simp) ?_;(case hd => rfl);(case hg => rfl);(case hr => exact q108_);(case hp => exact q96_);intro v184 w18 ho19 hb hg_ hnew_;clear hg_ hnew_;(first | rw [← Ny183.out] at ho19 | (simp only [Int.reduceToNat] at ho19;rw [← Ny183.out] at ho19));have n0_:=Aside0.mk (Kd.R_elder' q60_ (Kd.R_base ho19) hb);have n1_:=Aside0.mk (Kd.R_lower (Kd.R_new' ho19 (Kd.R_lt q60_)) (below_size q42_));have n2_:=Aside0.mk (below_step q42_ hb);clear HO178;clear HB;have HO178:=n0_;have HO185:=n1_;have HB:=n2_;clear n0_ n1_ n2_;clear hb ho19;obtain ⟨Ao20,co20,eo20⟩:=Kd.R_slice HO185.out;subst eo20;have p186:0 ≤ ((ji13):Int):=of_decide_eq_true q83_;have q186:(ji13) < (y183.length:Int):=of_decide_eq_true q83_;obtain ⟨ad186,e186,hx186_0⟩:=Kd.at_string (Kd.R_reads' HO185.out).2.2 (ji13) p186 q186;cases e186;replace p186:=eq_true p186;replace q186:=eq_true q186))
  go_ret
  exact ⟨by first | rfl | (simp [errW_none,errW_some] <;> rfl) | (simp only [← hji13];first | rfl | (simp [errW_none,errW_some] <;> rfl)) | (simp [*,errW_none,errW_some] <;> rfl) | (exfalso;simp_all;done),q42_⟩
 rw [if_neg c3] at H
 have c3b0:(a1 == 0) = false:=beq_eq_false_iff_ne.mpr c3
 have c3b1:(a1 != 0) = true:=bne_iff_ne.mpr c3
 by_cases c21:a1 = 1
 ·rw [if_pos c21] at H
  have c21b0:(a1 == 1) = true:=beq_iff_eq.mpr c21
  have c21b1:(a1 != 1) = false:=bne_eq_false_iff_eq.mpr c21
  clear c21
  by_cases c22:(Int.tmod a0 2) = 0
  ·rw [if_pos c22] at H
   have c22b0:((Int.tmod a0 2) == 0) = true:=beq_iff_eq.mpr c22
   have c22b1:((Int.tmod a0 2) != 0) = false:=bne_eq_false_iff_eq.mpr c22
   clear c22
   obtain ⟨ji23,hji23⟩:∃ j_:Int,(wrap64 (Int.tdiv a0 2)) = j_:=⟨_,rfl⟩
   replace H:(if 0 ≤ (ji23) then (if (ji23) < (y176.length:Int) then (if 4 + (rdOf ByteArray.empty y176 (ji23)).size ≤ 9223372036854775807 then (some ((⟨#[112,111,112,32]⟩:ByteArray) ++ (rdOf ByteArray.empty y176 (ji23)))) else (none)) else (none)) else (none)) = some r:=by first | (rw [hji23] at H;exact H) | (simp only [hji23] at H ⊢;exact H)
   have hji23w:(IntKind.i64.wrap (Int.tdiv a0 2)) = ji23:=(i64_w _).trans hji23
   by_cases c24:0 ≤ (ji23)
   rotate_left
   ·rw [if_neg c24] at H
    exact absurd H (by simp)
   rw [if_pos c24] at H
   have c24b0:decide (0 ≤ (ji23)) = true:=decide_eq_true c24
   clear c24
   by_cases c25:(ji23) < (y176.length:Int)
   rotate_left
   ·rw [if_neg c25] at H
    exact absurd H (by simp)
   rw [if_pos c25] at H
   have c25b0:decide ((ji23) < (y176.length:Int)) = true:=decide_eq_true c25
   clear c25
   by_cases c26:4 + (rdOf ByteArray.empty y176 (ji23)).size ≤ 9223372036854775807
   rotate_left
   ·rw [if_neg c26] at H
    exact absurd H (by simp)
   rw [if_pos c26] at H
   have c26b0:=eq_true c26
   have c26b1:decide (4 + (rdOf ByteArray.empty y176 (ji23)).size ≤ 9223372036854775807) = true:=decide_eq_true c26
   try have c26b2:(9223372036854775807 < 4 + (rdOf ByteArray.empty y176 (ji23)).size) = False:=eq_false (Nat.not_lt.2 c26)
   obtain rfl:=Option.some.inj H
   go_enter Tryz.func103,Tryz.ntmps103
   go_wp2_with (first | ((with_reducible refine gate_dst (N:=12) rfl ?_);refine Kd.R_lit Kd.string _ 9 ?hg (N:=12) ?hd (xs:=([(⟨#[98,99]⟩:ByteArray),(⟨#[100,101]⟩:ByteArray),(⟨#[104,108]⟩:ByteArray),(⟨#[97,102]⟩:ByteArray)]:List ByteArray)) (inner:=[.string (⟨#[98,99]⟩:ByteArray),.string (⟨#[100,101]⟩:ByteArray),.string (⟨#[104,108]⟩:ByteArray),.string (⟨#[97,102]⟩:ByteArray)]) (ok:=fun _ => True) (okp:=fun _ => True) ?hr ?hp (fun _ hk => hk) trivial (Below.refl _ _) (Nat.le_refl _) (by simp) ?_;(case hd => rfl);(case hg => rfl);(case hr => exact q108_);(case hp => exact q101_);intro v177 w27 ho28 hb hg_ hnew_;clear hg_ hnew_;(first | rw [← Ny176.out] at ho28 | (simp only [Int.reduceToNat] at ho28;rw [← Ny176.out] at ho28));have n0_:=Aside0.mk (Kd.R_lower ho28 (below_size q42_));have n1_:=Aside0.mk (below_step q42_ hb);clear HB;have HO178:=n0_;have HB:=n1_;clear n0_ n1_;clear hb ho28;obtain ⟨Ao29,co29,eo29⟩:=Kd.R_slice HO178.out;subst eo29;have p187:0 ≤ ((ji23):Int):=of_decide_eq_true q83_;have q187:(ji23) < (y176.length:Int):=of_decide_eq_true q83_;obtain ⟨ad187,e187,hx187_0⟩:=Kd.at_string (Kd.R_reads' HO178.out).2.2 (ji23) p187 q187;cases e187;replace p187:=eq_true p187;replace q187:=eq_true q187))
   go_ret
   exact ⟨by first | rfl | (simp [errW_none,errW_some] <;> rfl) | (simp only [← hji23];first | rfl | (simp [errW_none,errW_some] <;> rfl)) | (simp [*,errW_none,errW_some] <;> rfl) | (exfalso;simp_all;done),q42_⟩
  rw [if_neg c22] at H
  have c22b0:((Int.tmod a0 2) == 0) = false:=beq_eq_false_iff_ne.mpr c22
  have c22b1:((Int.tmod a0 2) != 0) = true:=bne_iff_ne.mpr c22
  obtain ⟨y188,hy188⟩:∃ y_:List ByteArray,y_ = (([(⟨#[114,101,116]⟩:ByteArray),(⟨#[114,101,116,105]⟩:ByteArray),(⟨#[106,112,32,104,108]⟩:ByteArray),(⟨#[108,100,32,115,112,44,104,108]⟩:ByteArray)]:List ByteArray)):=⟨_,rfl⟩
  replace H:(if 0 ≤ (wrap64 (Int.tdiv a0 2)) then (if (wrap64 (Int.tdiv a0 2)) < (y188.length:Int) then (some (rdOf ByteArray.empty y188 (wrap64 (Int.tdiv a0 2)))) else (none)) else (none)) = some r:=by first | (rw [hy188];with_reducible exact H) | (have H2_:=(Option.bind_some _ _).symm.trans H;rw [hy188];with_reducible exact H2_) | (have H2_:=(Option.bind_some _ _).symm.trans H;with_reducible exact H2_) | with_reducible exact H | (rw [hy188];exact H) | exact H
  have Ny188:=Aside0.mk hy188
  clear hy188
  obtain ⟨ji30,hji30⟩:∃ j_:Int,(wrap64 (Int.tdiv a0 2)) = j_:=⟨_,rfl⟩
  replace H:(if 0 ≤ (ji30) then (if (ji30) < (y188.length:Int) then (some (rdOf ByteArray.empty y188 (ji30))) else (none)) else (none)) = some r:=by first | (rw [hji30] at H;exact H) | (simp only [hji30] at H ⊢;exact H)
  have hji30w:(IntKind.i64.wrap (Int.tdiv a0 2)) = ji30:=(i64_w _).trans hji30
  by_cases c31:0 ≤ (ji30)
  rotate_left
  ·rw [if_neg c31] at H
   exact absurd H (by simp)
  rw [if_pos c31] at H
  have c31b0:decide (0 ≤ (ji30)) = true:=decide_eq_true c31
  clear c31
  by_cases c32:(ji30) < (y188.length:Int)
  rotate_left
  ·rw [if_neg c32] at H
   exact absurd H (by simp)
  rw [if_pos c32] at H
  have c32b0:decide ((ji30) < (y188.length:Int)) = true:=decide_eq_true c32
  clear c32
  obtain rfl:=Option.some.inj H
  go_enter Tryz.func103,Tryz.ntmps103
  go_wp2_with (first | ((with_reducible refine gate_dst (N:=12) rfl ?_);refine Kd.R_lit Kd.string _ 9 ?hg (N:=12) ?hd (xs:=([(⟨#[98,99]⟩:ByteArray),(⟨#[100,101]⟩:ByteArray),(⟨#[104,108]⟩:ByteArray),(⟨#[97,102]⟩:ByteArray)]:List ByteArray)) (inner:=[.string (⟨#[98,99]⟩:ByteArray),.string (⟨#[100,101]⟩:ByteArray),.string (⟨#[104,108]⟩:ByteArray),.string (⟨#[97,102]⟩:ByteArray)]) (ok:=fun _ => True) (okp:=fun _ => True) ?hr ?hp (fun _ hk => hk) trivial (Below.refl _ _) (Nat.le_refl _) (by simp) ?_;(case hd => rfl);(case hg => rfl);(case hr => exact q108_);(case hp => exact q101_);intro v177 w33 ho34 hb hg_ hnew_;clear hg_ hnew_;(first | rw [← Ny176.out] at ho34 | (simp only [Int.reduceToNat] at ho34;rw [← Ny176.out] at ho34));have n0_:=Aside0.mk (Kd.R_lower ho34 (below_size q42_));have n1_:=Aside0.mk (below_step q42_ hb);clear HB;have HO178:=n0_;have HB:=n1_;clear n0_ n1_;clear hb ho34) | ((with_reducible refine gate_dst (N:=37) rfl ?_);refine Kd.R_lit Kd.string _ 9 ?hg (N:=37) ?hd (xs:=([(⟨#[114,101,116]⟩:ByteArray),(⟨#[114,101,116,105]⟩:ByteArray),(⟨#[106,112,32,104,108]⟩:ByteArray),(⟨#[108,100,32,115,112,44,104,108]⟩:ByteArray)]:List ByteArray)) (inner:=[.string (⟨#[114,101,116]⟩:ByteArray),.string (⟨#[114,101,116,105]⟩:ByteArray),.string (⟨#[106,112,32,104,108]⟩:ByteArray),.string (⟨#[108,100,32,115,112,44,104,108]⟩:ByteArray)]) (ok:=fun _ => True) (okp:=fun _ => True) ?hr ?hp (fun _ hk => hk) trivial (Below.refl _ _) (Nat.le_refl _) (by simp) ?_;(case hd => rfl);(case hg => rfl);(case hr => exact q108_);(case hp => exact q99_);intro v189 w35 ho36 hb hg_ hnew_;clear hg_ hnew_;(first | rw [← Ny188.out] at ho36 | (simp only [Int.reduceToNat] at ho36;rw [← Ny188.out] at ho36));have n0_:=Aside0.mk (Kd.R_elder' q60_ (Kd.R_base ho36) hb);have n1_:=Aside0.mk (Kd.R_lower (Kd.R_new' ho36 (Kd.R_lt q60_)) (below_size q42_));have n2_:=Aside0.mk (below_step q42_ hb);clear HO178;clear HB;have HO178:=n0_;have HO190:=n1_;have HB:=n2_;clear n0_ n1_ n2_;clear hb ho36;obtain ⟨Ao37,co37,eo37⟩:=Kd.R_slice HO190.out;subst eo37;have p191:0 ≤ ((ji30):Int):=of_decide_eq_true q83_;have q191:(ji30) < (y188.length:Int):=of_decide_eq_true q83_;obtain ⟨ad191,e191,hx191_0⟩:=Kd.at_string (Kd.R_reads' HO190.out).2.2 (ji30) p191 q191;cases e191;replace p191:=eq_true p191;replace q191:=eq_true q191))
  go_ret
  exact ⟨by first | rfl | (simp [errW_none,errW_some] <;> rfl) | (simp only [← hji30];first | rfl | (simp [errW_none,errW_some] <;> rfl)) | (simp [*,errW_none,errW_some] <;> rfl) | (exfalso;simp_all;done),q42_⟩
 rw [if_neg c21] at H
 have c21b0:(a1 == 1) = false:=beq_eq_false_iff_ne.mpr c21
 have c21b1:(a1 != 1) = true:=bne_iff_ne.mpr c21
 by_cases c38:a1 = 2
 ·rw [if_pos c38] at H
  have c38b0:(a1 == 2) = true:=beq_iff_eq.mpr c38
  have c38b1:(a1 != 2) = false:=bne_eq_false_iff_eq.mpr c38
  clear c38
  by_cases c39:a0 < 4
  ·rw [if_pos c39] at H
   have c39b0:decide (a0 < 4) = true:=decide_eq_true c39
   clear c39
   replace H:=Option.bind_eq_some_iff.mp H
   obtain ⟨t192,A400,H⟩:=H
   have A40:=Aside0.mk A400
   clear A400
   by_cases c41:0 ≤ a0
   rotate_left
   ·rw [if_neg c41] at H
    exact absurd H (by simp)
   rw [if_pos c41] at H
   have c41b0:decide (0 ≤ a0) = true:=decide_eq_true c41
   clear c41
   by_cases c42:a0 < (t192.length:Int)
   rotate_left
   ·rw [if_neg c42] at H
    exact absurd H (by simp)
   rw [if_pos c42] at H
   have c42b0:decide (a0 < (t192.length:Int)) = true:=decide_eq_true c42
   clear c42
   by_cases c43:3 + (rdOf ByteArray.empty t192 a0).size ≤ 9223372036854775807
   rotate_left
   ·rw [if_neg c43] at H
    exact absurd H (by simp)
   rw [if_pos c43] at H
   have c43b0:=eq_true c43
   have c43b1:decide (3 + (rdOf ByteArray.empty t192 a0).size ≤ 9223372036854775807) = true:=decide_eq_true c43
   try have c43b2:(9223372036854775807 < 3 + (rdOf ByteArray.empty t192 a0).size) = False:=eq_false (Nat.not_lt.2 c43)
   by_cases c44:((⟨#[106,112,32]⟩:ByteArray) ++ (rdOf ByteArray.empty t192 a0)).size + 4 ≤ 9223372036854775807
   rotate_left
   ·rw [if_neg c44] at H
    exact absurd H (by simp)
   rw [if_pos c44] at H
   have c44b0:=eq_true c44
   (try (have c44b0e:=c44b0;simp only [ByteArray.size_append,ByteArray.size_extract,Nat.min_self,Nat.sub_zero,show (⟨#[106,112,32]⟩:ByteArray).size = 3 from rfl] at c44b0e))
   have c44b1:decide (((⟨#[106,112,32]⟩:ByteArray) ++ (rdOf ByteArray.empty t192 a0)).size + 4 ≤ 9223372036854775807) = true:=decide_eq_true c44
   (try (have c44b1e:=c44b1;simp only [ByteArray.size_append,ByteArray.size_extract,Nat.min_self,Nat.sub_zero,show (⟨#[106,112,32]⟩:ByteArray).size = 3 from rfl] at c44b1e))
   try have c44b2:(9223372036854775807 < ((⟨#[106,112,32]⟩:ByteArray) ++ (rdOf ByteArray.empty t192 a0)).size + 4) = False:=eq_false (Nat.not_lt.2 c44)
   (try (have c44b2e:=c44b2;simp only [ByteArray.size_append,ByteArray.size_extract,Nat.min_self,Nat.sub_zero,show (⟨#[106,112,32]⟩:ByteArray).size = 3 from rfl] at c44b2e))
   obtain rfl:=Option.some.inj H
   go_enter Tryz.func103,Tryz.ntmps103
   go_wp2_with (first | ((with_reducible refine gate_dst (N:=12) rfl ?_);refine Kd.R_lit Kd.string _ 9 ?hg (N:=12) ?hd (xs:=([(⟨#[98,99]⟩:ByteArray),(⟨#[100,101]⟩:ByteArray),(⟨#[104,108]⟩:ByteArray),(⟨#[97,102]⟩:ByteArray)]:List ByteArray)) (inner:=[.string (⟨#[98,99]⟩:ByteArray),.string (⟨#[100,101]⟩:ByteArray),.string (⟨#[104,108]⟩:ByteArray),.string (⟨#[97,102]⟩:ByteArray)]) (ok:=fun _ => True) (okp:=fun _ => True) ?hr ?hp (fun _ hk => hk) trivial (Below.refl _ _) (Nat.le_refl _) (by simp) ?_;(case hd => rfl);(case hg => rfl);(case hr => exact q108_);(case hp => exact q101_);intro v177 w45 ho46 hb hg_ hnew_;clear hg_ hnew_;(first | rw [← Ny176.out] at ho46 | (simp only [Int.reduceToNat] at ho46;rw [← Ny176.out] at ho46));have n0_:=Aside0.mk (Kd.R_lower ho46 (below_size q42_));have n1_:=Aside0.mk (below_step q42_ hb);clear HB;have HO178:=n0_;have HB:=n1_;clear n0_ n1_;clear hb ho46) | ((with_reducible refine gate_callee (f:=132) rfl ?_);refine goesL_ (some 45) rfl rfl Tryz.func132 (by kernel_rfl) rfl #[] rfl q40_ ?_;(with_reducible refine (spec_l3Conds.calls  t192 _ A40.out).mono ?_);rintro e w47 ⟨v193,rfl,ho0,hb⟩;refine ⟨_,rfl,?_⟩;have n0_:=Aside0.mk (Kd.R_elder' q60_ (Kd.R_base ho0) hb);have n1_:=Aside0.mk (Kd.R_lower (Kd.R_new' ho0 (Kd.R_lt q60_)) (below_size q42_));have n2_:=Aside0.mk (below_step q42_ hb);clear HO178;clear HB;have HO178:=n0_;have HO194:=n1_;have HB:=n2_;clear n0_ n1_ n2_;(try clear hb);(try clear ho0);obtain ⟨Ao48,co48,eo48⟩:=Kd.R_slice HO194.out;subst eo48;have p195:0 ≤ (a0:Int):=of_decide_eq_true q83_;have q195:a0 < (t192.length:Int):=of_decide_eq_true q83_;obtain ⟨ad195,e195,hx195_0⟩:=Kd.at_string (Kd.R_reads' HO194.out).2.2 a0 p195 q195;cases e195;replace p195:=eq_true p195;replace q195:=eq_true q195))
   go_ret
   exact ⟨q47_,q42_⟩
  rw [if_neg c39] at H
  have c39b0:decide (a0 < 4) = false:=decide_eq_false c39
  clear c39
  obtain ⟨y196,hy196⟩:∃ y_:List ByteArray,y_ = (([(⟨#[108,100,104,32,91,99,93,44,97]⟩:ByteArray),(⟨#[108,100,32,91,110,49,54,93,44,97]⟩:ByteArray),(⟨#[108,100,104,32,97,44,91,99,93]⟩:ByteArray),(⟨#[108,100,32,97,44,91,110,49,54,93]⟩:ByteArray)]:List ByteArray)):=⟨_,rfl⟩
  replace H:(if 0 ≤ (wrap64 (a0 - 4)) then (if (wrap64 (a0 - 4)) < (y196.length:Int) then (some (rdOf ByteArray.empty y196 (wrap64 (a0 - 4)))) else (none)) else (none)) = some r:=by first | (rw [hy196];with_reducible exact H) | (have H2_:=(Option.bind_some _ _).symm.trans H;rw [hy196];with_reducible exact H2_) | (have H2_:=(Option.bind_some _ _).symm.trans H;with_reducible exact H2_) | with_reducible exact H | (rw [hy196];exact H) | exact H
  have Ny196:=Aside0.mk hy196
  clear hy196
  obtain ⟨ji49,hji49⟩:∃ j_:Int,(wrap64 (a0 - 4)) = j_:=⟨_,rfl⟩
  replace H:(if 0 ≤ (ji49) then (if (ji49) < (y196.length:Int) then (some (rdOf ByteArray.empty y196 (ji49))) else (none)) else (none)) = some r:=by first | (rw [hji49] at H;exact H) | (simp only [hji49] at H ⊢;exact H)
  have hji49w:(IntKind.i64.wrap (a0 - 4)) = ji49:=(i64_w _).trans hji49
  by_cases c50:0 ≤ (ji49)
  rotate_left
  ·rw [if_neg c50] at H
   exact absurd H (by simp)
  rw [if_pos c50] at H
  have c50b0:decide (0 ≤ (ji49)) = true:=decide_eq_true c50
  clear c50
  by_cases c51:(ji49) < (y196.length:Int)
  rotate_left
  ·rw [if_neg c51] at H
   exact absurd H (by simp)
  rw [if_pos c51] at H
  have c51b0:decide ((ji49) < (y196.length:Int)) = true:=decide_eq_true c51
  clear c51
  obtain rfl:=Option.some.inj H
  go_enter Tryz.func103,Tryz.ntmps103
  go_wp2_with (first | ((with_reducible refine gate_dst (N:=12) rfl ?_);refine Kd.R_lit Kd.string _ 9 ?hg (N:=12) ?hd (xs:=([(⟨#[98,99]⟩:ByteArray),(⟨#[100,101]⟩:ByteArray),(⟨#[104,108]⟩:ByteArray),(⟨#[97,102]⟩:ByteArray)]:List ByteArray)) (inner:=[.string (⟨#[98,99]⟩:ByteArray),.string (⟨#[100,101]⟩:ByteArray),.string (⟨#[104,108]⟩:ByteArray),.string (⟨#[97,102]⟩:ByteArray)]) (ok:=fun _ => True) (okp:=fun _ => True) ?hr ?hp (fun _ hk => hk) trivial (Below.refl _ _) (Nat.le_refl _) (by simp) ?_;(case hd => rfl);(case hg => rfl);(case hr => exact q108_);(case hp => exact q101_);intro v177 w52 ho53 hb hg_ hnew_;clear hg_ hnew_;(first | rw [← Ny176.out] at ho53 | (simp only [Int.reduceToNat] at ho53;rw [← Ny176.out] at ho53));have n0_:=Aside0.mk (Kd.R_lower ho53 (below_size q42_));have n1_:=Aside0.mk (below_step q42_ hb);clear HB;have HO178:=n0_;have HB:=n1_;clear n0_ n1_;clear hb ho53) | ((with_reducible refine gate_dst (N:=51) rfl ?_);refine Kd.R_lit Kd.string _ 9 ?hg (N:=51) ?hd (xs:=([(⟨#[108,100,104,32,91,99,93,44,97]⟩:ByteArray),(⟨#[108,100,32,91,110,49,54,93,44,97]⟩:ByteArray),(⟨#[108,100,104,32,97,44,91,99,93]⟩:ByteArray),(⟨#[108,100,32,97,44,91,110,49,54,93]⟩:ByteArray)]:List ByteArray)) (inner:=[.string (⟨#[108,100,104,32,91,99,93,44,97]⟩:ByteArray),.string (⟨#[108,100,32,91,110,49,54,93,44,97]⟩:ByteArray),.string (⟨#[108,100,104,32,97,44,91,99,93]⟩:ByteArray),.string (⟨#[108,100,32,97,44,91,110,49,54,93]⟩:ByteArray)]) (ok:=fun _ => True) (okp:=fun _ => True) ?hr ?hp (fun _ hk => hk) trivial (Below.refl _ _) (Nat.le_refl _) (by simp) ?_;(case hd => rfl);(case hg => rfl);(case hr => exact q108_);(case hp => exact q97_);intro v197 w54 ho55 hb hg_ hnew_;clear hg_ hnew_;(first | rw [← Ny196.out] at ho55 | (simp only [Int.reduceToNat] at ho55;rw [← Ny196.out] at ho55));have n0_:=Aside0.mk (Kd.R_elder' q60_ (Kd.R_base ho55) hb);have n1_:=Aside0.mk (Kd.R_lower (Kd.R_new' ho55 (Kd.R_lt q60_)) (below_size q42_));have n2_:=Aside0.mk (below_step q42_ hb);clear HO178;clear HB;have HO178:=n0_;have HO198:=n1_;have HB:=n2_;clear n0_ n1_ n2_;clear hb ho55;obtain ⟨Ao56,co56,eo56⟩:=Kd.R_slice HO198.out;subst eo56;have p199:0 ≤ ((ji49):Int):=of_decide_eq_true q83_;have q199:(ji49) < (y196.length:Int):=of_decide_eq_true q83_;obtain ⟨ad199,e199,hx199_0⟩:=Kd.at_string (Kd.R_reads' HO198.out).2.2 (ji49) p199 q199;cases e199;replace p199:=eq_true p199;replace q199:=eq_true q199))
  go_ret
  exact ⟨by first | rfl | (simp [errW_none,errW_some] <;> rfl) | (simp only [← hji49];first | rfl | (simp [errW_none,errW_some] <;> rfl)) | (simp [*,errW_none,errW_some] <;> rfl) | (exfalso;simp_all;done),q42_⟩
 rw [if_neg c38] at H
 have c38b0:(a1 == 2) = false:=beq_eq_false_iff_ne.mpr c38
 have c38b1:(a1 != 2) = true:=bne_iff_ne.mpr c38
 by_cases c57:a1 = 3
 ·rw [if_pos c57] at H
  have c57b0:(a1 == 3) = true:=beq_iff_eq.mpr c57
  have c57b1:(a1 != 3) = false:=bne_eq_false_iff_eq.mpr c57
  clear c57
  obtain ⟨y200,hy200⟩:∃ y_:List ByteArray,y_ = (([(⟨#[106,112,32,110,49,54]⟩:ByteArray),(⟨#[]⟩:ByteArray),(⟨#[]⟩:ByteArray),(⟨#[]⟩:ByteArray),(⟨#[]⟩:ByteArray),(⟨#[]⟩:ByteArray),(⟨#[100,105]⟩:ByteArray),(⟨#[101,105]⟩:ByteArray)]:List ByteArray)):=⟨_,rfl⟩
  replace H:(if 0 ≤ a0 then (if a0 < (y200.length:Int) then (some (rdOf ByteArray.empty y200 a0)) else (none)) else (none)) = some r:=by first | (rw [hy200];with_reducible exact H) | (have H2_:=(Option.bind_some _ _).symm.trans H;rw [hy200];with_reducible exact H2_) | (have H2_:=(Option.bind_some _ _).symm.trans H;with_reducible exact H2_) | with_reducible exact H | (rw [hy200];exact H) | exact H
  have Ny200:=Aside0.mk hy200
  clear hy200
  by_cases c58:0 ≤ a0
  rotate_left
  ·rw [if_neg c58] at H
   exact absurd H (by simp)
  rw [if_pos c58] at H
  have c58b0:decide (0 ≤ a0) = true:=decide_eq_true c58
  clear c58
  by_cases c59:a0 < (y200.length:Int)
  rotate_left
  ·rw [if_neg c59] at H
   exact absurd H (by simp)
  rw [if_pos c59] at H
  have c59b0:decide (a0 < (y200.length:Int)) = true:=decide_eq_true c59
  clear c59
  obtain rfl:=Option.some.inj H
  go_enter Tryz.func103,Tryz.ntmps103
  go_wp2_with (first | ((with_reducible refine gate_dst (N:=12) rfl ?_);refine Kd.R_lit Kd.string _ 9 ?hg (N:=12) ?hd (xs:=([(⟨#[98,99]⟩:ByteArray),(⟨#[100,101]⟩:ByteArray),(⟨#[104,108]⟩:ByteArray),(⟨#[97,102]⟩:ByteArray)]:List ByteArray)) (inner:=[.string (⟨#[98,99]⟩:ByteArray),.string (⟨#[100,101]⟩:ByteArray),.string (⟨#[104,108]⟩:ByteArray),.string (⟨#[97,102]⟩:ByteArray)]) (ok:=fun _ => True) (okp:=fun _ => True) ?hr ?hp (fun _ hk => hk) trivial (Below.refl _ _) (Nat.le_refl _) (by simp) ?_;(case hd => rfl);(case hg => rfl);(case hr => exact q108_);(case hp => exact q101_);intro v177 w60 ho61 hb hg_ hnew_;clear hg_ hnew_;(first | rw [← Ny176.out] at ho61 | (simp only [Int.reduceToNat] at ho61;rw [← Ny176.out] at ho61));have n0_:=Aside0.mk (Kd.R_lower ho61 (below_size q42_));have n1_:=Aside0.mk (below_step q42_ hb);clear HB;have HO178:=n0_;have HB:=n1_;clear n0_ n1_;clear hb ho61) | ((with_reducible refine gate_dst (N:=58) rfl ?_);refine Kd.R_lit Kd.string _ 9 ?hg (N:=58) ?hd (xs:=([(⟨#[106,112,32,110,49,54]⟩:ByteArray),(⟨#[]⟩:ByteArray),(⟨#[]⟩:ByteArray),(⟨#[]⟩:ByteArray),(⟨#[]⟩:ByteArray),(⟨#[]⟩:ByteArray),(⟨#[100,105]⟩:ByteArray),(⟨#[101,105]⟩:ByteArray)]:List ByteArray)) (inner:=[.string (⟨#[106,112,32,110,49,54]⟩:ByteArray),.string (⟨#[]⟩:ByteArray),.string (⟨#[]⟩:ByteArray),.string (⟨#[]⟩:ByteArray),.string (⟨#[]⟩:ByteArray),.string (⟨#[]⟩:ByteArray),.string (⟨#[100,105]⟩:ByteArray),.string (⟨#[101,105]⟩:ByteArray)]) (ok:=fun _ => True) (okp:=fun _ => True) ?hr ?hp (fun _ hk => hk) trivial (Below.refl _ _) (Nat.le_refl _) (by simp) ?_;(case hd => rfl);(case hg => rfl);(case hr => exact q108_);(case hp => exact (Reps.one (show Kd.M Kd.string _ _ _ (⟨#[106,112,32,110,49,54]⟩:ByteArray) [.string (⟨#[106,112,32,110,49,54]⟩:ByteArray)] from rfl) (Reps.one (show Kd.M Kd.string _ _ _ (⟨#[]⟩:ByteArray) [.string (⟨#[]⟩:ByteArray)] from rfl) (Reps.one (show Kd.M Kd.string _ _ _ (⟨#[]⟩:ByteArray) [.string (⟨#[]⟩:ByteArray)] from rfl) (Reps.one (show Kd.M Kd.string _ _ _ (⟨#[]⟩:ByteArray) [.string (⟨#[]⟩:ByteArray)] from rfl) (Reps.one (show Kd.M Kd.string _ _ _ (⟨#[]⟩:ByteArray) [.string (⟨#[]⟩:ByteArray)] from rfl) (Reps.one (show Kd.M Kd.string _ _ _ (⟨#[]⟩:ByteArray) [.string (⟨#[]⟩:ByteArray)] from rfl) (Reps.one (show Kd.M Kd.string _ _ _ (⟨#[100,105]⟩:ByteArray) [.string (⟨#[100,105]⟩:ByteArray)] from rfl) (Reps.one (show Kd.M Kd.string _ _ _ (⟨#[101,105]⟩:ByteArray) [.string (⟨#[101,105]⟩:ByteArray)] from rfl) (Reps.none _ _))))))))));intro v201 w62 ho63 hb hg_ hnew_;clear hg_ hnew_;(first | rw [← Ny200.out] at ho63 | (simp only [Int.reduceToNat] at ho63;rw [← Ny200.out] at ho63));have n0_:=Aside0.mk (Kd.R_elder' q60_ (Kd.R_base ho63) hb);have n1_:=Aside0.mk (Kd.R_lower (Kd.R_new' ho63 (Kd.R_lt q60_)) (below_size q42_));have n2_:=Aside0.mk (below_step q42_ hb);clear HO178;clear HB;have HO178:=n0_;have HO202:=n1_;have HB:=n2_;clear n0_ n1_ n2_;clear hb ho63;obtain ⟨Ao64,co64,eo64⟩:=Kd.R_slice HO202.out;subst eo64;have p203:0 ≤ (a0:Int):=of_decide_eq_true q83_;have q203:a0 < (y200.length:Int):=of_decide_eq_true q83_;obtain ⟨ad203,e203,hx203_0⟩:=Kd.at_string (Kd.R_reads' HO202.out).2.2 a0 p203 q203;cases e203;replace p203:=eq_true p203;replace q203:=eq_true q203))
  go_ret
  exact ⟨q47_,q42_⟩
 rw [if_neg c57] at H
 have c57b0:(a1 == 3) = false:=beq_eq_false_iff_ne.mpr c57
 have c57b1:(a1 != 3) = true:=bne_iff_ne.mpr c57
 by_cases c65:a1 = 4
 ·rw [if_pos c65] at H
  have c65b0:(a1 == 4) = true:=beq_iff_eq.mpr c65
  have c65b1:(a1 != 4) = false:=bne_eq_false_iff_eq.mpr c65
  clear c65
  by_cases c66:a0 < 4
  ·rw [if_pos c66] at H
   have c66b0:decide (a0 < 4) = true:=decide_eq_true c66
   clear c66
   replace H:=Option.bind_eq_some_iff.mp H
   obtain ⟨t204,A670,H⟩:=H
   have A67:=Aside0.mk A670
   clear A670
   by_cases c68:0 ≤ a0
   rotate_left
   ·rw [if_neg c68] at H
    exact absurd H (by simp)
   rw [if_pos c68] at H
   have c68b0:decide (0 ≤ a0) = true:=decide_eq_true c68
   clear c68
   by_cases c69:a0 < (t204.length:Int)
   rotate_left
   ·rw [if_neg c69] at H
    exact absurd H (by simp)
   rw [if_pos c69] at H
   have c69b0:decide (a0 < (t204.length:Int)) = true:=decide_eq_true c69
   clear c69
   by_cases c70:5 + (rdOf ByteArray.empty t204 a0).size ≤ 9223372036854775807
   rotate_left
   ·rw [if_neg c70] at H
    exact absurd H (by simp)
   rw [if_pos c70] at H
   have c70b0:=eq_true c70
   have c70b1:decide (5 + (rdOf ByteArray.empty t204 a0).size ≤ 9223372036854775807) = true:=decide_eq_true c70
   try have c70b2:(9223372036854775807 < 5 + (rdOf ByteArray.empty t204 a0).size) = False:=eq_false (Nat.not_lt.2 c70)
   by_cases c71:((⟨#[99,97,108,108,32]⟩:ByteArray) ++ (rdOf ByteArray.empty t204 a0)).size + 4 ≤ 9223372036854775807
   rotate_left
   ·rw [if_neg c71] at H
    exact absurd H (by simp)
   rw [if_pos c71] at H
   have c71b0:=eq_true c71
   (try (have c71b0e:=c71b0;simp only [ByteArray.size_append,ByteArray.size_extract,Nat.min_self,Nat.sub_zero,show (⟨#[99,97,108,108,32]⟩:ByteArray).size = 5 from rfl] at c71b0e))
   have c71b1:decide (((⟨#[99,97,108,108,32]⟩:ByteArray) ++ (rdOf ByteArray.empty t204 a0)).size + 4 ≤ 9223372036854775807) = true:=decide_eq_true c71
   (try (have c71b1e:=c71b1;simp only [ByteArray.size_append,ByteArray.size_extract,Nat.min_self,Nat.sub_zero,show (⟨#[99,97,108,108,32]⟩:ByteArray).size = 5 from rfl] at c71b1e))
   try have c71b2:(9223372036854775807 < ((⟨#[99,97,108,108,32]⟩:ByteArray) ++ (rdOf ByteArray.empty t204 a0)).size + 4) = False:=eq_false (Nat.not_lt.2 c71)
   (try (have c71b2e:=c71b2;simp only [ByteArray.size_append,ByteArray.size_extract,Nat.min_self,Nat.sub_zero,show (⟨#[99,97,108,108,32]⟩:ByteArray).size = 5 from rfl] at c71b2e))
   obtain rfl:=Option.some.inj H
   go_enter Tryz.func103,Tryz.ntmps103
   go_wp2_with (first | ((with_reducible refine gate_dst (N:=12) rfl ?_);refine Kd.R_lit Kd.string _ 9 ?hg (N:=12) ?hd (xs:=([(⟨#[98,99]⟩:ByteArray),(⟨#[100,101]⟩:ByteArray),(⟨#[104,108]⟩:ByteArray),(⟨#[97,102]⟩:ByteArray)]:List ByteArray)) (inner:=[.string (⟨#[98,99]⟩:ByteArray),.string (⟨#[100,101]⟩:ByteArray),.string (⟨#[104,108]⟩:ByteArray),.string (⟨#[97,102]⟩:ByteArray)]) (ok:=fun _ => True) (okp:=fun _ => True) ?hr ?hp (fun _ hk => hk) trivial (Below.refl _ _) (Nat.le_refl _) (by simp) ?_;(case hd => rfl);(case hg => rfl);(case hr => exact q108_);(case hp => exact q101_);intro v177 w72 ho73 hb hg_ hnew_;clear hg_ hnew_;(first | rw [← Ny176.out] at ho73 | (simp only [Int.reduceToNat] at ho73;rw [← Ny176.out] at ho73));have n0_:=Aside0.mk (Kd.R_lower ho73 (below_size q42_));have n1_:=Aside0.mk (below_step q42_ hb);clear HB;have HO178:=n0_;have HB:=n1_;clear n0_ n1_;clear hb ho73) | ((with_reducible refine gate_callee (f:=132) rfl ?_);refine goesL_ (some 66) rfl rfl Tryz.func132 (by kernel_rfl) rfl #[] rfl q40_ ?_;(with_reducible refine (spec_l3Conds.calls  t204 _ A67.out).mono ?_);rintro e w74 ⟨v205,rfl,ho0,hb⟩;refine ⟨_,rfl,?_⟩;have n0_:=Aside0.mk (Kd.R_elder' q60_ (Kd.R_base ho0) hb);have n1_:=Aside0.mk (Kd.R_lower (Kd.R_new' ho0 (Kd.R_lt q60_)) (below_size q42_));have n2_:=Aside0.mk (below_step q42_ hb);clear HO178;clear HB;have HO178:=n0_;have HO206:=n1_;have HB:=n2_;clear n0_ n1_ n2_;(try clear hb);(try clear ho0);obtain ⟨Ao75,co75,eo75⟩:=Kd.R_slice HO206.out;subst eo75;have p207:0 ≤ (a0:Int):=of_decide_eq_true q83_;have q207:a0 < (t204.length:Int):=of_decide_eq_true q83_;obtain ⟨ad207,e207,hx207_0⟩:=Kd.at_string (Kd.R_reads' HO206.out).2.2 a0 p207 q207;cases e207;replace p207:=eq_true p207;replace q207:=eq_true q207))
   go_ret
   exact ⟨q47_,q42_⟩
  rw [if_neg c66] at H
  have c66b0:decide (a0 < 4) = false:=decide_eq_false c66
  clear c66
  obtain rfl:=Option.some.inj H
  go_enter Tryz.func103,Tryz.ntmps103
  go_wp2_with (first | ((with_reducible refine gate_dst (N:=12) rfl ?_);refine Kd.R_lit Kd.string _ 9 ?hg (N:=12) ?hd (xs:=([(⟨#[98,99]⟩:ByteArray),(⟨#[100,101]⟩:ByteArray),(⟨#[104,108]⟩:ByteArray),(⟨#[97,102]⟩:ByteArray)]:List ByteArray)) (inner:=[.string (⟨#[98,99]⟩:ByteArray),.string (⟨#[100,101]⟩:ByteArray),.string (⟨#[104,108]⟩:ByteArray),.string (⟨#[97,102]⟩:ByteArray)]) (ok:=fun _ => True) (okp:=fun _ => True) ?hr ?hp (fun _ hk => hk) trivial (Below.refl _ _) (Nat.le_refl _) (by simp) ?_;(case hd => rfl);(case hg => rfl);(case hr => exact q108_);(case hp => exact q101_);intro v177 w76 ho77 hb hg_ hnew_;clear hg_ hnew_;(first | rw [← Ny176.out] at ho77 | (simp only [Int.reduceToNat] at ho77;rw [← Ny176.out] at ho77));have n0_:=Aside0.mk (Kd.R_lower ho77 (below_size q42_));have n1_:=Aside0.mk (below_step q42_ hb);clear HB;have HO178:=n0_;have HB:=n1_;clear n0_ n1_;clear hb ho77))
  go_ret
  exact ⟨q47_,q42_⟩
 rw [if_neg c65] at H
 have c65b0:(a1 == 4) = false:=beq_eq_false_iff_ne.mpr c65
 have c65b1:(a1 != 4) = true:=bne_iff_ne.mpr c65
 by_cases c78:a1 = 5
 ·rw [if_pos c78] at H
  have c78b0:(a1 == 5) = true:=beq_iff_eq.mpr c78
  have c78b1:(a1 != 5) = false:=bne_eq_false_iff_eq.mpr c78
  clear c78
  by_cases c79:(Int.tmod a0 2) = 0
  ·rw [if_pos c79] at H
   have c79b0:((Int.tmod a0 2) == 0) = true:=beq_iff_eq.mpr c79
   have c79b1:((Int.tmod a0 2) != 0) = false:=bne_eq_false_iff_eq.mpr c79
   clear c79
   obtain ⟨ji80,hji80⟩:∃ j_:Int,(wrap64 (Int.tdiv a0 2)) = j_:=⟨_,rfl⟩
   replace H:(if 0 ≤ (ji80) then (if (ji80) < (y176.length:Int) then (if 5 + (rdOf ByteArray.empty y176 (ji80)).size ≤ 9223372036854775807 then (some ((⟨#[112,117,115,104,32]⟩:ByteArray) ++ (rdOf ByteArray.empty y176 (ji80)))) else (none)) else (none)) else (none)) = some r:=by first | (rw [hji80] at H;exact H) | (simp only [hji80] at H ⊢;exact H)
   have hji80w:(IntKind.i64.wrap (Int.tdiv a0 2)) = ji80:=(i64_w _).trans hji80
   by_cases c81:0 ≤ (ji80)
   rotate_left
   ·rw [if_neg c81] at H
    exact absurd H (by simp)
   rw [if_pos c81] at H
   have c81b0:decide (0 ≤ (ji80)) = true:=decide_eq_true c81
   clear c81
   by_cases c82:(ji80) < (y176.length:Int)
   rotate_left
   ·rw [if_neg c82] at H
    exact absurd H (by simp)
   rw [if_pos c82] at H
   have c82b0:decide ((ji80) < (y176.length:Int)) = true:=decide_eq_true c82
   clear c82
   by_cases c83:5 + (rdOf ByteArray.empty y176 (ji80)).size ≤ 9223372036854775807
   rotate_left
   ·rw [if_neg c83] at H
    exact absurd H (by simp)
   rw [if_pos c83] at H
   have c83b0:=eq_true c83
   have c83b1:decide (5 + (rdOf ByteArray.empty y176 (ji80)).size ≤ 9223372036854775807) = true:=decide_eq_true c83
   try have c83b2:(9223372036854775807 < 5 + (rdOf ByteArray.empty y176 (ji80)).size) = False:=eq_false (Nat.not_lt.2 c83)
   obtain rfl:=Option.some.inj H
   go_enter Tryz.func103,Tryz.ntmps103
   go_wp2_with (first | ((with_reducible refine gate_dst (N:=12) rfl ?_);refine Kd.R_lit Kd.string _ 9 ?hg (N:=12) ?hd (xs:=([(⟨#[98,99]⟩:ByteArray),(⟨#[100,101]⟩:ByteArray),(⟨#[104,108]⟩:ByteArray),(⟨#[97,102]⟩:ByteArray)]:List ByteArray)) (inner:=[.string (⟨#[98,99]⟩:ByteArray),.string (⟨#[100,101]⟩:ByteArray),.string (⟨#[104,108]⟩:ByteArray),.string (⟨#[97,102]⟩:ByteArray)]) (ok:=fun _ => True) (okp:=fun _ => True) ?hr ?hp (fun _ hk => hk) trivial (Below.refl _ _) (Nat.le_refl _) (by simp) ?_;(case hd => rfl);(case hg => rfl);(case hr => exact q108_);(case hp => exact q101_);intro v177 w84 ho85 hb hg_ hnew_;clear hg_ hnew_;(first | rw [← Ny176.out] at ho85 | (simp only [Int.reduceToNat] at ho85;rw [← Ny176.out] at ho85));have n0_:=Aside0.mk (Kd.R_lower ho85 (below_size q42_));have n1_:=Aside0.mk (below_step q42_ hb);clear HB;have HO178:=n0_;have HB:=n1_;clear n0_ n1_;clear hb ho85;obtain ⟨Ao86,co86,eo86⟩:=Kd.R_slice HO178.out;subst eo86;have p208:0 ≤ ((ji80):Int):=of_decide_eq_true q83_;have q208:(ji80) < (y176.length:Int):=of_decide_eq_true q83_;obtain ⟨ad208,e208,hx208_0⟩:=Kd.at_string (Kd.R_reads' HO178.out).2.2 (ji80) p208 q208;cases e208;replace p208:=eq_true p208;replace q208:=eq_true q208))
   go_ret
   exact ⟨by first | rfl | (simp [errW_none,errW_some] <;> rfl) | (simp only [← hji80];first | rfl | (simp [errW_none,errW_some] <;> rfl)) | (simp [*,errW_none,errW_some] <;> rfl) | (exfalso;simp_all;done),q42_⟩
  rw [if_neg c79] at H
  have c79b0:((Int.tmod a0 2) == 0) = false:=beq_eq_false_iff_ne.mpr c79
  have c79b1:((Int.tmod a0 2) != 0) = true:=bne_iff_ne.mpr c79
  obtain ⟨y209,hy209⟩:∃ y_:List ByteArray,y_ = (([(⟨#[99,97,108,108,32,110,49,54]⟩:ByteArray),(⟨#[]⟩:ByteArray),(⟨#[]⟩:ByteArray),(⟨#[]⟩:ByteArray)]:List ByteArray)):=⟨_,rfl⟩
  replace H:(if 0 ≤ (wrap64 (Int.tdiv a0 2)) then (if (wrap64 (Int.tdiv a0 2)) < (y209.length:Int) then (some (rdOf ByteArray.empty y209 (wrap64 (Int.tdiv a0 2)))) else (none)) else (none)) = some r:=by first | (rw [hy209];with_reducible exact H) | (have H2_:=(Option.bind_some _ _).symm.trans H;rw [hy209];with_reducible exact H2_) | (have H2_:=(Option.bind_some _ _).symm.trans H;with_reducible exact H2_) | with_reducible exact H | (rw [hy209];exact H) | exact H
  have Ny209:=Aside0.mk hy209
  clear hy209
  obtain ⟨ji87,hji87⟩:∃ j_:Int,(wrap64 (Int.tdiv a0 2)) = j_:=⟨_,rfl⟩
  replace H:(if 0 ≤ (ji87) then (if (ji87) < (y209.length:Int) then (some (rdOf ByteArray.empty y209 (ji87))) else (none)) else (none)) = some r:=by first | (rw [hji87] at H;exact H) | (simp only [hji87] at H ⊢;exact H)
  have hji87w:(IntKind.i64.wrap (Int.tdiv a0 2)) = ji87:=(i64_w _).trans hji87
  by_cases c88:0 ≤ (ji87)
  rotate_left
  ·rw [if_neg c88] at H
   exact absurd H (by simp)
  rw [if_pos c88] at H
  have c88b0:decide (0 ≤ (ji87)) = true:=decide_eq_true c88
  clear c88
  by_cases c89:(ji87) < (y209.length:Int)
  rotate_left
  ·rw [if_neg c89] at H
   exact absurd H (by simp)
  rw [if_pos c89] at H
  have c89b0:decide ((ji87) < (y209.length:Int)) = true:=decide_eq_true c89
  clear c89
  obtain rfl:=Option.some.inj H
  go_enter Tryz.func103,Tryz.ntmps103
  go_wp2_with (first | ((with_reducible refine gate_dst (N:=12) rfl ?_);refine Kd.R_lit Kd.string _ 9 ?hg (N:=12) ?hd (xs:=([(⟨#[98,99]⟩:ByteArray),(⟨#[100,101]⟩:ByteArray),(⟨#[104,108]⟩:ByteArray),(⟨#[97,102]⟩:ByteArray)]:List ByteArray)) (inner:=[.string (⟨#[98,99]⟩:ByteArray),.string (⟨#[100,101]⟩:ByteArray),.string (⟨#[104,108]⟩:ByteArray),.string (⟨#[97,102]⟩:ByteArray)]) (ok:=fun _ => True) (okp:=fun _ => True) ?hr ?hp (fun _ hk => hk) trivial (Below.refl _ _) (Nat.le_refl _) (by simp) ?_;(case hd => rfl);(case hg => rfl);(case hr => exact q108_);(case hp => exact q101_);intro v177 w90 ho91 hb hg_ hnew_;clear hg_ hnew_;(first | rw [← Ny176.out] at ho91 | (simp only [Int.reduceToNat] at ho91;rw [← Ny176.out] at ho91));have n0_:=Aside0.mk (Kd.R_lower ho91 (below_size q42_));have n1_:=Aside0.mk (below_step q42_ hb);clear HB;have HO178:=n0_;have HB:=n1_;clear n0_ n1_;clear hb ho91) | ((with_reducible refine gate_dst (N:=81) rfl ?_);refine Kd.R_lit Kd.string _ 9 ?hg (N:=81) ?hd (xs:=([(⟨#[99,97,108,108,32,110,49,54]⟩:ByteArray),(⟨#[]⟩:ByteArray),(⟨#[]⟩:ByteArray),(⟨#[]⟩:ByteArray)]:List ByteArray)) (inner:=[.string (⟨#[99,97,108,108,32,110,49,54]⟩:ByteArray),.string (⟨#[]⟩:ByteArray),.string (⟨#[]⟩:ByteArray),.string (⟨#[]⟩:ByteArray)]) (ok:=fun _ => True) (okp:=fun _ => True) ?hr ?hp (fun _ hk => hk) trivial (Below.refl _ _) (Nat.le_refl _) (by simp) ?_;(case hd => rfl);(case hg => rfl);(case hr => exact q108_);(case hp => exact (Reps.one (show Kd.M Kd.string _ _ _ (⟨#[99,97,108,108,32,110,49,54]⟩:ByteArray) [.string (⟨#[99,97,108,108,32,110,49,54]⟩:ByteArray)] from rfl) (Reps.one (show Kd.M Kd.string _ _ _ (⟨#[]⟩:ByteArray) [.string (⟨#[]⟩:ByteArray)] from rfl) (Reps.one (show Kd.M Kd.string _ _ _ (⟨#[]⟩:ByteArray) [.string (⟨#[]⟩:ByteArray)] from rfl) (Reps.one (show Kd.M Kd.string _ _ _ (⟨#[]⟩:ByteArray) [.string (⟨#[]⟩:ByteArray)] from rfl) (Reps.none _ _))))));intro v210 w92 ho93 hb hg_ hnew_;clear hg_ hnew_;(first | rw [← Ny209.out] at ho93 | (simp only [Int.reduceToNat] at ho93;rw [← Ny209.out] at ho93));have n0_:=Aside0.mk (Kd.R_elder' q60_ (Kd.R_base ho93) hb);have n1_:=Aside0.mk (Kd.R_lower (Kd.R_new' ho93 (Kd.R_lt q60_)) (below_size q42_));have n2_:=Aside0.mk (below_step q42_ hb);clear HO178;clear HB;have HO178:=n0_;have HO211:=n1_;have HB:=n2_;clear n0_ n1_ n2_;clear hb ho93;obtain ⟨Ao94,co94,eo94⟩:=Kd.R_slice HO211.out;subst eo94;have p212:0 ≤ ((ji87):Int):=of_decide_eq_true q83_;have q212:(ji87) < (y209.length:Int):=of_decide_eq_true q83_;obtain ⟨ad212,e212,hx212_0⟩:=Kd.at_string (Kd.R_reads' HO211.out).2.2 (ji87) p212 q212;cases e212;replace p212:=eq_true p212;replace q212:=eq_true q212))
  go_ret
  exact ⟨by first | rfl | (simp [errW_none,errW_some] <;> rfl) | (simp only [← hji87];first | rfl | (simp [errW_none,errW_some] <;> rfl)) | (simp [*,errW_none,errW_some] <;> rfl) | (exfalso;simp_all;done),q42_⟩
 rw [if_neg c78] at H
 have c78b0:(a1 == 5) = false:=beq_eq_false_iff_ne.mpr c78
 have c78b1:(a1 != 5) = true:=bne_iff_ne.mpr c78
 by_cases c95:a1 = 6
 ·rw [if_pos c95] at H
  have c95b0:(a1 == 6) = true:=beq_iff_eq.mpr c95
  have c95b1:(a1 != 6) = false:=bne_eq_false_iff_eq.mpr c95
  clear c95
  replace H:=Option.bind_eq_some_iff.mp H
  obtain ⟨t213,A960,H⟩:=H
  have A96:=Aside0.mk A960
  clear A960
  by_cases c97:0 ≤ a0
  rotate_left
  ·rw [if_neg c97] at H
   exact absurd H (by simp)
  rw [if_pos c97] at H
  have c97b0:decide (0 ≤ a0) = true:=decide_eq_true c97
  clear c97
  by_cases c98:a0 < (t213.length:Int)
  rotate_left
  ·rw [if_neg c98] at H
   exact absurd H (by simp)
  rw [if_pos c98] at H
  have c98b0:decide (a0 < (t213.length:Int)) = true:=decide_eq_true c98
  clear c98
  by_cases c99:(rdOf ByteArray.empty t213 a0).size + 5 ≤ 9223372036854775807
  rotate_left
  ·rw [if_neg c99] at H
   exact absurd H (by simp)
  rw [if_pos c99] at H
  have c99b0:=eq_true c99
  have c99b1:decide ((rdOf ByteArray.empty t213 a0).size + 5 ≤ 9223372036854775807) = true:=decide_eq_true c99
  try have c99b2:(9223372036854775807 < (rdOf ByteArray.empty t213 a0).size + 5) = False:=eq_false (Nat.not_lt.2 c99)
  obtain rfl:=Option.some.inj H
  go_enter Tryz.func103,Tryz.ntmps103
  go_wp2_with (first | ((with_reducible refine gate_dst (N:=12) rfl ?_);refine Kd.R_lit Kd.string _ 9 ?hg (N:=12) ?hd (xs:=([(⟨#[98,99]⟩:ByteArray),(⟨#[100,101]⟩:ByteArray),(⟨#[104,108]⟩:ByteArray),(⟨#[97,102]⟩:ByteArray)]:List ByteArray)) (inner:=[.string (⟨#[98,99]⟩:ByteArray),.string (⟨#[100,101]⟩:ByteArray),.string (⟨#[104,108]⟩:ByteArray),.string (⟨#[97,102]⟩:ByteArray)]) (ok:=fun _ => True) (okp:=fun _ => True) ?hr ?hp (fun _ hk => hk) trivial (Below.refl _ _) (Nat.le_refl _) (by simp) ?_;(case hd => rfl);(case hg => rfl);(case hr => exact q108_);(case hp => exact q101_);intro v177 w100 ho101 hb hg_ hnew_;clear hg_ hnew_;(first | rw [← Ny176.out] at ho101 | (simp only [Int.reduceToNat] at ho101;rw [← Ny176.out] at ho101));have n0_:=Aside0.mk (Kd.R_lower ho101 (below_size q42_));have n1_:=Aside0.mk (below_step q42_ hb);clear HB;have HO178:=n0_;have HB:=n1_;clear n0_ n1_;clear hb ho101) | ((with_reducible refine gate_callee (f:=102) rfl ?_);refine goesL_ (some 87) rfl rfl Tryz.func102 (by kernel_rfl) rfl #[] rfl q40_ ?_;(with_reducible refine (spec_l3Alus.calls  t213 _ A96.out).mono ?_);rintro e w102 ⟨v214,rfl,ho0,hb⟩;refine ⟨_,rfl,?_⟩;have n0_:=Aside0.mk (Kd.R_elder' q60_ (Kd.R_base ho0) hb);have n1_:=Aside0.mk (Kd.R_lower (Kd.R_new' ho0 (Kd.R_lt q60_)) (below_size q42_));have n2_:=Aside0.mk (below_step q42_ hb);clear HO178;clear HB;have HO178:=n0_;have HO215:=n1_;have HB:=n2_;clear n0_ n1_ n2_;(try clear hb);(try clear ho0);obtain ⟨Ao103,co103,eo103⟩:=Kd.R_slice HO215.out;subst eo103;have p216:0 ≤ (a0:Int):=of_decide_eq_true q83_;have q216:a0 < (t213.length:Int):=of_decide_eq_true q83_;obtain ⟨ad216,e216,hx216_0⟩:=Kd.at_string (Kd.R_reads' HO215.out).2.2 a0 p216 q216;cases e216;replace p216:=eq_true p216;replace q216:=eq_true q216))
  go_ret
  exact ⟨q47_,q42_⟩
 rw [if_neg c95] at H
 have c95b0:(a1 == 6) = false:=beq_eq_false_iff_ne.mpr c95
 have c95b1:(a1 != 6) = true:=bne_iff_ne.mpr c95
 replace H:=Option.bind_eq_some_iff.mp H
 obtain ⟨t217,A1040,H⟩:=H
 have A104:=Aside0.mk A1040
 clear A1040
 by_cases c105:4 + t217.size ≤ 9223372036854775807
 rotate_left
 ·rw [if_neg c105] at H
  exact absurd H (by simp)
 rw [if_pos c105] at H
 have c105b0:=eq_true c105
 have c105b1:decide (4 + t217.size ≤ 9223372036854775807) = true:=decide_eq_true c105
 try have c105b2:(9223372036854775807 < 4 + t217.size) = False:=eq_false (Nat.not_lt.2 c105)
 obtain rfl:=Option.some.inj H
 go_enter Tryz.func103,Tryz.ntmps103
 go_wp2_with (first | ((with_reducible refine gate_dst (N:=12) rfl ?_);refine Kd.R_lit Kd.string _ 9 ?hg (N:=12) ?hd (xs:=([(⟨#[98,99]⟩:ByteArray),(⟨#[100,101]⟩:ByteArray),(⟨#[104,108]⟩:ByteArray),(⟨#[97,102]⟩:ByteArray)]:List ByteArray)) (inner:=[.string (⟨#[98,99]⟩:ByteArray),.string (⟨#[100,101]⟩:ByteArray),.string (⟨#[104,108]⟩:ByteArray),.string (⟨#[97,102]⟩:ByteArray)]) (ok:=fun _ => True) (okp:=fun _ => True) ?hr ?hp (fun _ hk => hk) trivial (Below.refl _ _) (Nat.le_refl _) (by simp) ?_;(case hd => rfl);(case hg => rfl);(case hr => exact q108_);(case hp => exact q101_);intro v177 w106 ho107 hb hg_ hnew_;clear hg_ hnew_;(first | rw [← Ny176.out] at ho107 | (simp only [Int.reduceToNat] at ho107;rw [← Ny176.out] at ho107));have n0_:=Aside0.mk (Kd.R_lower ho107 (below_size q42_));have n1_:=Aside0.mk (below_step q42_ hb);clear HB;have HO178:=n0_;have HB:=n1_;clear n0_ n1_;clear hb ho107) | ((with_reducible refine gate_callee (f:=70) rfl ?_);refine goesL_ (some 94) rfl rfl Tryz.func70 (by kernel_rfl) rfl #[.int .i64 (wrap64 (8 * a0)),.int .i64 2] rfl q9_ ?_;(with_reducible refine (spec_HexOf.calls k (wrap64 (8 * a0)) 2 t217 _ A104.out).mono ?_);rintro e w' ⟨rfl,⟨nd,rfl⟩⟩;refine ⟨_,rfl,?_⟩))
 go_ret
 exact ⟨q47_,q42_⟩
end Go.Proofs.YtodlnnoekccmmaaGreatDoor.QFnExactMarksOf
