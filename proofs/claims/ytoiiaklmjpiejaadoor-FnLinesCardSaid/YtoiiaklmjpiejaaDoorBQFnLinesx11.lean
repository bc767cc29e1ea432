/- The machine's side of a law,written by a program of this session for this claim. -/
import Derived.Test.YtoiiaklmjpiejaaDoorBQq
import Derived.Test.YtoiiaklmjpiejaaDoorBQFnLinesx0
namespace Go.Proofs.YtoiiaklmjpiejaaDoor.QFnLines
open Go.Proofs.YtoiiaklmjpiejaaDoor.Qq
open Go.RowKit Go.Proofs.YtoiiaklmjpiejaaDoor.LibX Go.Proofs.YtoiiaklmjpiejaaDoor.LibE Go.Proofs.YtoiiaklmjpiejaaDoor.LibCB Go.Proofs.YtoiiaklmjpiejaaDoor.LibT Go.Proofs.YtoiiaklmjpiejaaDoorW.PrintWords Go.Proofs.YtoiiaklmjpiejaaDoorW.PrintLast Go.Proofs.YtoiiaklmjpiejaaDoorW.PrintMore
attribute [local go_sem] max2_int min2_int max_two min_two max_three min_three max_four min_four   -- for this text's walks alone
set_option maxHeartbeats 8000000
set_option maxRecDepth 100000
set_option linter.unusedVariables false
set_option linter.unusedSimpArgs false
mutual
def spec_l7Trim.j1:Nat → ByteArray → Option (ByteArray)
 | 0,_ => none
 | k + 1,x0 => spec_l7Trim.l1 k x0
def spec_l7Trim.l1:Nat → ByteArray → Option (ByteArray)
 | 0,_ => none
 | k + 1,x0 => if x0.toList = ([]:List UInt8) then (some x0) else (if 0 ≤ (wrap64 ((x0.size:Int) - 1)) then (if (wrap64 ((x0.size:Int) - 1)) < (x0.size:Int) then (if (bt x0 (wrap64 ((x0.size:Int) - 1))) = 32 then (if (wrap64 ((x0.size:Int) - 1)) ≤ (x0.size:Int) then (spec_l7Trim.l1 k (x0.extract 0 ((wrap64 ((x0.size:Int) - 1)):Int).toNat)) else (none)) else (some x0)) else (none)) else (none))
def spec_l7Trim.l0:Nat → ByteArray → Option (ByteArray)
 | 0,_ => none
 | k + 1,x0 => if x0.toList = ([]:List UInt8) then (spec_l7Trim.j1 k x0) else (if 0 < (x0.size:Int) then (if (bt x0 0) = 32 then (if 1 ≤ (x0.size:Int) then (spec_l7Trim.l0 k (x0.extract 1 x0.size)) else (none)) else (spec_l7Trim.j1 k x0)) else (none))
end
def spec_l7Trim.f (k:Nat) (a0:ByteArray):Option (ByteArray):=spec_l7Trim.l0 k a0
theorem spec_l7Trim.calls (k:Nat) (a0:ByteArray) (r:ByteArray) (w:World) (h:spec_l7Trim.f k a0 = some r) :
  Calls Tryd.prog 45 #[.string a0] w fun e w' => e = .returned (.string r) ∧ Drawn0 w w':=by
 have H:(spec_l7Trim.l0 k a0) = some r:=h
 clear h
 have HC2:=Aside0.mk H
 clear H
 go_enter Tryd.func45,Tryd.ntmps45
 go_upto_block 0 with (fail)
 go_cut [0] (fun v0 wc => ∃ (kq:Nat) (x0_1:ByteArray),v0 = .string x0_1 ∧ Aside0 (spec_l7Trim.j1 kq x0_1 = some r) ∧ Aside0 (kq ≤ k) ∧ Drawn0 w wc)
 case first =>
  have H:=HC2.out
  clear HC2
  have H':=Aside0.mk H
  clear H
  go_wp2
  go_loopg [0] k (fun kq v0 w' => ∃ (x0_1:ByteArray),v0 = .string x0_1 ∧ Aside0 (spec_l7Trim.l0 kq x0_1 = some r) ∧ Aside0 (kq ≤ k) ∧ Drawn0 w w')
  case atStart => exact ⟨(a0),q101_,H',⟨Nat.le_refl _⟩,q108_⟩
  clear H'
  try clear p2
  obtain ⟨x0_1,rfl,HA,HK1,⟨m1,rfl⟩⟩:=hrel
  cases gk with
  | zero => exact absurd HA.out (by simp [spec_l7Trim.l0])
  | succ k1 =>
   have H:=HA.out
   clear HA
   simp only [spec_l7Trim.l0] at H
   by_cases c3:x0_1.toList = ([]:List UInt8)
   ·rw [if_pos c3] at H
    have c3b0:(x0_1.toList == ([]:List UInt8)) = true:=beq_iff_eq.mpr c3
    have c3b1:(x0_1.toList != ([]:List UInt8)) = false:=bne_eq_false_iff_eq.mpr c3
    have c3b9:x0_1.toList.isEmpty = true:=(isEmpty_beq _).trans c3b0
    clear c3
    (first | rw [c3b0] | (simp only [i64_w,i32_w];rw [c3b0]) | rw [c3b9] | skip)
    have H':=Aside0.mk H
    clear H
    go_wp2
    go_meet
    case rel => exact ⟨_,(x0_1),q101_,H',⟨q110_⟩,q108_⟩
   rw [if_neg c3] at H
   have c3b0:(x0_1.toList == ([]:List UInt8)) = false:=beq_eq_false_iff_ne.mpr c3
   have c3b1:(x0_1.toList != ([]:List UInt8)) = true:=bne_iff_ne.mpr c3
   have c3b9:x0_1.toList.isEmpty = false:=(isEmpty_beq _).trans c3b0
   (first | rw [c3b0] | (simp only [i64_w,i32_w];rw [c3b0]) | rw [c3b9] | skip)
   by_cases c4:0 < (x0_1.size:Int)
   rotate_left
   ·rw [if_neg c4] at H
    exact absurd H (by simp)
   rw [if_pos c4] at H
   have c4b0:=decide_eq_true c4
   have c4b1:decide (0 < x0_1.size) = true:=decide_eq_true (by omega)
   clear c4
   by_cases c6:(bt x0_1 0) = 32
   ·rw [if_pos c6] at H
    have c6b0:((bt x0_1 0) == 32) = true:=beq_iff_eq.mpr c6
    have c6b1:((bt x0_1 0) != 32) = false:=bne_eq_false_iff_eq.mpr c6
    clear c6
    by_cases c7:1 ≤ (x0_1.size:Int)
    rotate_left
    ·rw [if_neg c7] at H
     exact absurd H (by simp)
    rw [if_pos c7] at H
    have c7b0:=eq_true c7
    have c7b1:=decide_eq_true c7
    clear c7
    have H':=Aside0.mk H
    clear H
    have p5:0 ≤ (0:Int):=(by omega)
    have q5:0 < x0_1.size:=(by have:(0:Int) < (x0_1.size:Int):=of_decide_eq_true q113_;omega)
    have hx5:∀ h:0 < x0_1.size,((x0_1[0]'h).toNat:Int) = bt x0_1 0:=bt_at x0_1 0
    clear p5
    have qi5:(0 < (x0_1.size:Int)) = True:=eq_true (of_decide_eq_true q113_)
    replace q5:=eq_true q5
    go_wp2
    go_roundg k1
    case measure => have:=HK1.out;omega
    case rel => exact ⟨(x0_1.extract 1 x0_1.size),q101_,H',⟨by have:=HK1.out;omega⟩,q108_⟩
   rw [if_neg c6] at H
   have c6b0:((bt x0_1 0) == 32) = false:=beq_eq_false_iff_ne.mpr c6
   have c6b1:((bt x0_1 0) != 32) = true:=bne_iff_ne.mpr c6
   have H':=Aside0.mk H
   clear H
   have p5:0 ≤ (0:Int):=(by omega)
   have q5:0 < x0_1.size:=(by have:(0:Int) < (x0_1.size:Int):=of_decide_eq_true q113_;omega)
   have hx5:∀ h:0 < x0_1.size,((x0_1[0]'h).toNat:Int) = bt x0_1 0:=bt_at x0_1 0
   clear p5
   have qi5:(0 < (x0_1.size:Int)) = True:=eq_true (of_decide_eq_true q113_)
   replace q5:=eq_true q5
   go_wp2
   go_meet
   case rel => exact ⟨_,(x0_1),q101_,H',⟨q110_⟩,q108_⟩
 clear HC2
 try clear p2 p2
 try clear c3
 try clear c3b0
 try clear c3b1
 try clear c4
 try clear c4b0
 try clear c4b1
 try clear p5 p5
 try clear q5 q5
 try clear hx5
 try clear qi5
 try clear c6
 try clear c6b0
 try clear c6b1
 try clear p6
 try clear c7
 try clear c7b0
 try clear c7b1
 obtain ⟨kq,x0_1,rfl,HA,HJ1,⟨mc1,rfl⟩⟩:=hcut
 cases kq with
 | zero => exact absurd HA.out (by simp [spec_l7Trim.j1])
 | succ kj1 =>
  have H:=HA.out
  clear HA
  simp only [spec_l7Trim.j1] at H
  have H':=Aside0.mk H
  clear H
  go_wp2
  go_loopg [0] kj1 (fun kq v0 w' => ∃ (x0_2:ByteArray),v0 = .string x0_2 ∧ Aside0 (spec_l7Trim.l1 kq x0_2 = some r) ∧ Aside0 (kq ≤ kj1) ∧ Drawn0 w w')
  case atStart => exact ⟨(x0_1),q101_,H',⟨Nat.le_refl _⟩,q108_⟩
  clear H'
  try clear c1
  try clear p2 p2
  try clear c3
  try clear c3b0
  try clear c3b1
  try clear c4
  try clear c4b0
  try clear c4b1
  try clear p5 p5
  try clear q5 q5
  try clear hx5
  try clear qi5
  try clear c6
  try clear c6b0
  try clear c6b1
  try clear p6 p6
  try clear c7
  try clear c7b0
  try clear c7b1
  obtain ⟨x0_2,rfl,HA,HK2,⟨m2,rfl⟩⟩:=hrel
  cases gk with
  | zero => exact absurd HA.out (by simp [spec_l7Trim.l1])
  | succ k2 =>
   have H:=HA.out
   clear HA
   simp only [spec_l7Trim.l1] at H
   by_cases c8:x0_2.toList = ([]:List UInt8)
   ·rw [if_pos c8] at H
    have c8b0:(x0_2.toList == ([]:List UInt8)) = true:=beq_iff_eq.mpr c8
    have c8b1:(x0_2.toList != ([]:List UInt8)) = false:=bne_eq_false_iff_eq.mpr c8
    have c8b9:x0_2.toList.isEmpty = true:=(isEmpty_beq _).trans c8b0
    clear c8
    obtain rfl:=Option.some.inj H
    go_wp2
    go_ret
    exact ⟨q101_,q108_⟩
   rw [if_neg c8] at H
   have c8b0:(x0_2.toList == ([]:List UInt8)) = false:=beq_eq_false_iff_ne.mpr c8
   have c8b1:(x0_2.toList != ([]:List UInt8)) = true:=bne_iff_ne.mpr c8
   have c8b9:x0_2.toList.isEmpty = false:=(isEmpty_beq _).trans c8b0
   obtain ⟨ji9,hji9⟩:∃ j_:Int,(wrap64 ((x0_2.size:Int) - 1)) = j_:=⟨_,rfl⟩
   (first | rewrite [hji9] at H | simp only [hji9] at H)
   have hji9w:(IntKind.i64.wrap ((x0_2.size:Int) - 1)) = ji9:=(i64_w _).trans hji9
   by_cases c10:0 ≤ (ji9)
   rotate_left
   ·rw [if_neg c10] at H
    exact absurd H (by simp)
   rw [if_pos c10] at H
   have c10b0:=decide_eq_true c10
   clear c10
   by_cases c11:(ji9) < (x0_2.size:Int)
   rotate_left
   ·rw [if_neg c11] at H
    exact absurd H (by simp)
   rw [if_pos c11] at H
   have c11b0:=decide_eq_true c11
   clear c11
   by_cases c13:(bt x0_2 (ji9)) = 32
   ·rw [if_pos c13] at H
    have c13b0:((bt x0_2 (ji9)) == 32) = true:=beq_iff_eq.mpr c13
    have c13b1:((bt x0_2 (ji9)) != 32) = false:=bne_eq_false_iff_eq.mpr c13
    clear c13
    have c14b0:=eq_true (of_decide_eq_true q113_:0 ≤ (ji9))
    by_cases c15:(ji9) ≤ (x0_2.size:Int)
    rotate_left
    ·rw [if_neg c15] at H
     exact absurd H (by simp)
    rw [if_pos c15] at H
    have c15b0:=eq_true c15
    have c15b1:=decide_eq_true c15
    clear c15
    have H':=Aside0.mk H
    clear H
    have p12:0 ≤ ((ji9):Int):=of_decide_eq_true q113_
    have q12:(ji9) < (x0_2.size:Int):=of_decide_eq_true q113_
    have hx12:=bt_at x0_2 (ji9)
    replace p12:=eq_true p12
    replace q12:=eq_true q12
    go_wp2
    go_roundg k2
    case measure => have:=HJ1.out;have:=HK2.out;omega
    case rel => exact ⟨(x0_2.extract 0 ((ji9):Int).toNat),q62_,(by first | with_reducible exact H' | (have H2_:=H';simp only [← hji9] at H2_ ⊢;with_reducible exact H2_) | exact H'),⟨by have:=HJ1.out;have:=HK2.out;omega⟩,q108_⟩
   rw [if_neg c13] at H
   have c13b0:((bt x0_2 (ji9)) == 32) = false:=beq_eq_false_iff_ne.mpr c13
   have c13b1:((bt x0_2 (ji9)) != 32) = true:=bne_iff_ne.mpr c13
   obtain rfl:=Option.some.inj H
   have p12:0 ≤ ((ji9):Int):=of_decide_eq_true q113_
   have q12:(ji9) < (x0_2.size:Int):=of_decide_eq_true q113_
   have hx12:=bt_at x0_2 (ji9)
   replace p12:=eq_true p12
   replace q12:=eq_true q12
   go_wp2
   go_ret
   exact ⟨q62_,q108_⟩
mutual
def spec_l7Slim.l0:Nat → ByteArray → ByteArray → Int → Option (ByteArray)
 | 0,_,_,_ => none
 | k + 1,x0,x3,x4 => if x4 < (x0.size:Int) then (if 0 ≤ x4 then (if (bt x0 x4) = 32 then (if (x3.size:Int) > 0 then (if 0 ≤ (wrap64 ((x3.size:Int) - 1)) then (if (wrap64 ((x3.size:Int) - 1)) < (x3.size:Int) then (if (bt x3 (wrap64 ((x3.size:Int) - 1))) = 32 then (spec_l7Slim.j1 k x0 x3 x4 (x3.size:Int) true) else (spec_l7Slim.j1 k x0 x3 x4 (x3.size:Int) ((bt x3 (wrap64 ((x3.size:Int) - 1))) == 44))) else (none)) else (none)) else (spec_l7Slim.j1 k x0 x3 x4 (x3.size:Int) false)) else (spec_l7Slim.j1 k x0 x3 x4 (x3.size:Int) false)) else (none)) else ((spec_l7Trim.f k x3).bind fun t253 => (some t253))
def spec_l7Slim.j1:Nat → ByteArray → ByteArray → Int → Int → Bool → Option (ByteArray)
 | 0,_,_,_,_,_ => none
 | k + 1,x0,x3,x4,x5,x35 => if x35 = true then (spec_l7Slim.l0 k x0 x3 (wrap64 (x4 + 1))) else (if 0 ≤ x4 then (if x4 < (x0.size:Int) then (if (bt x0 x4) = 44 then (if x5 > 0 then (if 0 ≤ (wrap64 (x5 - 1)) then (if (wrap64 (x5 - 1)) < (x3.size:Int) then (spec_l7Slim.j2 k x0 x3 x4 x5 ((bt x3 (wrap64 (x5 - 1))) == 32)) else (none)) else (none)) else (spec_l7Slim.j2 k x0 x3 x4 x5 false)) else (spec_l7Slim.j2 k x0 x3 x4 x5 false)) else (none)) else (none))
def spec_l7Slim.j2:Nat → ByteArray → ByteArray → Int → Int → Bool → Option (ByteArray)
 | 0,_,_,_,_,_ => none
 | k + 1,x0,x3,x4,x5,x50 => if x50 = true then (if 0 ≤ (wrap64 (x5 - 1)) then (if (wrap64 (x5 - 1)) ≤ (x3.size:Int) then (if 0 ≤ x4 then (if x4 ≤ (wrap64 (x4 + 1)) then (if (wrap64 (x4 + 1)) ≤ (x0.size:Int) then (if (x3.extract 0 ((wrap64 (x5 - 1)):Int).toNat).size + (x0.extract (x4:Int).toNat ((wrap64 (x4 + 1)):Int).toNat).size ≤ 9223372036854775807 then (spec_l7Slim.l0 k x0 ((x3.extract 0 ((wrap64 (x5 - 1)):Int).toNat) ++ (x0.extract (x4:Int).toNat ((wrap64 (x4 + 1)):Int).toNat)) (wrap64 (x4 + 1))) else (none)) else (none)) else (none)) else (none)) else (none)) else (none)) else (if 0 ≤ x4 then (if x4 ≤ (wrap64 (x4 + 1)) then (if (wrap64 (x4 + 1)) ≤ (x0.size:Int) then (if x3.size + (x0.extract (x4:Int).toNat ((wrap64 (x4 + 1)):Int).toNat).size ≤ 9223372036854775807 then (spec_l7Slim.l0 k x0 (x3 ++ (x0.extract (x4:Int).toNat ((wrap64 (x4 + 1)):Int).toNat)) (wrap64 (x4 + 1))) else (none)) else (none)) else (none)) else (none))
end
def spec_l7Slim.f (k:Nat) (a0:ByteArray):Option (ByteArray):=spec_l7Slim.l0 k a0 (⟨#[]⟩:ByteArray) 0
theorem spec_l7Slim.calls (k:Nat) (a0:ByteArray) (r:ByteArray) (w:World) (h:spec_l7Slim.f k a0 = some r) :
  Calls Tryd.prog 46 #[.string a0] w fun e w' => e = .returned (.string r) ∧ Drawn0 w w':=by
 have H:(spec_l7Slim.l0 k a0 (⟨#[]⟩:ByteArray) 0) = some r:=h
 clear h
 have H':=Aside0.mk H
 clear H
 go_enter Tryd.func46,Tryd.ntmps46
 go_wp2
 go_loopg [3,4] k (fun kq v3 v4 w' => ∃ (x3_1:ByteArray) (x4_1:Int),v3 = .string x3_1 ∧ v4 = .int .i64 x4_1 ∧ Aside0 (spec_l7Slim.l0 kq a0 x3_1 x4_1 = some r) ∧ Aside0 (kq ≤ k) ∧ Drawn0 w w')
 case atStart => exact ⟨((⟨#[]⟩:ByteArray)),(0),q101_,q101_,H',⟨Nat.le_refl _⟩,q108_⟩
 clear H'
 obtain ⟨x3_1,x4_1,rfl,rfl,HA,HK1,⟨m1,rfl⟩⟩:=hrel
 cases gk with
 | zero => exact absurd HA.out (by simp [spec_l7Slim.l0])
 | succ k1 =>
  have H:=HA.out
  clear HA
  simp only [spec_l7Slim.l0] at H
  by_cases c2:x4_1 < (a0.size:Int)
  ·rw [if_pos c2] at H
   have c2b0:=decide_eq_true c2
   clear c2
   have HC3:=Aside0.mk H
   clear H
   go_upto_region 6 with (fail)
   go_cut [35] (fun v35 wc => ∃ (kq:Nat) (x35_2:Bool),v35 = .bool x35_2 ∧ Aside0 (spec_l7Slim.j1 kq a0 x3_1 x4_1 (x3_1.size:Int) x35_2 = some r) ∧ Aside0 (kq ≤ k1) ∧ Drawn0 w wc)
   case first =>
    have H:=HC3.out
    clear HC3
    by_cases c4:0 ≤ x4_1
    rotate_left
    ·rw [if_neg c4] at H
     exact absurd H (by simp)
    rw [if_pos c4] at H
    have c4b0:=decide_eq_true c4
    clear c4
    (first | rw [c4b0] | (simp only [i64_w,i32_w];rw [c4b0]) | rw [c4b9] | skip)
    by_cases c6:(bt a0 x4_1) = 32
    ·rw [if_pos c6] at H
     have c6b0:((bt a0 x4_1) == 32) = true:=beq_iff_eq.mpr c6
     have c6b1:((bt a0 x4_1) != 32) = false:=bne_eq_false_iff_eq.mpr c6
     clear c6
     by_cases c7:(x3_1.size:Int) > 0
     ·rw [if_pos c7] at H
      have c7b0:decide (0 < (x3_1.size:Int)) = true:=decide_eq_true c7
      have c7b1:decide (0 < x3_1.size) = true:=decide_eq_true (by omega)
      clear c7
      obtain ⟨ji8,hji8⟩:∃ j_:Int,(wrap64 ((x3_1.size:Int) - 1)) = j_:=⟨_,rfl⟩
      (first | rewrite [hji8] at H | simp only [hji8] at H)
      have hji8w:(IntKind.i64.wrap ((x3_1.size:Int) - 1)) = ji8:=(i64_w _).trans hji8
      by_cases c9:0 ≤ (ji8)
      rotate_left
      ·rw [if_neg c9] at H
       exact absurd H (by simp)
      rw [if_pos c9] at H
      have c9b0:=decide_eq_true c9
      clear c9
      by_cases c10:(ji8) < (x3_1.size:Int)
      rotate_left
      ·rw [if_neg c10] at H
       exact absurd H (by simp)
      rw [if_pos c10] at H
      have c10b0:=decide_eq_true c10
      clear c10
      by_cases c12:(bt x3_1 (ji8)) = 32
      ·rw [if_pos c12] at H
       have c12b0:((bt x3_1 (ji8)) == 32) = true:=beq_iff_eq.mpr c12
       have c12b1:((bt x3_1 (ji8)) != 32) = false:=bne_eq_false_iff_eq.mpr c12
       clear c12
       have H':=Aside0.mk H
       clear H
       have p5:0 ≤ (x4_1:Int):=of_decide_eq_true q113_
       have q5:x4_1 < (a0.size:Int):=of_decide_eq_true q113_
       have hx5:=bt_at a0 x4_1
       replace p5:=eq_true p5
       replace q5:=eq_true q5
       have p11:0 ≤ ((ji8):Int):=of_decide_eq_true q113_
       have q11:(ji8) < (x3_1.size:Int):=of_decide_eq_true q113_
       have hx11:=bt_at x3_1 (ji8)
       replace p11:=eq_true p11
       replace q11:=eq_true q11
       go_wp2
       go_meet
       case rel => exact ⟨_,(true),q101_,q100_,⟨q110_⟩,q108_⟩
      rw [if_neg c12] at H
      have c12b0:((bt x3_1 (ji8)) == 32) = false:=beq_eq_false_iff_ne.mpr c12
      have c12b1:((bt x3_1 (ji8)) != 32) = true:=bne_iff_ne.mpr c12
      have H':=Aside0.mk H
      clear H
      have p5:0 ≤ (x4_1:Int):=of_decide_eq_true q113_
      have q5:x4_1 < (a0.size:Int):=of_decide_eq_true q113_
      have hx5:=bt_at a0 x4_1
      replace p5:=eq_true p5
      replace q5:=eq_true q5
      have p11:0 ≤ ((ji8):Int):=of_decide_eq_true q113_
      have q11:(ji8) < (x3_1.size:Int):=of_decide_eq_true q113_
      have hx11:=bt_at x3_1 (ji8)
      replace p11:=eq_true p11
      replace q11:=eq_true q11
      have p13:0 ≤ ((ji8):Int):=of_decide_eq_true q113_
      have q13:(ji8) < (x3_1.size:Int):=of_decide_eq_true q113_
      have hx13:=bt_at x3_1 (ji8)
      replace p13:=eq_true p13
      replace q13:=eq_true q13
      go_wp2
      go_meet
      case rel => exact ⟨_,(((bt x3_1 (ji8)) == 44)),q61_,q100_,⟨q110_⟩,q108_⟩
     rw [if_neg c7] at H
     have c7b0:decide (0 < (x3_1.size:Int)) = false:=decide_eq_false c7
     have c7b1:decide (0 < x3_1.size) = false:=decide_eq_false (by omega)
     clear c7
     have H':=Aside0.mk H
     clear H
     have p5:0 ≤ (x4_1:Int):=of_decide_eq_true q113_
     have q5:x4_1 < (a0.size:Int):=of_decide_eq_true q113_
     have hx5:=bt_at a0 x4_1
     replace p5:=eq_true p5
     replace q5:=eq_true q5
     go_wp2
     go_meet
     case rel => exact ⟨_,(false),q101_,H',⟨q110_⟩,q108_⟩
    rw [if_neg c6] at H
    have c6b0:((bt a0 x4_1) == 32) = false:=beq_eq_false_iff_ne.mpr c6
    have c6b1:((bt a0 x4_1) != 32) = true:=bne_iff_ne.mpr c6
    have H':=Aside0.mk H
    clear H
    have p5:0 ≤ (x4_1:Int):=of_decide_eq_true q113_
    have q5:x4_1 < (a0.size:Int):=of_decide_eq_true q113_
    have hx5:=bt_at a0 x4_1
    replace p5:=eq_true p5
    replace q5:=eq_true q5
    go_wp2
    go_meet
    case rel => exact ⟨_,(false),q101_,H',⟨q110_⟩,q108_⟩
   clear HC3
   try clear c1
   try clear p1
   try clear q1
   try clear hx1
   try clear c2
   try clear c2b0
   try clear p2
   try clear c4
   try clear c4b0
   try clear p5 p5
   try clear q5 q5
   try clear hx5
   try clear c6
   try clear c6b0
   try clear c6b1
   try clear p6
   try clear c7
   try clear c7b0
   try clear c7b1
   try clear c9
   try clear c9b0
   try clear c10
   try clear c10b0
   try clear p11 p11
   try clear q11 q11
   try clear hx11
   try clear c12
   try clear c12b0
   try clear c12b1
   try clear p13 p13
   try clear q13 q13
   try clear hx13
   obtain ⟨kq,x35_2,rfl,HA,HJ2,⟨mc2,rfl⟩⟩:=hcut
   cases kq with
   | zero => exact absurd HA.out (by simp [spec_l7Slim.j1])
   | succ kj2 =>
    have H:=HA.out
    clear HA
    simp only [spec_l7Slim.j1] at H
    by_cases c14:x35_2 = true
    ·subst c14
     rewrite [if_pos rfl] at H
     have H':=Aside0.mk H
     clear H
     go_wp2
     go_roundg kj2
     case measure => have:=HK1.out;have:=HJ2.out;omega
     case rel => exact ⟨(x3_1),(wrap64 (x4_1 + 1)),q101_,q101_,H',⟨q114_⟩,q108_⟩
    replace c14:=Bool.eq_false_iff.mpr c14
    subst c14
    rewrite [if_neg (show ¬ (false = true) by decide)] at H
    have HC15:=Aside0.mk H
    clear H
    go_upto_region 7 with (fail)
    go_cut [50] (fun v50 wc => ∃ (kq:Nat) (x50_14:Bool),v50 = .bool x50_14 ∧ Aside0 (spec_l7Slim.j2 kq a0 x3_1 x4_1 (x3_1.size:Int) x50_14 = some r) ∧ Aside0 (kq ≤ kj2) ∧ Drawn0 w wc)
    case first =>
     have H:=HC15.out
     clear HC15
     by_cases c16:0 ≤ x4_1
     rotate_left
     ·rw [if_neg c16] at H
      exact absurd H (by simp)
     rw [if_pos c16] at H
     have c16b0:=decide_eq_true c16
     clear c16
     (first | rw [c16b0] | (simp only [i64_w,i32_w];rw [c16b0]) | rw [c16b9] | skip)
     by_cases c17:x4_1 < (a0.size:Int)
     rotate_left
     ·rw [if_neg c17] at H
      exact absurd H (by simp)
     rw [if_pos c17] at H
     have c17b0:=decide_eq_true c17
     clear c17
     by_cases c19:(bt a0 x4_1) = 44
     ·rw [if_pos c19] at H
      have c19b0:((bt a0 x4_1) == 44) = true:=beq_iff_eq.mpr c19
      have c19b1:((bt a0 x4_1) != 44) = false:=bne_eq_false_iff_eq.mpr c19
      clear c19
      by_cases c20:(x3_1.size:Int) > 0
      ·rw [if_pos c20] at H
       have c20b0:decide (0 < (x3_1.size:Int)) = true:=decide_eq_true c20
       have c20b1:decide (0 < x3_1.size) = true:=decide_eq_true (by omega)
       clear c20
       obtain ⟨ji21,hji21⟩:∃ j_:Int,(wrap64 ((x3_1.size:Int) - 1)) = j_:=⟨_,rfl⟩
       (first | rewrite [hji21] at H | simp only [hji21] at H)
       have hji21w:(IntKind.i64.wrap ((x3_1.size:Int) - 1)) = ji21:=(i64_w _).trans hji21
       by_cases c22:0 ≤ (ji21)
       rotate_left
       ·rw [if_neg c22] at H
        exact absurd H (by simp)
       rw [if_pos c22] at H
       have c22b0:=decide_eq_true c22
       clear c22
       by_cases c23:(ji21) < (x3_1.size:Int)
       rotate_left
       ·rw [if_neg c23] at H
        exact absurd H (by simp)
       rw [if_pos c23] at H
       have c23b0:=decide_eq_true c23
       clear c23
       have H':=Aside0.mk H
       clear H
       have p18:0 ≤ (x4_1:Int):=of_decide_eq_true q113_
       have q18:x4_1 < (a0.size:Int):=of_decide_eq_true q113_
       have hx18:=bt_at a0 x4_1
       replace p18:=eq_true p18
       replace q18:=eq_true q18
       have p24:0 ≤ ((ji21):Int):=of_decide_eq_true q113_
       have q24:(ji21) < (x3_1.size:Int):=of_decide_eq_true q113_
       have hx24:=bt_at x3_1 (ji21)
       replace p24:=eq_true p24
       replace q24:=eq_true q24
       go_wp2
       go_meet
       case rel => exact ⟨_,(((bt x3_1 (ji21)) == 32)),(by first | rfl | (simp;done) | (simp only [← hji21] <;> (first | rfl | (simp;done))) | (simp [*];done) | (simp;decide +kernel) | (simp [wrap64];done) | (simp [bne];done)),(by first | with_reducible exact H' | (have H2_:=H';simp only [← hji21] at H2_ ⊢;with_reducible exact H2_) | exact H'),⟨q107_⟩,q108_⟩
      rw [if_neg c20] at H
      have c20b0:decide (0 < (x3_1.size:Int)) = false:=decide_eq_false c20
      have c20b1:decide (0 < x3_1.size) = false:=decide_eq_false (by omega)
      clear c20
      have H':=Aside0.mk H
      clear H
      have p18:0 ≤ (x4_1:Int):=of_decide_eq_true q113_
      have q18:x4_1 < (a0.size:Int):=of_decide_eq_true q113_
      have hx18:=bt_at a0 x4_1
      replace p18:=eq_true p18
      replace q18:=eq_true q18
      go_wp2
      go_meet
      case rel => exact ⟨_,(false),q101_,H',⟨q107_⟩,q108_⟩
     rw [if_neg c19] at H
     have c19b0:((bt a0 x4_1) == 44) = false:=beq_eq_false_iff_ne.mpr c19
     have c19b1:((bt a0 x4_1) != 44) = true:=bne_iff_ne.mpr c19
     have H':=Aside0.mk H
     clear H
     have p18:0 ≤ (x4_1:Int):=of_decide_eq_true q113_
     have q18:x4_1 < (a0.size:Int):=of_decide_eq_true q113_
     have hx18:=bt_at a0 x4_1
     replace p18:=eq_true p18
     replace q18:=eq_true q18
     go_wp2
     go_meet
     case rel => exact ⟨_,(false),q101_,H',⟨q107_⟩,q108_⟩
    clear HC15
    try clear c1
    try clear p1 p1
    try clear q1 q1
    try clear hx1
    try clear c2
    try clear c2b0
    try clear p2 p2
    try clear q2
    try clear hx2
    try clear c4
    try clear c4b0
    try clear p5 p5
    try clear q5 q5
    try clear hx5
    try clear c6
    try clear c6b0
    try clear c6b1
    try clear p6 p6
    try clear c7
    try clear c7b0
    try clear c7b1
    try clear c9
    try clear c9b0
    try clear c10
    try clear c10b0
    try clear p11 p11
    try clear q11 q11
    try clear hx11
    try clear c12
    try clear c12b0
    try clear c12b1
    try clear p13 p13
    try clear q13 q13
    try clear hx13
    try clear c14
    try clear c16
    try clear c16b0
    try clear c17
    try clear c17b0
    try clear p18 p18
    try clear q18 q18
    try clear hx18
    try clear c19
    try clear c19b0
    try clear c19b1
    try clear c20
    try clear c20b0
    try clear c20b1
    try clear c22
    try clear c22b0
    try clear c23
    try clear c23b0
    try clear p24 p24
    try clear q24 q24
    try clear hx24
    obtain ⟨kq,x50_14,rfl,HA,HJ14,⟨mc14,rfl⟩⟩:=hcut
    cases kq with
    | zero => exact absurd HA.out (by simp [spec_l7Slim.j2])
    | succ kj14 =>
     have H:=HA.out
     clear HA
     simp only [spec_l7Slim.j2] at H
     by_cases c25:x50_14 = true
     ·subst c25
      rewrite [if_pos rfl] at H
      obtain ⟨ji26,hji26⟩:∃ j_:Int,(wrap64 ((x3_1.size:Int) - 1)) = j_:=⟨_,rfl⟩
      (first | rewrite [hji26] at H | simp only [hji26] at H)
      have hji26w:(IntKind.i64.wrap ((x3_1.size:Int) - 1)) = ji26:=(i64_w _).trans hji26
      by_cases c27:0 ≤ (ji26)
      rotate_left
      ·rw [if_neg c27] at H
       exact absurd H (by simp)
      rw [if_pos c27] at H
      have c27b0:=eq_true c27
      have c27b1:=decide_eq_true c27
      clear c27
      by_cases c28:(ji26) ≤ (x3_1.size:Int)
      rotate_left
      ·rw [if_neg c28] at H
       exact absurd H (by simp)
      rw [if_pos c28] at H
      have c28b0:=eq_true c28
      have c28b1:=decide_eq_true c28
      clear c28
      by_cases c29:0 ≤ x4_1
      rotate_left
      ·rw [if_neg c29] at H
       exact absurd H (by simp)
      rw [if_pos c29] at H
      have c29b0:=eq_true c29
      have c29b1:=decide_eq_true c29
      clear c29
      by_cases c30:x4_1 ≤ (wrap64 (x4_1 + 1))
      rotate_left
      ·rw [if_neg c30] at H
       exact absurd H (by simp)
      rw [if_pos c30] at H
      have c30b0:=eq_true c30
      have c30b1:=decide_eq_true c30
      by_cases c31:(wrap64 (x4_1 + 1)) ≤ (a0.size:Int)
      rotate_left
      ·rw [if_neg c31] at H
       exact absurd H (by simp)
      rw [if_pos c31] at H
      have c31b0:=eq_true c31
      have c31b1:=decide_eq_true c31
      by_cases c32:(x3_1.extract 0 ((ji26):Int).toNat).size + (a0.extract (x4_1:Int).toNat ((wrap64 (x4_1 + 1)):Int).toNat).size ≤ 9223372036854775807
      rotate_left
      ·rw [if_neg c32] at H
       exact absurd H (by simp)
      rw [if_pos c32] at H
      have c32b0:=eq_true c32
      (try (have c32b0e:=c32b0;simp only [ByteArray.size_append,ByteArray.size_extract,Nat.min_self,Nat.sub_zero] at c32b0e))
      (try (have c32b0f:=c32b0e;simp only [show min ((wrap64 (x4_1 + 1)):Int).toNat a0.size = ((wrap64 (x4_1 + 1)):Int).toNat from Nat.min_eq_left (by have q_:(wrap64 (x4_1 + 1)) ≤ (a0.size:Int):=of_decide_eq_true q113_;omega),show min ((ji26):Int).toNat x3_1.size = ((ji26):Int).toNat from Nat.min_eq_left (by have q_:(ji26) ≤ (x3_1.size:Int):=of_decide_eq_true q113_;omega)] at c32b0f))
      have c32b1:=decide_eq_true c32
      (try (have c32b1e:=c32b1;simp only [ByteArray.size_append,ByteArray.size_extract,Nat.min_self,Nat.sub_zero] at c32b1e))
      (try (have c32b1f:=c32b1e;simp only [show min ((wrap64 (x4_1 + 1)):Int).toNat a0.size = ((wrap64 (x4_1 + 1)):Int).toNat from Nat.min_eq_left (by have q_:(wrap64 (x4_1 + 1)) ≤ (a0.size:Int):=of_decide_eq_true q113_;omega),show min ((ji26):Int).toNat x3_1.size = ((ji26):Int).toNat from Nat.min_eq_left (by have q_:(ji26) ≤ (x3_1.size:Int):=of_decide_eq_true q113_;omega)] at c32b1f))
      try have c32b2:(9223372036854775807 < (x3_1.extract 0 ((ji26):Int).toNat).size + (a0.extract (x4_1:Int).toNat ((wrap64 (x4_1 + 1)):Int).toNat).size) = False:=eq_false (Nat.not_lt.2 c32)
      (try (have c32b2e:=c32b2;simp only [ByteArray.size_append,ByteArray.size_extract,Nat.min_self,Nat.sub_zero] at c32b2e))
      (try (first | (have c32b2p:=eq_true (of_decide_eq_true c32b2e)) | (have c32b2p:=eq_false (of_decide_eq_false c32b2e))))
      (try (have c32b2f:=c32b2e;simp only [show min ((wrap64 (x4_1 + 1)):Int).toNat a0.size = ((wrap64 (x4_1 + 1)):Int).toNat from Nat.min_eq_left (by have q_:(wrap64 (x4_1 + 1)) ≤ (a0.size:Int):=of_decide_eq_true q113_;omega),show min ((ji26):Int).toNat x3_1.size = ((ji26):Int).toNat from Nat.min_eq_left (by have q_:(ji26) ≤ (x3_1.size:Int):=of_decide_eq_true q113_;omega)] at c32b2f))
      have H':=Aside0.mk H
      clear H
      go_wp2
      go_roundg kj14
      case measure => have:=HK1.out;have:=HJ2.out;have:=HJ14.out;omega
      case rel => exact ⟨((x3_1.extract 0 ((ji26):Int).toNat) ++ (a0.extract (x4_1:Int).toNat ((wrap64 (x4_1 + 1)):Int).toNat)),(wrap64 (x4_1 + 1)),(by first | rfl | (simp;done) | (simp only [← hji26] <;> (first | rfl | (simp;done))) | (simp [*];done) | (simp;decide +kernel) | (simp [wrap64];done) | (simp [bne];done)),q101_,(by first | with_reducible exact H' | (have H2_:=H';simp only [← hji26] at H2_ ⊢;with_reducible exact H2_) | exact H'),⟨by have:=HK1.out;have:=HJ2.out;have:=HJ14.out;omega⟩,q108_⟩
     replace c25:=Bool.eq_false_iff.mpr c25
     subst c25
     rewrite [if_neg (show ¬ (false = true) by decide)] at H
     by_cases c33:0 ≤ x4_1
     rotate_left
     ·rw [if_neg c33] at H
      exact absurd H (by simp)
     rw [if_pos c33] at H
     have c33b0:=eq_true c33
     have c33b1:=decide_eq_true c33
     clear c33
     by_cases c34:x4_1 ≤ (wrap64 (x4_1 + 1))
     rotate_left
     ·rw [if_neg c34] at H
      exact absurd H (by simp)
     rw [if_pos c34] at H
     have c34b0:=eq_true c34
     have c34b1:=decide_eq_true c34
     by_cases c35:(wrap64 (x4_1 + 1)) ≤ (a0.size:Int)
     rotate_left
     ·rw [if_neg c35] at H
      exact absurd H (by simp)
     rw [if_pos c35] at H
     have c35b0:=eq_true c35
     have c35b1:=decide_eq_true c35
     by_cases c36:x3_1.size + (a0.extract (x4_1:Int).toNat ((wrap64 (x4_1 + 1)):Int).toNat).size ≤ 9223372036854775807
     rotate_left
     ·rw [if_neg c36] at H
      exact absurd H (by simp)
     rw [if_pos c36] at H
     have c36b0:=eq_true c36
     (try (have c36b0e:=c36b0;simp only [ByteArray.size_append,ByteArray.size_extract,Nat.min_self,Nat.sub_zero] at c36b0e))
     (try (have c36b0f:=c36b0e;simp only [show min ((wrap64 (x4_1 + 1)):Int).toNat a0.size = ((wrap64 (x4_1 + 1)):Int).toNat from Nat.min_eq_left (by have q_:(wrap64 (x4_1 + 1)) ≤ (a0.size:Int):=of_decide_eq_true q113_;omega)] at c36b0f))
     have c36b1:=decide_eq_true c36
     (try (have c36b1e:=c36b1;simp only [ByteArray.size_append,ByteArray.size_extract,Nat.min_self,Nat.sub_zero] at c36b1e))
     (try (have c36b1f:=c36b1e;simp only [show min ((wrap64 (x4_1 + 1)):Int).toNat a0.size = ((wrap64 (x4_1 + 1)):Int).toNat from Nat.min_eq_left (by have q_:(wrap64 (x4_1 + 1)) ≤ (a0.size:Int):=of_decide_eq_true q113_;omega)] at c36b1f))
     try have c36b2:(9223372036854775807 < x3_1.size + (a0.extract (x4_1:Int).toNat ((wrap64 (x4_1 + 1)):Int).toNat).size) = False:=eq_false (Nat.not_lt.2 c36)
     (try (have c36b2e:=c36b2;simp only [ByteArray.size_append,ByteArray.size_extract,Nat.min_self,Nat.sub_zero] at c36b2e))
     (try (first | (have c36b2p:=eq_true (of_decide_eq_true c36b2e)) | (have c36b2p:=eq_false (of_decide_eq_false c36b2e))))
     (try (have c36b2f:=c36b2e;simp only [show min ((wrap64 (x4_1 + 1)):Int).toNat a0.size = ((wrap64 (x4_1 + 1)):Int).toNat from Nat.min_eq_left (by have q_:(wrap64 (x4_1 + 1)) ≤ (a0.size:Int):=of_decide_eq_true q113_;omega)] at c36b2f))
     have H':=Aside0.mk H
     clear H
     go_wp2
     go_roundg kj14
     case measure => have:=HK1.out;have:=HJ2.out;have:=HJ14.out;omega
     case rel => exact ⟨(x3_1 ++ (a0.extract (x4_1:Int).toNat ((wrap64 (x4_1 + 1)):Int).toNat)),(wrap64 (x4_1 + 1)),q101_,q101_,H',⟨by have:=HK1.out;have:=HJ2.out;have:=HJ14.out;omega⟩,q108_⟩
  rw [if_neg c2] at H
  have c2b0:=decide_eq_false c2
  clear c2
  replace H:=Option.bind_eq_some_iff.mp H
  obtain ⟨t253,A370,H⟩:=H
  have A37:=Aside0.mk A370
  clear A370
  obtain rfl:=Option.some.inj H
  go_wp2_with (first | ((with_reducible refine gate_callee (f:=45) rfl ?_);refine goesL_ (some 63) rfl rfl Tryd.func45 (by kernel_rfl) rfl #[.string x3_1] rfl q82_ ?_;(with_reducible refine (spec_l7Trim.calls k1 x3_1 t253 _ A37.out).mono ?_);rintro e w' ⟨rfl,⟨nd,rfl⟩⟩;refine ⟨_,rfl,?_⟩))
  go_ret
  exact ⟨q101_,q108_⟩
end Go.Proofs.YtoiiaklmjpiejaaDoor.QFnLines
